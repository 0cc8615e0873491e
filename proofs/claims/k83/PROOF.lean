import PyProof.Rows.All
import Wide.All
import OpenK.AllK
import Wide.FinOn
import HandS.ForMost
import HandS.Conv
import HandS.Deep
import HandS.TupMul
import HandS.TupAny
import HandS.Style
import HandS.IsInst
import HandS.SortInts
import HandS.Zip
import HandS.Defaults
import KE.GoesNew
import KE.GoesEnum
import HandS.TupLe
import HandS.TupSets
import HandS.Strs
import KE.KeyNested
import KE.SortCalls
import HandS.Words
import HandS.Codes
import HandS.Head0
import HandS.Head1
import HandS.Head2
import HandS.HeadEnd
import HandS.HeadHook1
import HandS.HeadHook2
import HandS.HeadHook3
import HandS.HeadHook4
import PySem.Challenge.RW_everyproof_k83_whole_formulas_between_tu
set_option Elab.async false
set_option linter.all false
set_option maxRecDepth 100000
/-! Values as data over the hand layer: a def is a function from arguments and a store to a value and a store. -/
namespace G
open PySem PySem.Spec PyProof.Rows L2

/-- a value: tuples and lists that never change are data; ref n is the n-th thing of the store -/
inductive D where
  | non
  | bl (b : Bool)
  | int (i : Int)
  | str (x : Str)
  | tup (ds : List D)
  | lst (ds : List D)
  | rol (ds : List D)
  | ref (n : Nat)

/-- what the store holds -/
inductive MO where
  | lst (ds : List D)
  | dct (kvs : List (Key × D))
  | ins (c : Nat) (fs : List (Str × D))

abbrev Mo := List MO
abbrev Lo := List (Option D)

/-- the written part, the classes by number -/
structure Wd where
  K : PySem.W.Frag
  cl : Nat → Addr

/-- where the store's things are; lists that are being made and that nothing speaks of -/
structure Rh where
  m : List Addr
  v : List Addr
instance : Membership Addr Rh := ⟨fun ρ a => a ∈ ρ.m ∨ a ∈ ρ.v⟩
def Rh.push (ρ : Rh) (p : Addr) : Rh := ⟨ρ.m ++ [p], ρ.v⟩
theorem Rh.mem_m {ρ : Rh} {a : Addr} (h : a ∈ ρ.m) : a ∈ ρ := Or.inl h
theorem Rh.mem_v {ρ : Rh} {a : Addr} (h : a ∈ ρ.v) : a ∈ ρ := Or.inr h
theorem Rh.not_mem {ρ : Rh} {a : Addr} (h1 : a ∉ ρ.m) (h2 : a ∉ ρ.v) : a ∉ ρ := fun z => z.elim h1 h2
def KTup (K : PySem.W.Frag) (a : Addr) (xs : List V) : Prop :=
  ∃ (o : Obj) (its : Array Value) (n : Nat), K.lookup a = some o ∧ o.cls = .type "tuple" ∧ o.data = .seq its n ∧ its.size ≤ sizeLine ∧ Vals xs its.toList
def TupAt (K : PySem.W.Frag) (H : Hp) (ρ : Rh) (a : Addr) (xs : List V) : Prop := (H a = some (.tup xs) ∧ a ∉ ρ) ∨ KTup K a xs
/-- a list that is read only: the script -/
def RolAt (K : PySem.W.Frag) (H : Hp) (ρ : Rh) (a : Addr) (xs : List V) : Prop := (∃ o, H a = some (.frz o (.lst xs)) ∧ a ∉ ρ) ∨
  ∃ (o : Obj) (its : Array Value) (n : Nat), K.lookup a = some o ∧ o.cls = .type "list" ∧ o.dict = none ∧ o.data = .seq its n ∧ its.size ≤ sizeLine ∧ Vals xs its.toList
def LstAt (H : Hp) (ρ : Rh) (a : Addr) (xs : List V) : Prop := H a = some (.lst xs) ∧ a ∉ ρ

mutual
/-- v is the datum d -/
inductive DR (K : PySem.W.Frag) (H : Hp) (ρ : Rh) : V → D → Prop
  | non : DR K H ρ .non .non
  | bl (b : Bool) : DR K H ρ (.bl b) (.bl b)
  | int (i : Int) : DR K H ρ (.int i) (.int i)
  | str (x : Str) : DR K H ρ (.str x) (.str x)
  | tup {a : Addr} {xs : List V} {ds : List D} : TupAt K H ρ a xs → DRs K H ρ xs ds → DR K H ρ (.ref a) (.tup ds)
  | lst {a : Addr} {xs : List V} {ds : List D} : LstAt H ρ a xs → DRs K H ρ xs ds → DR K H ρ (.ref a) (.lst ds)
  | rol {a : Addr} {xs : List V} {ds : List D} : RolAt K H ρ a xs → DRs K H ρ xs ds → DR K H ρ (.ref a) (.rol ds)
  | ref {a : Addr} {n : Nat} : ρ.m[n]? = some a → DR K H ρ (.ref a) (.ref n)
inductive DRs (K : PySem.W.Frag) (H : Hp) (ρ : Rh) : List V → List D → Prop
  | nil : DRs K H ρ [] []
  | cons {v : V} {vs : List V} {d : D} {ds : List D} : DR K H ρ v d → DRs K H ρ vs ds → DRs K H ρ (v :: vs) (d :: ds)
end

/-- what may happen to the heap: the things of the store may change, new things may come; all else stands -/
structure Gr (H : Hp) (ρ : Rh) (H' : Hp) (ρ' : Rh) : Prop where
  pre : ρ.m <+: ρ'.m
  keep : ∀ a o, H a = some o → a ∉ ρ → H' a = some o ∧ a ∉ ρ'
  vol : ρ'.v = ρ.v
  hid : ∀ a o, a ∈ ρ.v → H a = some o → H' a = some o
theorem Gr.refl (H : Hp) (ρ : Rh) : Gr H ρ H ρ := ⟨List.prefix_refl _, fun _ _ h n => ⟨h, n⟩, rfl, fun _ _ _ h => h⟩
theorem Gr.trans {H H1 H2 : Hp} {ρ ρ1 ρ2 : Rh} (a : Gr H ρ H1 ρ1) (b : Gr H1 ρ1 H2 ρ2) : Gr H ρ H2 ρ2 :=
  ⟨a.pre.trans b.pre, fun c o h n => let ⟨h1, n1⟩ := a.keep c o h n; b.keep c o h1 n1, b.vol.trans a.vol, fun c o hc h => b.hid c o (by rw [a.vol]; exact hc) (a.hid c o hc h)⟩

section
variable {K : PySem.W.Frag} {H H' : Hp} {ρ ρ' : Rh}
theorem getElem?_pre {α : Type} {l l' : List α} {n : Nat} {x : α} (p : l <+: l') (h : l[n]? = some x) : l'[n]? = some x := by
  obtain ⟨r, rfl⟩ := p
  rw [List.getElem?_append_left (List.getElem?_eq_some_iff.mp h).1]
  exact h
/-- what makes data stay: their tuples and lists stand -/
structure Kp (H : Hp) (ρ : Rh) (H' : Hp) (ρ' : Rh) : Prop where
  pre : ρ.m <+: ρ'.m
  keep : ∀ a o, H a = some o → a ∉ ρ → H' a = some o ∧ a ∉ ρ'
theorem Gr.kp (g : Gr H ρ H' ρ') : Kp H ρ H' ρ' := ⟨g.pre, g.keep⟩
theorem Kp.refl (H : Hp) (ρ : Rh) : Kp H ρ H ρ := (Gr.refl H ρ).kp
theorem Kp.trans {H H1 H2 : Hp} {ρ ρ1 ρ2 : Rh} (a : Kp H ρ H1 ρ1) (b : Kp H1 ρ1 H2 ρ2) : Kp H ρ H2 ρ2 :=
  ⟨a.pre.trans b.pre, fun c o h n => let ⟨h1, n1⟩ := a.keep c o h n; b.keep c o h1 n1⟩
theorem TupAt.stay (g : Kp H ρ H' ρ') {a : Addr} {xs : List V} (h : TupAt K H ρ a xs) : TupAt K H' ρ' a xs := by
  rcases h with ⟨h, n⟩ | h
  · exact .inl (g.keep a _ h n)
  · exact .inr h
theorem RolAt.stay (g : Kp H ρ H' ρ') {a : Addr} {xs : List V} (h : RolAt K H ρ a xs) : RolAt K H' ρ' a xs := by
  rcases h with ⟨o, h, n⟩ | h
  · exact .inl ⟨o, g.keep a _ h n⟩
  · exact .inr h
theorem RolAt.sq {a : Addr} {xs : List V} (h : RolAt K H ρ a xs) : SqL K H a xs := by
  rcases h with ⟨o, h, _⟩ | h
  · exact .inl (.inr ⟨o, h⟩)
  · exact .inr h
theorem LstAt.stay (g : Kp H ρ H' ρ') {a : Addr} {xs : List V} (h : LstAt H ρ a xs) : LstAt H' ρ' a xs := g.keep a _ h.1 h.2
mutual
theorem DR.stay (g : Kp H ρ H' ρ') : ∀ {v : V} {d : D}, DR K H ρ v d → DR K H' ρ' v d
  | _, .non, .non => .non
  | _, .bl b, .bl _ => .bl b
  | _, .int i, .int _ => .int i
  | _, .str x, .str _ => .str x
  | _, .tup ds, .tup h hs => .tup (h.stay g) (DRs.stay g hs)
  | _, .lst ds, .lst h hs => .lst (h.stay g) (DRs.stay g hs)
  | _, .rol ds, .rol h hs => .rol (h.stay g) (DRs.stay g hs)
  | _, .ref n, .ref h => .ref (getElem?_pre g.pre h)
theorem DRs.stay (g : Kp H ρ H' ρ') : ∀ {vs : List V} {ds : List D}, DRs K H ρ vs ds → DRs K H' ρ' vs ds
  | _, [], .nil => .nil
  | _, _ :: _, .cons h hs => .cons (DR.stay g h) (DRs.stay g hs)
end
theorem DR.mono (g : Gr H ρ H' ρ') {v : V} {d : D} (h : DR K H ρ v d) : DR K H' ρ' v d := h.stay g.kp
theorem DRs.mono (g : Gr H ρ H' ρ') {vs : List V} {ds : List D} (h : DRs K H ρ vs ds) : DRs K H' ρ' vs ds := h.stay g.kp
theorem TupAt.sq {a : Addr} {xs : List V} (h : TupAt K H ρ a xs) : SqT K H a xs := by
  rcases h with ⟨h, _⟩ | h
  · exact .inl (.inl h)
  · exact .inr h
theorem DRs.length : ∀ {vs : List V} {ds : List D}, DRs K H ρ vs ds → vs.length = ds.length
  | _, [], .nil => rfl
  | _, _ :: _, .cons _ hs => by rw [List.length_cons, List.length_cons, DRs.length hs]
theorem DRs.get : ∀ {vs : List V} {ds : List D} {i : Nat} {d : D}, DRs K H ρ vs ds → ds[i]? = some d → ∃ v, vs[i]? = some v ∧ DR K H ρ v d
  | _, [], _, _, .nil, e => by simp at e
  | _, _ :: _, 0, _, .cons h _, e => by simp at e; subst e; exact ⟨_, rfl, h⟩
  | _, _ :: _, i + 1, _, .cons _ hs, e => by
    obtain ⟨v, e1, h1⟩ := DRs.get (i := i) hs (by simpa using e)
    exact ⟨v, by simpa using e1, h1⟩
theorem DRs.getV : ∀ {vs : List V} {ds : List D} {i : Nat} {v : V}, DRs K H ρ vs ds → vs[i]? = some v → ∃ d, ds[i]? = some d ∧ DR K H ρ v d
  | _, [], _, _, .nil, e => by simp at e
  | _, _ :: _, 0, _, .cons h _, e => by simp at e; subst e; exact ⟨_, rfl, h⟩
  | _, _ :: _, i + 1, _, .cons _ hs, e => by
    obtain ⟨v, e1, h1⟩ := DRs.getV (i := i) hs (by simpa using e)
    exact ⟨v, by simpa using e1, h1⟩
theorem DRs.append : ∀ {vs ws : List V} {ds es : List D}, DRs K H ρ vs ds → DRs K H ρ ws es → DRs K H ρ (vs ++ ws) (ds ++ es)
  | _, _, [], _, .nil, k => k
  | _, _, _ :: _, _, .cons h hs, k => .cons h (DRs.append hs k)
theorem DRs.take : ∀ (n : Nat) {vs : List V} {ds : List D}, DRs K H ρ vs ds → DRs K H ρ (vs.take n) (ds.take n)
  | 0, _, _, _ => .nil
  | _ + 1, _, _, .nil => .nil
  | n + 1, _, _, .cons h hs => .cons h (DRs.take n hs)
theorem DRs.drop : ∀ (n : Nat) {vs : List V} {ds : List D}, DRs K H ρ vs ds → DRs K H ρ (vs.drop n) (ds.drop n)
  | 0, _, _, h => h
  | _ + 1, _, _, .nil => .nil
  | n + 1, _, _, .cons _ hs => DRs.drop n hs
theorem DRs.reverse : ∀ {vs : List V} {ds : List D}, DRs K H ρ vs ds → DRs K H ρ vs.reverse ds.reverse
  | _, _, .nil => .nil
  | _, _, .cons h hs => by rw [List.reverse_cons, List.reverse_cons]; exact (DRs.reverse hs).append (.cons h .nil)
theorem DRs.set : ∀ (i : Nat) {vs : List V} {ds : List D} {v : V} {d : D}, DRs K H ρ vs ds → DR K H ρ v d → DRs K H ρ (vs.set i v) (ds.set i d)
  | _, _, _, _, _, .nil, _ => .nil
  | 0, _, _, _, _, .cons _ hs, k => .cons k hs
  | i + 1, _, _, _, _, .cons h hs, k => .cons h (DRs.set i hs k)
theorem DRs.eraseIdx : ∀ (i : Nat) {vs : List V} {ds : List D}, DRs K H ρ vs ds → DRs K H ρ (vs.eraseIdx i) (ds.eraseIdx i)
  | _, _, _, .nil => .nil
  | 0, _, _, .cons _ hs => hs
  | i + 1, _, _, .cons h hs => .cons h (DRs.eraseIdx i hs)
theorem DRs.dropLast {vs : List V} {ds : List D} (h : DRs K H ρ vs ds) : DRs K H ρ vs.dropLast ds.dropLast := by
  rw [List.dropLast_eq_take, List.dropLast_eq_take, h.length]
  exact h.take _
theorem DRs.ints : ∀ (ns : List Int), DRs K H ρ (ns.map V.int) (ns.map D.int)
  | [] => .nil
  | n :: ns => .cons (.int n) (DRs.ints ns)
theorem DRs.int_of : ∀ {ns : List Int} {vs : List V}, DRs K H ρ vs (ns.map D.int) → vs = ns.map V.int
  | [], _, .nil => rfl
  | n :: ns, _, .cons h hs => by
    cases h
    rw [DRs.int_of hs]
    rfl
end

/-! ### the store -/
def Flds (K : PySem.W.Frag) (H : Hp) (ρ : Rh) (vs : List (Str × V)) (fs : List (Str × D)) : Prop := vs.map (·.1) = fs.map (·.1) ∧ DRs K H ρ (vs.map (·.2)) (fs.map (·.2))
def KVs (K : PySem.W.Frag) (H : Hp) (ρ : Rh) (vs : List (Key × V)) (fs : List (Key × D)) : Prop := vs.map (·.1) = fs.map (·.1) ∧ DRs K H ρ (vs.map (·.2)) (fs.map (·.2))
def MR (W : Wd) (H : Hp) (ρ : Rh) (a : Addr) : MO → Prop
  | .lst ds => ∃ xs, H a = some (.lst xs) ∧ DRs W.K H ρ xs ds
  | .dct kvs => ∃ vs, H a = some (.dK vs) ∧ KVs W.K H ρ vs kvs ∧ (kvs.map (·.1)).Nodup
  | .ins c fs => ∃ dx vs, H a = some (.ins (W.cl c) dx vs) ∧ Flds W.K H ρ vs fs
structure Rep (W : Wd) (H : Hp) (ρ : Rh) (M : Mo) : Prop where
  nd : ρ.m.Nodup
  len : ρ.m.length = M.length
  hid : ∀ a, a ∈ ρ.v → (∃ o, H a = some o) ∧ a ∉ ρ.m
  mem : ∀ (i : Nat) (a : Addr) (o : MO), ρ.m[i]? = some a → M[i]? = some o → MR W H ρ a o
section
variable {W : Wd} {H H' : Hp} {ρ ρ' : Rh} {M : Mo}
theorem MR.stay (g : Kp H ρ H' ρ') {a : Addr} {o : MO} (h : MR W H ρ a o) (e : ∀ u, H a = some u → H' a = some u) : MR W H' ρ' a o := by
  cases o with
  | lst ds => obtain ⟨xs, h1, h2⟩ := h; exact ⟨xs, e _ h1, h2.stay g⟩
  | dct kvs => obtain ⟨vs, h1, ⟨h2, h3⟩, h4⟩ := h; exact ⟨vs, e _ h1, ⟨h2, h3.stay g⟩, h4⟩
  | ins c fs => obtain ⟨dx, vs, h1, h2, h3⟩ := h; exact ⟨dx, vs, e _ h1, h2, h3.stay g⟩
theorem MR.mono (g : Gr H ρ H' ρ') {a : Addr} {o : MO} (h : MR W H ρ a o) (e : ∀ u, H a = some u → H' a = some u) : MR W H' ρ' a o := by
  cases o with
  | lst ds => obtain ⟨xs, h1, h2⟩ := h; exact ⟨xs, e _ h1, h2.mono g⟩
  | dct kvs => obtain ⟨vs, h1, ⟨h2, h3⟩, h4⟩ := h; exact ⟨vs, e _ h1, ⟨h2, h3.mono g⟩, h4⟩
  | ins c fs => obtain ⟨dx, vs, h1, h2, h3⟩ := h; exact ⟨dx, vs, e _ h1, h2, h3.mono g⟩
theorem MR.some_ {a : Addr} {o : MO} (h : MR W H ρ a o) : ∃ u, H a = some u := by
  cases o with
  | lst ds => obtain ⟨xs, h1, _⟩ := h; exact ⟨_, h1⟩
  | dct kvs => obtain ⟨vs, h1, _⟩ := h; exact ⟨_, h1⟩
  | ins c fs => obtain ⟨dx, vs, h1, _⟩ := h; exact ⟨_, h1⟩
theorem Rep.there (R : Rep W H ρ M) {a : Addr} (h : a ∈ ρ) : ∃ u, H a = some u := by
  rcases h with h | h
  · obtain ⟨i, hi, e⟩ := List.getElem_of_mem h
    have h1 : ρ.m[i]? = some a := by rw [List.getElem?_eq_getElem hi, e]
    have h2 : i < M.length := by rw [← R.len]; exact hi
    exact (R.mem i a _ h1 (List.getElem?_eq_getElem h2)).some_
  · exact (R.hid a h).1
theorem Rep.fresh (R : Rep W H ρ M) {p : Addr} (h : H p = none) : p ∉ ρ := fun hm => by
  obtain ⟨u, e⟩ := R.there hm
  rw [h] at e; cases e
theorem Rep.get (R : Rep W H ρ M) {i : Nat} {o : MO} (h : M[i]? = some o) : ∃ a, ρ.m[i]? = some a ∧ MR W H ρ a o := by
  have h2 : i < ρ.m.length := by rw [R.len]; exact (List.getElem?_eq_some_iff.mp h).1
  exact ⟨ρ.m[i], List.getElem?_eq_getElem h2, R.mem i _ o (List.getElem?_eq_getElem h2) h⟩
theorem Rep.at_ (R : Rep W H ρ M) {i : Nat} {a : Addr} {o : MO} (h : ρ.m[i]? = some a) (e : M[i]? = some o) : MR W H ρ a o := R.mem i a o h e
theorem nodup_ix {α : Type} {l : List α} (nd : l.Nodup) {i j : Nat} {x : α} (hi : l[i]? = some x) (hj : l[j]? = some x) : i = j := by
  obtain ⟨l1, g1⟩ := List.getElem?_eq_some_iff.mp hi
  obtain ⟨l2, g2⟩ := List.getElem?_eq_some_iff.mp hj
  have key := List.pairwise_iff_getElem.mp nd
  rcases Nat.lt_trichotomy i j with z | z | z
  · exact absurd (g1.trans g2.symm) (key i j l1 l2 z)
  · exact z
  · exact absurd (g2.trans g1.symm) (key j i l2 l1 z)
/-- a new thing that never changes -/
theorem Gr.new {H : Hp} {ρ : Rh} {p : Addr} {o : HO} (h : H p = none) : Gr H ρ (upd H p o) ρ :=
  ⟨List.prefix_refl _, fun a u e n => ⟨by rw [upd_ne (ne_of_none e h)]; exact e, n⟩, rfl, fun a u _ e => by rw [upd_ne (ne_of_none e h)]; exact e⟩
theorem Rep.new (R : Rep W H ρ M) {p : Addr} {o : HO} (h : H p = none) : Rep W (upd H p o) ρ M :=
  ⟨R.nd, R.len, fun a ha => let ⟨⟨u, e⟩, n⟩ := R.hid a ha; ⟨⟨u, by rw [upd_ne (ne_of_none e h)]; exact e⟩, n⟩, fun i a u h1 h2 => (R.mem i a u h1 h2).mono (Gr.new h) fun v e => by rw [upd_ne (ne_of_none e h)]; exact e⟩
/-- a new thing of the store -/
theorem Gr.push {H : Hp} {ρ : Rh} {p : Addr} {o : HO} (h : H p = none) : Gr H ρ (upd H p o) (ρ.push p) :=
  ⟨List.prefix_append ρ.m [p], fun a u e n => ⟨by rw [upd_ne (ne_of_none e h)]; exact e, fun hm => by
    rcases hm with z | z
    · rcases List.mem_append.mp z with z | z
      · exact n (.inl z)
      · exact ne_of_none e h (List.mem_singleton.mp z)
    · exact n (.inr z)⟩, rfl, fun a u _ e => by rw [upd_ne (ne_of_none e h)]; exact e⟩
theorem Rep.push (R : Rep W H ρ M) {p : Addr} {o : HO} {m : MO} (h : H p = none) (hm : MR W (upd H p o) (ρ.push p) p m) : Rep W (upd H p o) (ρ.push p) (M ++ [m]) := by
  refine ⟨?_, by simp [Rh.push, R.len], fun a ha => ?_, fun i a u h1 h2 => ?_⟩
  · exact List.nodup_append.mpr ⟨R.nd, by simp, fun a ha b hb => by
      rw [List.mem_singleton] at hb
      subst hb
      intro z
      subst z
      exact R.fresh h (.inl ha)⟩
  · obtain ⟨⟨u, e⟩, n⟩ := R.hid a ha
    refine ⟨⟨u, by rw [upd_ne (ne_of_none e h)]; exact e⟩, fun z => ?_⟩
    rcases List.mem_append.mp z with z | z
    · exact n z
    · exact ne_of_none e h (List.mem_singleton.mp z)
  · have h1 : (ρ.m ++ [p])[i]? = some a := h1
    by_cases hi : i < ρ.m.length
    · rw [List.getElem?_append_left hi] at h1
      rw [List.getElem?_append_left (by rw [← R.len]; exact hi)] at h2
      exact (R.mem i a u h1 h2).mono (Gr.push h) fun v e => by rw [upd_ne (ne_of_none e h)]; exact e
    · have hj : i = ρ.m.length := by
        have := (List.getElem?_eq_some_iff.mp h1).1
        simp at this
        omega
      subst hj
      rw [List.getElem?_append_right (Nat.le_refl _), Nat.sub_self] at h1
      rw [List.getElem?_append_right (by rw [R.len]; exact Nat.le_refl _), R.len, Nat.sub_self] at h2
      simp at h1 h2
      subst h1; subst h2
      exact hm
/-- a thing of the store changes -/
theorem Gr.put (R : Rep W H ρ M) {p : Addr} {o : HO} (h : p ∈ ρ.m) : Gr H ρ (upd H p o) ρ :=
  ⟨List.prefix_refl _, fun a u e n => ⟨by rw [upd_ne (fun z : a = p => n (by rw [z]; exact .inl h))]; exact e, n⟩, rfl, fun a u ha e => by
    rw [upd_ne (fun z : a = p => (R.hid a ha).2 (by rw [z]; exact h))]; exact e⟩
theorem Rep.put (R : Rep W H ρ M) {i : Nat} {p : Addr} {o : HO} {m : MO} (h : ρ.m[i]? = some p) (hm : MR W (upd H p o) ρ p m) : Rep W (upd H p o) ρ (M.set i m) := by
  have hp : p ∈ ρ.m := List.mem_of_getElem? h
  refine ⟨R.nd, by simp [R.len], fun a ha => ?_, fun j a u h1 h2 => ?_⟩
  · obtain ⟨⟨u, e⟩, n⟩ := R.hid a ha
    exact ⟨⟨u, by rw [upd_ne (fun z : a = p => n (by rw [z]; exact hp))]; exact e⟩, n⟩
  by_cases hj : j = i
  · subst hj
    rw [h] at h1
    cases h1
    have hl : j < M.length := by rw [← R.len]; exact (List.getElem?_eq_some_iff.mp h).1
    rw [List.getElem?_set_self hl] at h2
    cases h2
    exact hm
  · rw [List.getElem?_set_ne (fun z => hj z.symm)] at h2
    have hne : a ≠ p := fun z => by
      subst z
      exact hj (nodup_ix R.nd h1 h)
    exact (R.mem j a u h1 h2).mono (Gr.put R hp) fun v e => by rw [upd_ne hne]; exact e
/-! a list that is being made changes -/
mutual
theorem DR.hide {K : PySem.W.Frag} {H : Hp} {ρ : Rh} {p : Addr} {o : HO} (hp : p ∈ ρ.v) : ∀ {v : V} {d : D}, DR K H ρ v d → DR K (upd H p o) ρ v d
  | _, .non, .non => .non
  | _, .bl b, .bl _ => .bl b
  | _, .int i, .int _ => .int i
  | _, .str x, .str _ => .str x
  | _, .tup ds, .tup h hs => .tup (h.elim (fun ⟨e, n⟩ => .inl ⟨by rw [upd_ne (fun z => n (by rw [z]; exact .inr hp))]; exact e, n⟩) .inr) (DRs.hide hp hs)
  | _, .lst ds, .lst ⟨e, n⟩ hs => .lst ⟨by rw [upd_ne (fun z => n (by rw [z]; exact .inr hp))]; exact e, n⟩ (DRs.hide hp hs)
  | _, .rol ds, .rol h hs => .rol (h.elim (fun ⟨o, e, n⟩ => .inl ⟨o, by rw [upd_ne (fun z => n (by rw [z]; exact .inr hp))]; exact e, n⟩) .inr) (DRs.hide hp hs)
  | _, .ref n, .ref h => .ref h
theorem DRs.hide {K : PySem.W.Frag} {H : Hp} {ρ : Rh} {p : Addr} {o : HO} (hp : p ∈ ρ.v) : ∀ {vs : List V} {ds : List D}, DRs K H ρ vs ds → DRs K (upd H p o) ρ vs ds
  | _, [], .nil => .nil
  | _, _ :: _, .cons h hs => .cons (DR.hide hp h) (DRs.hide hp hs)
end
mutual
theorem DR.less {K : PySem.W.Frag} {H : Hp} {ρ ρ' : Rh} (hm : ρ'.m = ρ.m) (hv : ∀ a, a ∉ ρ → a ∉ ρ') : ∀ {v : V} {d : D}, DR K H ρ v d → DR K H ρ' v d
  | _, .non, .non => .non
  | _, .bl b, .bl _ => .bl b
  | _, .int i, .int _ => .int i
  | _, .str x, .str _ => .str x
  | _, .tup ds, .tup h hs => .tup (h.elim (fun ⟨e, n⟩ => .inl ⟨e, hv _ n⟩) .inr) (DRs.less hm hv hs)
  | _, .lst ds, .lst ⟨e, n⟩ hs => .lst ⟨e, hv _ n⟩ (DRs.less hm hv hs)
  | _, .rol ds, .rol h hs => .rol (h.elim (fun ⟨o, e, n⟩ => .inl ⟨o, e, hv _ n⟩) .inr) (DRs.less hm hv hs)
  | _, .ref n, .ref h => .ref (by rw [hm]; exact h)
theorem DRs.less {K : PySem.W.Frag} {H : Hp} {ρ ρ' : Rh} (hm : ρ'.m = ρ.m) (hv : ∀ a, a ∉ ρ → a ∉ ρ') : ∀ {vs : List V} {ds : List D}, DRs K H ρ vs ds → DRs K H ρ' vs ds
  | _, [], .nil => .nil
  | _, _ :: _, .cons h hs => .cons (DR.less hm hv h) (DRs.less hm hv hs)
end
theorem MR.hide {W : Wd} {H : Hp} {ρ : Rh} {p a : Addr} {o : HO} {m : MO} (hp : p ∈ ρ.v) (ha : a ≠ p) (h : MR W H ρ a m) : MR W (upd H p o) ρ a m := by
  cases m with
  | lst ds => obtain ⟨xs, h1, h2⟩ := h; exact ⟨xs, by rw [upd_ne ha]; exact h1, h2.hide hp⟩
  | dct kvs => obtain ⟨vs, h1, ⟨h2, h3⟩, h4⟩ := h; exact ⟨vs, by rw [upd_ne ha]; exact h1, ⟨h2, h3.hide hp⟩, h4⟩
  | ins c fs => obtain ⟨dx, vs, h1, h2, h3⟩ := h; exact ⟨dx, vs, by rw [upd_ne ha]; exact h1, h2, h3.hide hp⟩
theorem MR.less {W : Wd} {H : Hp} {ρ ρ' : Rh} {a : Addr} {m : MO} (hm : ρ'.m = ρ.m) (hv : ∀ a, a ∉ ρ → a ∉ ρ') (h : MR W H ρ a m) : MR W H ρ' a m := by
  cases m with
  | lst ds => obtain ⟨xs, h1, h2⟩ := h; exact ⟨xs, h1, h2.less hm hv⟩
  | dct kvs => obtain ⟨vs, h1, ⟨h2, h3⟩, h4⟩ := h; exact ⟨vs, h1, ⟨h2, h3.less hm hv⟩, h4⟩
  | ins c fs => obtain ⟨dx, vs, h1, h2, h3⟩ := h; exact ⟨dx, vs, h1, h2, h3.less hm hv⟩
theorem Rep.hide (R : Rep W H ρ M) {p : Addr} {o : HO} (hp : p ∈ ρ.v) : Rep W (upd H p o) ρ M := by
  refine ⟨R.nd, R.len, fun a ha => ⟨?_, (R.hid a ha).2⟩, fun i a u h1 h2 => ?_⟩
  · by_cases hz : a = p
    · subst hz; exact ⟨o, upd_same⟩
    · obtain ⟨⟨u, e⟩, _⟩ := R.hid a ha
      exact ⟨u, by rw [upd_ne hz]; exact e⟩
  · have hne : a ≠ p := fun z => by
      subst z
      exact (R.hid a hp).2 (List.mem_of_getElem? h1)
    exact (R.mem i a u h1 h2).hide hp hne
end

/-! ### a list that is being made -/
section
variable {W : Wd} {H H' : Hp} {ρ ρ' : Rh} {M : Mo} {p : Addr} {o : HO}
theorem Kp.put (hp : H p = none) (a : Kp H ρ H' ρ') : Kp H ρ (upd H' p o) ρ' := ⟨a.pre, fun c u h n => let ⟨h1, n1⟩ := a.keep c u h n; ⟨by rw [upd_ne (ne_of_none h hp)]; exact h1, n1⟩⟩
theorem Kp.begin (hp : H p = none) : Kp H ρ (upd H p o) ⟨ρ.m, p :: ρ.v⟩ := ⟨List.prefix_refl _, fun c u h n => ⟨by rw [upd_ne (ne_of_none h hp)]; exact h, fun z => z.elim (fun z => n (.inl z)) fun z => by
  rcases List.mem_cons.mp z with z | z
  · exact ne_of_none h hp z
  · exact n (.inr z)⟩⟩
theorem Rep.begin (R : Rep W H ρ M) (hp : H p = none) : Rep W (upd H p o) ⟨ρ.m, p :: ρ.v⟩ M := by
  refine ⟨R.nd, R.len, fun a ha => ?_, fun i a u h1 h2 => (R.mem i a u h1 h2).stay (.begin hp) fun v e => by rw [upd_ne (ne_of_none e hp)]; exact e⟩
  rcases List.mem_cons.mp ha with rfl | ha
  · exact ⟨⟨o, upd_same⟩, fun z => R.fresh hp (.inl z)⟩
  · obtain ⟨⟨u, e⟩, n⟩ := R.hid a ha
    exact ⟨⟨u, by rw [upd_ne (ne_of_none e hp)]; exact e⟩, n⟩
theorem Rep.less (R : Rep W H ρ M) (hm : ρ'.m = ρ.m) (hv : ∀ a, a ∈ ρ'.v → a ∈ ρ.v) : Rep W H ρ' M := by
  have key : ∀ a, a ∉ ρ → a ∉ ρ' := fun a n z => z.elim (fun z => n (.inl (by rw [← hm]; exact z))) fun z => n (.inr (hv a z))
  exact ⟨by rw [hm]; exact R.nd, by rw [hm]; exact R.len, fun a ha => by rw [hm]; exact R.hid a (hv a ha), fun i a u h1 h2 => (R.mem i a u (by rw [← hm]; exact h1) h2).less hm key⟩
end

/-! ### the locals -/
def LoR (K : PySem.W.Frag) (H : Hp) (ρ : Rh) (σ : L2.St) (lo : Lo) : Prop := σ.length = lo.length ∧ ∀ (i : Nat) (d : D), lo[i]? = some (some d) → ∃ v, σ[i]? = some (some v) ∧ DR K H ρ v d
section
variable {K : PySem.W.Frag} {H H' : Hp} {ρ ρ' : Rh} {σ : L2.St} {lo : Lo}
theorem LoR.stay (g : Kp H ρ H' ρ') (h : LoR K H ρ σ lo) : LoR K H' ρ' σ lo := ⟨h.1, fun i d e => let ⟨v, e1, r⟩ := h.2 i d e; ⟨v, e1, r.stay g⟩⟩
theorem LoR.mono (g : Gr H ρ H' ρ') (h : LoR K H ρ σ lo) : LoR K H' ρ' σ lo := ⟨h.1, fun i d e => let ⟨v, e1, r⟩ := h.2 i d e; ⟨v, e1, r.mono g⟩⟩
theorem LoR.set {v : V} {d : D} (h : LoR K H ρ σ lo) (r : DR K H ρ v d) (i : Nat) : LoR K H ρ (σ.set i (some v)) (lo.set i (some d)) := by
  refine ⟨by simp [h.1], fun j e hj => ?_⟩
  by_cases hij : i = j
  · subst hij
    have hl : i < lo.length := by
      have := (List.getElem?_eq_some_iff.mp hj).1
      simpa using this
    rw [List.getElem?_set_self hl] at hj
    cases hj
    exact ⟨v, by rw [List.getElem?_set_self (by rw [h.1]; exact hl)], r⟩
  · rw [List.getElem?_set_ne hij] at hj ⊢
    exact h.2 j e hj
theorem LoR.start {vs : List V} {ds : List D} (N : List Str) (h : DRs K H ρ vs ds) : LoR K H ρ (L2.start N vs) (ds.map some ++ List.replicate (N.length - ds.length) none) := by
  refine ⟨by simp [L2.start, h.length], fun i d e => ?_⟩
  by_cases hi : i < ds.length
  · rw [List.getElem?_append_left (by simpa using hi), List.getElem?_map] at e
    cases q : ds[i]? with
    | none => rw [q] at e; simp at e
    | some z =>
      rw [q] at e
      simp at e
      subst e
      obtain ⟨v, e1, r⟩ := h.get q
      refine ⟨v, ?_, r⟩
      unfold L2.start
      rw [List.getElem?_append_left (by simp [h.length]; exact hi), List.getElem?_map, e1]
      rfl
  · rw [List.getElem?_append_right (by simpa using Nat.le_of_not_lt hi)] at e
    have := List.mem_of_getElem? e
    simp at this
end

/-! ### meanings and readings -/
abbrev F1 := List D → Mo → Option (D × Mo)
abbrev ME := Lo → Mo → Option (D × Mo)
abbrev MA := Lo → Mo → Option (List D × Mo)
abbrev MT := Lo → Mo → Option (Bool × Mo)
inductive Out where
  | nx (lo : Lo) (M : Mo)
  | rt (d : D) (M : Mo)
  | bk (lo : Lo) (M : Mo)
  | ct (lo : Lo) (M : Mo)
abbrev MS := Lo → Mo → Option Out

def tM (W : Wd) (m : ME) : TE := fun σ H Q => ∃ ρ lo M d M', Rep W H ρ M ∧ LoR W.K H ρ σ lo ∧ m lo M = some (d, M') ∧ ∀ v H' ρ', Gr H ρ H' ρ' → Rep W H' ρ' M' → DR W.K H' ρ' v d → Q v H'
def tMs (W : Wd) (m : MA) : TA := fun σ H Q => ∃ ρ lo M ds M', Rep W H ρ M ∧ LoR W.K H ρ σ lo ∧ m lo M = some (ds, M') ∧ ∀ vs H' ρ', Gr H ρ H' ρ' → Rep W H' ρ' M' → DRs W.K H' ρ' vs ds → Q vs H'
def tMT (W : Wd) (m : MT) : TT := fun σ H Q => ∃ ρ lo M b M', Rep W H ρ M ∧ LoR W.K H ρ σ lo ∧ m lo M = some (b, M') ∧ ∀ H' ρ', Gr H ρ H' ρ' → Rep W H' ρ' M' → Q b H'
/-- by values -/
def rM (W : Wd) (f : F1) : List V → Hp → VK → Prop := fun vs H Q => ∃ ρ M ds d M', Rep W H ρ M ∧ DRs W.K H ρ vs ds ∧ f ds M = some (d, M') ∧ ∀ v H' ρ', Gr H ρ H' ρ' → Rep W H' ρ' M' → DR W.K H' ρ' v d → Q v H'
def r2 (W : Wd) (f : F1) : R2 := fun x y H Q => rM W f [x, y] H Q
def OutOk (W : Wd) (H : Hp) (ρ : Rh) (De : Ends) : Out → Prop
  | .nx lo M => ∀ σ' H' ρ', Gr H ρ H' ρ' → Rep W H' ρ' M → LoR W.K H' ρ' σ' lo → De.nx σ' H'
  | .rt d M => ∀ v H' ρ', Gr H ρ H' ρ' → Rep W H' ρ' M → DR W.K H' ρ' v d → De.rt v H'
  | .bk lo M => ∀ σ' H' ρ', Gr H ρ H' ρ' → Rep W H' ρ' M → LoR W.K H' ρ' σ' lo → De.bk σ' H'
  | .ct lo M => ∀ σ' H' ρ', Gr H ρ H' ρ' → Rep W H' ρ' M → LoR W.K H' ρ' σ' lo → De.ct σ' H'
def tS (W : Wd) (m : MS) : TS := fun De σ H => ∃ ρ lo M o, Rep W H ρ M ∧ LoR W.K H ρ σ lo ∧ m lo M = some o ∧ OutOk W H ρ De o
theorem OutOk.mono {W : Wd} {H H' : Hp} {ρ ρ' : Rh} {De : Ends} {o : Out} (g : Gr H ρ H' ρ') (h : OutOk W H ρ De o) : OutOk W H' ρ' De o := by
  cases o with
  | nx lo M => exact fun σ H2 ρ2 g2 => h σ H2 ρ2 (g.trans g2)
  | rt d M => exact fun σ H2 ρ2 g2 => h σ H2 ρ2 (g.trans g2)
  | bk lo M => exact fun σ H2 ρ2 g2 => h σ H2 ρ2 (g.trans g2)
  | ct lo M => exact fun σ H2 ρ2 g2 => h σ H2 ρ2 (g.trans g2)

/-- judgements: a piece of the text and its meaning -/
abbrev GE (cl : Nat → Addr) (X : Cx) (e : Expr) (m : ME) : Prop := PE X e (tM ⟨X.K, cl⟩ m)
abbrev GT (cl : Nat → Addr) (X : Cx) (e : Expr) (m : MT) : Prop := PT X e (tMT ⟨X.K, cl⟩ m)
abbrev GW (cl : Nat → Addr) (X : Cx) (e : Expr) (m : MT) : Prop := PW X e (tMT ⟨X.K, cl⟩ m)
abbrev GA (cl : Nat → Addr) (X : Cx) (es : List Expr) (m : MA) : Prop := PA X es (tMs ⟨X.K, cl⟩ m)
abbrev GS (cl : Nat → Addr) (X : Cx) (st : Stmt) (m : MS) : Prop := PS X st (tS ⟨X.K, cl⟩ m)
abbrev GB (cl : Nat → Addr) (X : Cx) (st : List Stmt) (m : MS) : Prop := PSs X st (tS ⟨X.K, cl⟩ m)

section
variable {X : Cx}
theorem _root_.L2.PE.imp {e : Expr} {t t' : TE} (h : PE X e t) (i : ∀ σ H Q, t' σ H Q → t σ H Q) : PE X e t' := ⟨fun pins s σ H Q I q => h.run pins s σ H Q I (i σ H Q q)⟩
theorem _root_.L2.PT.imp {e : Expr} {t t' : TT} (h : PT X e t) (i : ∀ σ H Q, t' σ H Q → t σ H Q) : PT X e t' := ⟨fun pins s σ H Q I q => h.run pins s σ H Q I (i σ H Q q)⟩
theorem _root_.L2.PW.imp {e : Expr} {t t' : TT} (h : PW X e t) (i : ∀ σ H Q, t' σ H Q → t σ H Q) : PW X e t' := ⟨fun wh pins s σ H Q I q => h.run wh pins s σ H Q I (i σ H Q q)⟩
theorem _root_.L2.PA.imp {e : List Expr} {t t' : TA} (h : PA X e t) (i : ∀ σ H Q, t' σ H Q → t σ H Q) : PA X e t' := ⟨fun pos pins s σ H Q I q => h.run pos pins s σ H Q I (i σ H Q q)⟩
theorem _root_.L2.PS.imp {e : Stmt} {t t' : TS} (h : PS X e t) (i : ∀ De σ H, t' De σ H → t De σ H) : PS X e t' := ⟨fun pins s σ H De I q => h.run pins s σ H De I (i De σ H q)⟩
theorem _root_.L2.PSs.imp {e : List Stmt} {t t' : TS} (h : PSs X e t) (i : ∀ De σ H, t' De σ H → t De σ H) : PSs X e t' := ⟨fun pins s σ H De I q => h.run pins s σ H De I (i De σ H q)⟩
end
end G

set_option Elab.async false
set_option linter.all false
set_option maxRecDepth 100000
namespace G
open PySem PySem.Spec L2

section
variable {X : Cx} {cl : Nat → Addr} {pos : Pos}

/-! ### names, constants -/
def mVar (i : Nat) : ME := fun lo M => match lo[i]? with | some (some d) => some (d, M) | _ => none
def mC (d : D) : ME := fun _ M => some (d, M)
theorem ge_of_var {e : Expr} {i : Nat} (h : PE X e (tVar i)) : GE cl X e (mVar i) := by
  refine h.imp fun σ H Q q => ?_
  obtain ⟨ρ, lo, M, d, M', R, L, e, k⟩ := q
  unfold mVar at e
  split at e
  · rename_i d' he
    cases e
    obtain ⟨v, e1, r⟩ := L.2 i _ he
    exact ⟨v, e1, k v H ρ (.refl H ρ) R r⟩
  · cases e
theorem gv (i : Nat) {x : Str} {pos : Pos} (hN : X.N[i]? = some x := by rfl) (hv : Vis X.env.scope x := by first | exact Or.inl rfl | exact Or.inr (Or.inl rfl) | exact Or.inr (Or.inr rfl)) (hd : (x == ("__debug__" : Str)) = false := by decide) (hcd : (x == ("__classdict__" : Str)) = false := by decide) : GE cl X (.Name x pos) (mVar i) :=
  ge_of_var (pv i hN hv hd hcd)
theorem ge_of_c {e : Expr} {v : V} {d : D} (h : PE X e (tC v)) (r : ∀ H ρ, DR X.K H ρ v d) : GE cl X e (mC d) := by
  refine h.imp fun σ H Q q => ?_
  obtain ⟨ρ, lo, M, d', M', R, L, e, k⟩ := q
  cases e
  exact k v H ρ (.refl H ρ) R (r H ρ)
theorem ge_int {i j pos} : GE cl X (.Constant (.int i) j pos) (mC (.int i)) := ge_of_c pe_int fun _ _ => .int i
theorem ge_bl {b j pos} : GE cl X (.Constant (.bool b) j pos) (mC (.bl b)) := ge_of_c pe_bl fun _ _ => .bl b
theorem ge_non {j pos} : GE cl X (.Constant .none j pos) (mC .non) := ge_of_c pe_non fun _ _ => .non
theorem ge_str {x j pos} : GE cl X (.Constant (.str x) j pos) (mC (.str x)) := ge_of_c pe_str fun _ _ => .str x
/-- a constant of the module -/
theorem ge_glob {x : Str} {v : V} {d : D} {u : Value} {pos : Pos} (hg : Gl X x) (hm : X.mg x = some u) (rv : RelV v u) (r : ∀ H ρ, DR X.K H ρ v d) (hd : (x == ("__debug__" : Str)) = false := by decide) : GE cl X (.Name x pos) (mC d) :=
  ge_of_c (pe_glob hg hm rv hd) r

/-! ### argument lists -/
def mNil : MA := fun _ M => some ([], M)
def mCons (m : ME) (ms : MA) : MA := fun lo M => match m lo M with
  | some (d, M1) => match ms lo M1 with
    | some (ds, M2) => some (d :: ds, M2)
    | none => none
  | none => none
theorem ga_nil : GA cl X [] mNil := by
  refine pa_nil.imp fun σ H Q q => ?_
  obtain ⟨ρ, lo, M, d', M', R, L, e, k⟩ := q
  cases e
  exact k [] H ρ (.refl H ρ) R .nil
theorem mCons_some {m : ME} {ms : MA} {lo : Lo} {M M' : Mo} {ds : List D} (e : mCons m ms lo M = some (ds, M')) : ∃ d M1 es, m lo M = some (d, M1) ∧ ms lo M1 = some (es, M') ∧ ds = d :: es := by
  unfold mCons at e
  split at e
  · rename_i d M1 h1
    split at e
    · rename_i es M2 h2
      cases e
      exact ⟨d, M1, es, h1, h2, rfl⟩
    · cases e
  · cases e
theorem ga_cons {e : Expr} {es : List Expr} {m : ME} {ms : MA} (h : GE cl X e m) (hs : GA cl X es ms) (hh : starEach (e :: es) X.env = (false, eval e X.env) :: starEach es X.env := by rfl) : GA cl X (e :: es) (mCons m ms) := by
  refine (pa_cons h hs hh).imp fun σ H Q q => ?_
  obtain ⟨ρ, lo, M, ds, M', R, L, e, k⟩ := q
  obtain ⟨d, M1, es', e1, e2, rfl⟩ := mCons_some e
  refine ⟨ρ, lo, M, d, M1, R, L, e1, fun v H1 ρ1 g1 R1 r1 => ?_⟩
  refine ⟨ρ1, lo, M1, es', M', R1, L.mono g1, e2, fun vs H2 ρ2 g2 R2 r2 => ?_⟩
  exact k (v :: vs) H2 ρ2 (g1.trans g2) R2 (.cons (r1.mono g2) r2)

/-! ### f(args), by values -/
def mCall (f : F1) (ms : MA) : ME := fun lo M => match ms lo M with
  | some (ds, M1) => f ds M1
  | none => none
theorem tM_call {W : Wd} {f : F1} {ms : MA} {σ : L2.St} {H : Hp} {Q : VK} (q : tM W (mCall f ms) σ H Q) : tMs W ms σ H fun vs H1 => rM W f vs H1 Q := by
  obtain ⟨ρ, lo, M, d, M', R, L, e, k⟩ := q
  unfold mCall at e
  split at e
  · rename_i ds M1 h1
    refine ⟨ρ, lo, M, ds, M1, R, L, h1, fun vs H1 ρ1 g1 R1 r1 => ?_⟩
    exact ⟨ρ1, M1, ds, d, M', R1, r1, e, fun v H2 ρ2 g2 R2 rr => k v H2 ρ2 (g1.trans g2) R2 rr⟩
  · cases e
def mOne (m : ME) : MA := mCons m mNil
def mTwo (m n : ME) : MA := mCons m (mCons n mNil)
theorem tM_two {W : Wd} {ma mb : ME} {σ : L2.St} {H : Hp} {Q : List V → Hp → Prop} (q : tMs W (mTwo ma mb) σ H Q) : tM W ma σ H fun x H1 => tM W mb σ H1 fun y H2 => Q [x, y] H2 := by
  obtain ⟨ρ, lo, M, ds, M', R, L, e, k⟩ := q
  obtain ⟨d, M1, es', e1, e2, rfl⟩ := mCons_some e
  obtain ⟨d2, M2, es2, e3, e4, rfl⟩ := mCons_some e2
  cases e4
  refine ⟨ρ, lo, M, d, M1, R, L, e1, fun v H1 ρ1 g1 R1 r1 => ?_⟩
  refine ⟨ρ1, lo, M1, d2, _, R1, L.mono g1, e3, fun u H2 ρ2 g2 R2 rr => ?_⟩
  exact k _ H2 ρ2 (g1.trans g2) R2 (.cons (r1.mono g2) (.cons rr .nil))
theorem tM_one {W : Wd} {ma : ME} {σ : L2.St} {H : Hp} {Q : List V → Hp → Prop} (q : tMs W (mOne ma) σ H Q) : tM W ma σ H fun x H1 => Q [x] H1 := by
  obtain ⟨ρ, lo, M, ds, M', R, L, e, k⟩ := q
  obtain ⟨d, M1, es', e1, e2, rfl⟩ := mCons_some e
  cases e2
  exact ⟨ρ, lo, M, d, _, R, L, e1, fun v H1 ρ1 g1 R1 r1 => k _ H1 ρ1 g1 R1 (.cons r1 .nil)⟩
def mBin (f : F1) (ma mb : ME) : ME := mCall f (mTwo ma mb)
theorem tM_bin {W : Wd} {f : F1} {ma mb : ME} {σ : L2.St} {H : Hp} {Q : VK} (q : tM W (mBin f ma mb) σ H Q) : tOp (r2 W f) (tM W ma) (tM W mb) σ H Q := tM_two (tM_call q)
section
variable {a b : Expr} {ma mb : ME}
theorem ge_op {op : Operator} {f : F1} (ho : OpR X (binaryOp op) (r2 ⟨X.K, cl⟩ f)) (ha : GE cl X a ma) (hb : GE cl X b mb) : GE cl X (.BinOp a op b pos) (mBin f ma mb) :=
  (pe_op ho ha hb).imp fun _ _ _ q => tM_bin q
theorem ge_cmp {op : CmpOp} {f : F1} (ho : OpR X (compareOp op) (r2 ⟨X.K, cl⟩ f)) (ha : GE cl X a ma) (hb : GE cl X b mb) (hm : behindInMarks op b = false := by first | exact nobehind _ (by decide) (by decide) | with_unfolding_all rfl) : GE cl X (.Compare a [op] [b] pos) (mBin f ma mb) :=
  (pe_cmpR ho ha hb hm).imp fun _ _ _ q => tM_bin q
def mUn (f : F1) (m : ME) : ME := mCall f (mOne m)
theorem ge_un {op : UnaryOp} {f : F1} (ho : UnR X (unaryOp op) (fun x H Q => rM ⟨X.K, cl⟩ f [x] H Q)) (ha : GE cl X a ma) : GE cl X (.UnaryOp op a pos) (mUn f ma) :=
  (pe_un ho ha).imp fun _ _ _ q => tM_one (tM_call q)
theorem ge_callB {x : Str} {id : String} {f : F1} {es : List Expr} {ms : MA} {p : Pos} (hc : CallR X (.builtin id) (rM ⟨X.K, cl⟩ f)) (hg : Gl X x) (hm : X.mg x = none) (hv : bootBuiltins x = some (.builtin id)) (ha : GA cl X (a :: es) ms) (hn : x ≠ "__name__" := by decide) (hdb : (x == ("__debug__" : Str)) = false := by decide)
    (he : starEach (a :: es) X.env = (false, eval a X.env) :: starEach es X.env := by rfl) (hpl : (backTo pos (starEach es X.env)).any (·.1) = false := by rfl) : GE cl X (.Call (.Name x p) (a :: es) [] pos) (mCall f ms) :=
  (pe_callB hc hg hm hv ha hn hdb he hpl).imp fun _ _ _ q => tM_call q
theorem ge_callTy {x : Str} {T : String} {f : F1} {es : List Expr} {ms : MA} {p : Pos} (hc : CallR X (.type T) (rM ⟨X.K, cl⟩ f)) (hg : Gl X x) (hm : X.mg x = none) (hv : bootBuiltins x = some (.type T)) (ha : GA cl X (a :: es) ms) (hn : x ≠ "__name__" := by decide) (hdb : (x == ("__debug__" : Str)) = false := by decide)
    (he : starEach (a :: es) X.env = (false, eval a X.env) :: starEach es X.env := by rfl) (hpl : (backTo pos (starEach es X.env)).any (·.1) = false := by rfl) : GE cl X (.Call (.Name x p) (a :: es) [] pos) (mCall f ms) :=
  (pe_callTy hc hg hm hv ha hn hdb he hpl).imp fun _ _ _ q => tM_call q
end

/-! ### displays -/
def mTup (ms : MA) : ME := fun lo M => match ms lo M with
  | some (ds, M1) => if ds.length ≤ sizeLine then some (.tup ds, M1) else none
  | none => none
def mLst (ms : MA) : ME := fun lo M => match ms lo M with
  | some (ds, M1) => if ds.length ≤ sizeLine then some (.lst ds, M1) else none
  | none => none
/-- a list that will change -/
def mNewL (ms : MA) : ME := fun lo M => match ms lo M with
  | some (ds, M1) => if ds.length ≤ sizeLine then some (.ref M1.length, M1 ++ [.lst ds]) else none
  | none => none
theorem DR.newTup {K : PySem.W.Frag} {H : Hp} {ρ : Rh} {p : Addr} {vs : List V} {ds : List D} (hp : H p = none) (n : p ∉ ρ) (r : DRs K H ρ vs ds) : DR K (upd H p (.tup vs)) ρ (.ref p) (.tup ds) := .tup (.inl ⟨upd_same, n⟩) (r.mono (.new hp))
theorem DR.newLst {K : PySem.W.Frag} {H : Hp} {ρ : Rh} {p : Addr} {vs : List V} {ds : List D} (hp : H p = none) (n : p ∉ ρ) (r : DRs K H ρ vs ds) : DR K (upd H p (.lst vs)) ρ (.ref p) (.lst ds) := .lst ⟨upd_same, n⟩ (r.mono (.new hp))
theorem ge_tup {es : List Expr} {ms : MA} {x1} (h : GA cl X es ms) : GE cl X (.Tuple es x1 pos) (mTup ms) := by
  refine (pe_tup h).imp fun σ H Q q => ?_
  obtain ⟨ρ, lo, M, d, M', R, L, e, k⟩ := q
  unfold mTup at e
  split at e
  · rename_i ds M1 h1
    split at e
    · rename_i hl
      cases e
      refine ⟨ρ, lo, M, ds, _, R, L, h1, fun vs H1 ρ1 g1 R1 r1 => ⟨by rw [r1.length]; exact hl, fun p hp => ?_⟩⟩
      exact k _ _ ρ1 (g1.trans (.new hp)) (R1.new hp) (.newTup hp (R1.fresh hp) r1)
    · cases e
  · cases e
theorem ge_lst {es : List Expr} {ms : MA} (h : GA cl X es ms) : GE cl X (.List es pos) (mLst ms) := by
  refine (pe_lst h).imp fun σ H Q q => ?_
  obtain ⟨ρ, lo, M, d, M', R, L, e, k⟩ := q
  unfold mLst at e
  split at e
  · rename_i ds M1 h1
    split at e
    · rename_i hl
      cases e
      refine ⟨ρ, lo, M, ds, _, R, L, h1, fun vs H1 ρ1 g1 R1 r1 => ⟨by rw [r1.length]; exact hl, fun p hp => ?_⟩⟩
      exact k _ _ ρ1 (g1.trans (.new hp)) (R1.new hp) (.newLst hp (R1.fresh hp) r1)
    · cases e
  · cases e
theorem Rep.ref_new {W : Wd} {H : Hp} {ρ : Rh} {M : Mo} (R : Rep W H ρ M) (p : Addr) : DR W.K H (ρ.push p) (.ref p) (.ref M.length) := .ref (by show (ρ.m ++ [p])[M.length]? = some p; rw [← R.len, List.getElem?_append_right (Nat.le_refl _), Nat.sub_self]; rfl)
theorem Rep.newL {W : Wd} {H : Hp} {ρ : Rh} {M : Mo} {vs : List V} {ds : List D} (R : Rep W H ρ M) {p : Addr} (hp : H p = none) (r : DRs W.K H ρ vs ds) : Rep W (upd H p (.lst vs)) (ρ.push p) (M ++ [.lst ds]) := R.push hp ⟨vs, upd_same, r.mono (.push hp)⟩
theorem ge_newL {es : List Expr} {ms : MA} (h : GA cl X es ms) : GE cl X (.List es pos) (mNewL ms) := by
  refine (pe_lst h).imp fun σ H Q q => ?_
  obtain ⟨ρ, lo, M, d, M', R, L, e, k⟩ := q
  unfold mNewL at e
  split at e
  · rename_i ds M1 h1
    split at e
    · rename_i hl
      cases e
      refine ⟨ρ, lo, M, ds, _, R, L, h1, fun vs H1 ρ1 g1 R1 r1 => ⟨by rw [r1.length]; exact hl, fun p hp => ?_⟩⟩
      exact k _ _ _ (g1.trans (.push hp)) (R1.newL hp r1) ((Rep.ref_new R1 p).mono (.new hp))
    · cases e
  · cases e

/-! ### tests -/
def tru (m : ME) : MT := fun lo M => match m lo M with | some (.bl b, M1) => some (b, M1) | _ => none
theorem tru_some {m : ME} {lo : Lo} {M M' : Mo} {b : Bool} (e : tru m lo M = some (b, M')) : m lo M = some (.bl b, M') := by
  unfold tru at e
  split at e
  · rename_i b' M1 h; cases e; exact h
  · cases e
theorem tB_of {W : Wd} {m : ME} {σ : L2.St} {H : Hp} {Q : Bool → Hp → Prop} (q : tMT W (tru m) σ H Q) : tB (tM W m) σ H Q := by
  obtain ⟨ρ, lo, M, b, M', R, L, e, k⟩ := q
  refine ⟨ρ, lo, M, _, _, R, L, tru_some e, fun v H' ρ' g R' r => ?_⟩
  cases r
  exact ⟨b, rfl, k H' ρ' g R'⟩
/-- the value of a call, a name .. that is a bool -/
theorem gt_val {e : Expr} {m : ME} (h : GE cl X e m) (he : ∀ whole, isTrue e X.env whole = (do let v ← whole; standAt e.pos; holding [v] (truthy v)) := by intro _; rfl) : GT cl X e (tru m) :=
  (pt_val h he).imp fun _ _ _ q => tB_of q
theorem gt_cmp {a b : Expr} {ma mb : ME} {op : CmpOp} {f : F1} (ho : OpR X (compareOp op) (r2 ⟨X.K, cl⟩ f)) (ha : GE cl X a ma) (hb : GE cl X b mb) (hm : behindInMarks op b = false := by first | exact nobehind _ (by decide) (by decide) | with_unfolding_all rfl) : GT cl X (.Compare a [op] [b] pos) (tru (mBin f ma mb)) :=
  (pt_cmpR ho ha hb hm).imp fun σ H Q q => by
    obtain ⟨ρ, lo, M, b, M', R, L, e, k⟩ := q
    refine tM_bin ⟨ρ, lo, M, _, _, R, L, tru_some e, fun v H' ρ' g R' r => ?_⟩
    cases r
    exact ⟨b, rfl, k H' ρ' g R'⟩
def tNotM (m : MT) : MT := fun lo M => match m lo M with | some (b, M1) => some (!b, M1) | none => none
def tAndM (m n : MT) : MT := fun lo M => match m lo M with | some (true, M1) => n lo M1 | some (false, M1) => some (false, M1) | none => none
def tOrM (m n : MT) : MT := fun lo M => match m lo M with | some (true, M1) => some (true, M1) | some (false, M1) => n lo M1 | none => none
section
variable {a b : Expr} {rest : List Expr} {ma mb : MT}
theorem gt_not (h : GT cl X a ma) : GT cl X (.UnaryOp .Not a pos) (tNotM ma) := (pt_not h).imp fun σ H Q q => by
  obtain ⟨ρ, lo, M, b, M', R, L, e, k⟩ := q
  unfold tNotM at e
  split at e
  · rename_i b' M1 h1
    cases e
    exact ⟨ρ, lo, M, b', _, R, L, h1, k⟩
  · cases e
theorem gw_and1 (h : GT cl X a ma) : GW cl X (.BoolOp .And [a] pos) ma := pw_and1 h
theorem gw_or1 (h : GT cl X a ma) : GW cl X (.BoolOp .Or [a] pos) ma := pw_or1 h
theorem gw_and (h : GT cl X a ma) (h2 : GW cl X (.BoolOp .And (b :: rest) pos) mb) : GW cl X (.BoolOp .And (a :: b :: rest) pos) (tAndM ma mb) := (pw_and h h2).imp fun σ H Q q => by
  obtain ⟨ρ, lo, M, b, M', R, L, e, k⟩ := q
  unfold tAndM at e
  split at e
  · rename_i M1 h1
    refine ⟨ρ, lo, M, true, _, R, L, h1, fun H1 ρ1 g1 R1 => ?_⟩
    refine iteT ?_
    exact ⟨ρ1, lo, M1, b, M', R1, L.mono g1, e, fun H2 ρ2 g2 R2 => k H2 ρ2 (g1.trans g2) R2⟩
  · rename_i M1 h1
    cases e
    refine ⟨ρ, lo, M, false, _, R, L, h1, fun H1 ρ1 g1 R1 => ?_⟩
    refine iteF ?_
    exact k H1 ρ1 g1 R1
  · cases e
theorem gw_or (h : GT cl X a ma) (h2 : GW cl X (.BoolOp .Or (b :: rest) pos) mb) : GW cl X (.BoolOp .Or (a :: b :: rest) pos) (tOrM ma mb) := (pw_or h h2).imp fun σ H Q q => by
  obtain ⟨ρ, lo, M, b, M', R, L, e, k⟩ := q
  unfold tOrM at e
  split at e
  · rename_i M1 h1
    cases e
    refine ⟨ρ, lo, M, true, _, R, L, h1, fun H1 ρ1 g1 R1 => ?_⟩
    refine iteT ?_
    exact k H1 ρ1 g1 R1
  · rename_i M1 h1
    refine ⟨ρ, lo, M, false, _, R, L, h1, fun H1 ρ1 g1 R1 => ?_⟩
    refine iteF ?_
    exact ⟨ρ1, lo, M1, b, M', R1, L.mono g1, e, fun H2 ρ2 g2 R2 => k H2 ρ2 (g1.trans g2) R2⟩
  · cases e
/-- as values: bools -/
def mNotE (m : ME) : ME := fun lo M => match m lo M with | some (.bl b, M1) => some (.bl (!b), M1) | _ => none
def mAndE (m n : ME) : ME := fun lo M => match m lo M with | some (.bl true, M1) => n lo M1 | some (.bl false, M1) => some (.bl false, M1) | _ => none
def mOrE (m n : ME) : ME := fun lo M => match m lo M with | some (.bl true, M1) => some (.bl true, M1) | some (.bl false, M1) => n lo M1 | _ => none
theorem ge_one {op} {m : ME} (h : GE cl X a m) : GE cl X (.BoolOp op [a] pos) m := pe_one h
theorem ge_and {m n : ME} (h : GE cl X a m) (h2 : GE cl X (.BoolOp .And (b :: rest) pos) n) : GE cl X (.BoolOp .And (a :: b :: rest) pos) (mAndE m n) := (pe_and h h2).imp fun σ H Q q => by
  obtain ⟨ρ, lo, M, d, M', R, L, e, k⟩ := q
  unfold mAndE at e
  split at e
  · rename_i M1 h1
    refine ⟨ρ, lo, M, _, _, R, L, h1, fun v H1 ρ1 g1 R1 r1 => ?_⟩
    cases r1
    refine ⟨true, rfl, ?_⟩
    refine iteT ?_
    exact ⟨ρ1, lo, M1, d, M', R1, L.mono g1, e, fun v H2 ρ2 g2 R2 => k v H2 ρ2 (g1.trans g2) R2⟩
  · rename_i M1 h1
    cases e
    refine ⟨ρ, lo, M, _, _, R, L, h1, fun v H1 ρ1 g1 R1 r1 => ?_⟩
    cases r1
    refine ⟨false, rfl, ?_⟩
    refine iteF ?_
    exact k _ H1 ρ1 g1 R1 (.bl false)
  · cases e
theorem ge_or {m n : ME} (h : GE cl X a m) (h2 : GE cl X (.BoolOp .Or (b :: rest) pos) n) : GE cl X (.BoolOp .Or (a :: b :: rest) pos) (mOrE m n) := (pe_or h h2).imp fun σ H Q q => by
  obtain ⟨ρ, lo, M, d, M', R, L, e, k⟩ := q
  unfold mOrE at e
  split at e
  · rename_i M1 h1
    cases e
    refine ⟨ρ, lo, M, _, _, R, L, h1, fun v H1 ρ1 g1 R1 r1 => ?_⟩
    cases r1
    refine ⟨true, rfl, ?_⟩
    refine iteT ?_
    exact k _ H1 ρ1 g1 R1 (.bl true)
  · rename_i M1 h1
    refine ⟨ρ, lo, M, _, _, R, L, h1, fun v H1 ρ1 g1 R1 r1 => ?_⟩
    cases r1
    refine ⟨false, rfl, ?_⟩
    refine iteF ?_
    exact ⟨ρ1, lo, M1, d, M', R1, L.mono g1, e, fun v H2 ρ2 g2 R2 => k v H2 ρ2 (g1.trans g2) R2⟩
  · cases e
theorem ge_not {m : ME} (h : GE cl X a m) : GE cl X (.UnaryOp .Not a pos) (mNotE m) := (pe_not h).imp fun σ H Q q => by
  obtain ⟨ρ, lo, M, d, M', R, L, e, k⟩ := q
  unfold mNotE at e
  split at e
  · rename_i b' M1 h1
    cases e
    refine ⟨ρ, lo, M, _, _, R, L, h1, fun v H1 ρ1 g1 R1 r1 => ?_⟩
    cases r1
    exact ⟨b', rfl, k _ H1 ρ1 g1 R1 (.bl _)⟩
  · cases e
def mIf (c : MT) (m n : ME) : ME := fun lo M => match c lo M with | some (true, M1) => m lo M1 | some (false, M1) => n lo M1 | none => none
theorem ge_ifExp {c : Expr} {mc : MT} {m n : ME} (hc : GT cl X c mc) (ha : GE cl X a m) (hb : GE cl X b n) : GE cl X (.IfExp c a b pos) (mIf mc m n) := (pe_ifExp hc ha hb).imp fun σ H Q q => by
  obtain ⟨ρ, lo, M, d, M', R, L, e, k⟩ := q
  unfold mIf at e
  split at e
  · rename_i M1 h1
    refine ⟨ρ, lo, M, _, _, R, L, h1, fun H1 ρ1 g1 R1 => ?_⟩
    refine iteT ?_
    exact ⟨ρ1, lo, M1, d, M', R1, L.mono g1, e, fun v H2 ρ2 g2 R2 => k v H2 ρ2 (g1.trans g2) R2⟩
  · rename_i M1 h1
    refine ⟨ρ, lo, M, _, _, R, L, h1, fun H1 ρ1 g1 R1 => ?_⟩
    refine iteF ?_
    exact ⟨ρ1, lo, M1, d, M', R1, L.mono g1, e, fun v H2 ρ2 g2 R2 => k v H2 ρ2 (g1.trans g2) R2⟩
  · cases e
end

/-! ### statements -/
section
variable {st : Stmt} {rest : List Stmt} {e : Expr}
def sNext : MS := fun lo M => some (.nx lo M)
def sSeq (m n : MS) : MS := fun lo M => match m lo M with | some (.nx lo1 M1) => n lo1 M1 | r => r
theorem gb_nil : GB cl X [] sNext := pss_nil.imp fun De σ H q => by
  obtain ⟨ρ, lo, M, o, R, L, e, k⟩ := q
  cases e
  exact k σ H ρ (.refl H ρ) R L
theorem gb_cons {m n : MS} (h : GS cl X st m) (h2 : GB cl X rest n) : GB cl X (st :: rest) (sSeq m n) := (pss_cons h h2).imp fun De σ H q => by
  obtain ⟨ρ, lo, M, o, R, L, e, k⟩ := q
  unfold sSeq at e
  split at e
  · rename_i lo1 M1 h1
    refine ⟨ρ, lo, M, _, R, L, h1, fun σ1 H1 ρ1 g1 R1 L1 => ?_⟩
    exact ⟨ρ1, lo1, M1, o, R1, L1, e, k.mono g1⟩
  · rename_i hne
    refine ⟨ρ, lo, M, o, R, L, e, ?_⟩
    cases o with
    | nx lo1 M1 => exact absurd e (hne lo1 M1)
    | rt d M1 => exact k
    | bk lo M => exact k
    | ct lo M => exact k
theorem gb_one {m : MS} (h : GS cl X st m) : GB cl X [st] m := pss_one h
theorem gs_pass : GS cl X (.Pass pos) sNext := ps_pass.imp fun De σ H q => by
  obtain ⟨ρ, lo, M, o, R, L, e, k⟩ := q
  cases e
  exact k σ H ρ (.refl H ρ) R L
def sBreak : MS := fun lo M => some (.bk lo M)
def sCont : MS := fun lo M => some (.ct lo M)
theorem gs_break : GS cl X (.Break pos) sBreak := ps_break.imp fun De σ H q => by
  obtain ⟨ρ, lo, M, o, R, L, e, k⟩ := q
  cases e
  exact k σ H ρ (.refl H ρ) R L
theorem gs_cont : GS cl X (.Continue pos) sCont := ps_continue.imp fun De σ H q => by
  obtain ⟨ρ, lo, M, o, R, L, e, k⟩ := q
  cases e
  exact k σ H ρ (.refl H ρ) R L
def sDrop (m : ME) : MS := fun lo M => match m lo M with | some (_, M1) => some (.nx lo M1) | none => none
theorem gs_expr {m : ME} (h : GE cl X e m) (hs : swapsWith e none pos.line X.env = pure false := by rfl) : GS cl X (.Expr e pos) (sDrop m) := (ps_expr h hs).imp fun De σ H q => by
  obtain ⟨ρ, lo, M, o, R, L, e, k⟩ := q
  unfold sDrop at e
  split at e
  · rename_i d M1 h1
    cases e
    exact ⟨ρ, lo, M, d, M1, R, L, h1, fun v H1 ρ1 g1 R1 _ => k σ H1 ρ1 g1 R1 (L.mono g1)⟩
  · cases e
def sRet (m : ME) : MS := fun lo M => match m lo M with | some (d, M1) => some (.rt d M1) | none => none
theorem gs_ret {m : ME} (h : GE cl X e m) : GS cl X (.Return (some e) pos) (sRet m) := (ps_ret h).imp fun De σ H q => by
  obtain ⟨ρ, lo, M, o, R, L, e, k⟩ := q
  unfold sRet at e
  split at e
  · rename_i d M1 h1
    cases e
    exact ⟨ρ, lo, M, d, M1, R, L, h1, fun v H1 ρ1 g1 R1 r1 => k v H1 ρ1 g1 R1 r1⟩
  · cases e
def sRetN : MS := fun _ M => some (.rt .non M)
theorem gs_retN : GS cl X (.Return none pos) sRetN := ps_retN.imp fun De σ H q => by
  obtain ⟨ρ, lo, M, o, R, L, e, k⟩ := q
  cases e
  exact k _ H ρ (.refl H ρ) R .non
def sIf (c : MT) (m n : MS) : MS := fun lo M => match c lo M with | some (true, M1) => m lo M1 | some (false, M1) => n lo M1 | none => none
theorem gs_if {c : Expr} {p q : List Stmt} {mc : MT} {m n : MS} (hc : GT cl X c mc) (ha : GB cl X p m) (hb : GB cl X q n) : GS cl X (.If c p q pos) (sIf mc m n) := (ps_if hc ha hb).imp fun De σ H q => by
  obtain ⟨ρ, lo, M, o, R, L, e, k⟩ := q
  unfold sIf at e
  split at e
  · rename_i M1 h1
    refine ⟨ρ, lo, M, _, _, R, L, h1, fun H1 ρ1 g1 R1 => ?_⟩
    refine iteT ?_
    exact ⟨ρ1, lo, M1, o, R1, L.mono g1, e, k.mono g1⟩
  · rename_i M1 h1
    refine ⟨ρ, lo, M, _, _, R, L, h1, fun H1 ρ1 g1 R1 => ?_⟩
    refine iteF ?_
    exact ⟨ρ1, lo, M1, o, R1, L.mono g1, e, k.mono g1⟩
  · cases e
/-- a statement that is never come to -/
def sNever : MS := fun _ _ => none
theorem gs_never : GS cl X st sNever := ps_never.imp fun De σ H q => by
  obtain ⟨ρ, lo, M, o, R, L, e, k⟩ := q
  cases e
theorem gb_never {sts : List Stmt} : GB cl X sts sNever := pss_never.imp fun De σ H q => by
  obtain ⟨ρ, lo, M, o, R, L, e, k⟩ := q
  cases e

/-! ### targets -/
abbrev MG := D → Lo → Mo → Option (Lo × Mo)
def tG (W : Wd) (g : MG) : TG := fun v σ H Q => ∃ ρ lo M d lo' M', Rep W H ρ M ∧ LoR W.K H ρ σ lo ∧ DR W.K H ρ v d ∧ g d lo M = some (lo', M') ∧ ∀ σ' H' ρ', Gr H ρ H' ρ' → Rep W H' ρ' M' → LoR W.K H' ρ' σ' lo' → Q σ' H'
abbrev GG (cl : Nat → Addr) (X : Cx) (tg : Expr) (g : MG) : Prop := PG X tg (tG ⟨X.K, cl⟩ g)
abbrev MGs := List D → Lo → Mo → Option (Lo × Mo)
def tGs (W : Wd) (g : MGs) : TGs := fun vs σ H Q => ∃ ρ lo M ds lo' M', Rep W H ρ M ∧ LoR W.K H ρ σ lo ∧ DRs W.K H ρ vs ds ∧ g ds lo M = some (lo', M') ∧ ∀ σ' H' ρ', Gr H ρ H' ρ' → Rep W H' ρ' M' → LoR W.K H' ρ' σ' lo' → Q σ' H'
abbrev GGs (cl : Nat → Addr) (X : Cx) (tg : List Expr) (g : MGs) : Prop := PGs X tg (tGs ⟨X.K, cl⟩ g)
theorem _root_.L2.PG.imp {tg : Expr} {t t' : TG} (h : PG X tg t) (i : ∀ v σ H Q, t' v σ H Q → t v σ H Q) : PG X tg t' := ⟨fun pins s σ H v u Q I r q => h.run pins s σ H v u Q I r (i v σ H Q q)⟩
theorem _root_.L2.PGs.imp {tg : List Expr} {t t' : TGs} (h : PGs X tg t) (i : ∀ v σ H Q, t' v σ H Q → t v σ H Q) : PGs X tg t' := ⟨fun pins s σ H v u Q I r q => h.run pins s σ H v u Q I r (i v σ H Q q)⟩
def gName (i : Nat) : MG := fun d lo M => some (lo.set i (some d), M)
theorem gg_name {i : Nat} {x : Str} (hN : X.N.Nodup) (hi : X.N[i]? = some x) (hx : Loc X.env.scope x) (hf : X.fn x = true ∨ X.env.scope.names.lookup x = some .local := by first | exact .inl rfl | exact .inr rfl | assumption) : GG cl X (.Name x pos) (gName i) :=
  (pg_name hN hi hx hf).imp fun v σ H Q q => by
    obtain ⟨ρ, lo, M, d, lo', M', R, L, r, e, k⟩ := q
    cases e
    exact k _ H ρ (.refl H ρ) R (L.set r i)
def gsNil : MGs := fun ds lo M => match ds with | [] => some (lo, M) | _ => none
def gsCons (g : MG) (gs : MGs) : MGs := fun ds lo M => match ds with | d :: r => (match g d lo M with | some (lo1, M1) => gs r lo1 M1 | none => none) | [] => none
theorem ggs_nil : GGs cl X [] gsNil := pgs_nil.imp fun v σ H Q q => by
  obtain ⟨ρ, lo, M, d, lo', M', R, L, r, e, k⟩ := q
  cases r with
  | nil => cases e; exact ⟨rfl, k _ H ρ (.refl H ρ) R L⟩
  | cons _ _ => cases e
theorem ggs_cons {tg : Expr} {tgs : List Expr} {g : MG} {gs : MGs} (h : GG cl X tg g) (hs : GGs cl X tgs gs) (ha : (assignEach (tg :: tgs) X.env).map (·.2) = assign tg X.env :: (assignEach tgs X.env).map (·.2) := by rfl) : PGs X (tg :: tgs) (tGs ⟨X.K, cl⟩ (gsCons g gs)) := by
  have key := pgs_cons h hs ha
  refine PGs.imp key fun v σ H Q q => ?_
  obtain ⟨ρ, lo, M, ds, lo', M', R, L, r, e, k⟩ := q
  cases r with
  | nil => cases e
  | cons r1 r2 =>
    rename_i v1 vs d1 ds1
    unfold gsCons at e
    simp only at e
    split at e
    · rename_i lo1 M1 h1
      refine ⟨_, _, rfl, ρ, lo, M, d1, lo1, M1, R, L, r1, h1, fun σ1 H1 ρ1 g1 R1 L1 => ?_⟩
      exact ⟨ρ1, lo1, M1, ds1, lo', M', R1, L1, r2.mono g1, e, fun σ2 H2 ρ2 g2 R2 L2 => k σ2 H2 ρ2 (g1.trans g2) R2 L2⟩
    · cases e
end
end
end G

set_option Elab.async false
set_option linter.all false
set_option maxRecDepth 100000
namespace G
open PySem PySem.Spec L2
open PyProof.Rows (room_in_shaped)

/-! ### data of D as plain data -/
mutual
def D.py : D → Option PyData
  | .non => some .none
  | .bl b => some (.bool b)
  | .int i => some (.int i)
  | .str x => some (.str x)
  | .tup ds => match D.pys ds with | some ps => some (.tuple ps) | none => none
  | .lst ds => match D.pys ds with | some ps => some (.list ps) | none => none
  | .rol ds => match D.pys ds with | some ps => some (.list ps) | none => none
  | .ref _ => none
def D.pys : List D → Option (List PyData)
  | [] => some []
  | d :: ds => match D.py d, D.pys ds with | some p, some ps => some (p :: ps) | _, _ => none
end
section
variable {K : PySem.W.Frag} {H : Hp} {ρ : Rh}
mutual
theorem DR.dp : ∀ {v : V} {d : D} {p : PyData}, DR K H ρ v d → d.py = some p → Dp K H v p
  | _, .non, _, .non, e => by cases e; exact .non
  | _, .bl b, _, .bl _, e => by cases e; exact .bl b
  | _, .int i, _, .int _, e => by cases e; exact .int i
  | _, .str x, _, .str _, e => by cases e; exact .str x
  | _, .tup ds, _, .tup h hs, e => by
    rw [D.py] at e
    split at e
    · rename_i ps h1
      cases e
      exact .tup h.sq (DRs.dps hs h1)
    · cases e
  | _, .lst ds, _, .lst h hs, e => by
    rw [D.py] at e
    split at e
    · rename_i ps h1
      cases e
      exact .lst (.inl (.inl h.1)) (DRs.dps hs h1)
    · cases e
  | _, .rol ds, _, .rol h hs, e => by
    rw [D.py] at e
    split at e
    · rename_i ps h1
      cases e
      exact .lst h.sq (DRs.dps hs h1)
    · cases e
  | _, .ref n, _, .ref h, e => by cases e
theorem DRs.dps : ∀ {vs : List V} {ds : List D} {ps : List PyData}, DRs K H ρ vs ds → D.pys ds = some ps → DpAll K H vs ps
  | _, [], _, .nil, e => by cases e; exact .nil
  | _, d :: ds, _, .cons h hs, e => by
    rw [D.pys] at e
    split at e
    · rename_i p ps h1 h2
      cases e
      exact .cons (DR.dp h h1) (DRs.dps hs h2)
    · cases e
end
end
/-- what is read at a value: a tuple or a list, its items -/
def seqOf (M : Mo) : D → Option (Bool × List D)
  | .tup ds => some (true, ds)
  | .lst ds => some (false, ds)
  | .rol ds => some (false, ds)
  | .ref n => match M[n]? with
    | some (.lst ds) => some (false, ds)
    | _ => none
  | _ => none
/-- a list of one's own -/
def lstOf (M : Mo) : D → Option (List D)
  | .lst ds => some ds
  | .ref n => match M[n]? with
    | some (.lst ds) => some ds
    | _ => none
  | _ => none
def pyOf (M : Mo) (d : D) : Option PyData := match d with
  | .ref _ => (match seqOf M d with | some (false, ds) => (match D.pys ds with | some ps => some (.list ps) | none => none) | _ => none)
  | _ => d.py
section
variable {W : Wd} {H : Hp} {ρ : Rh} {M : Mo} {v : V} {d : D}
theorem seqOf_ok (R : Rep W H ρ M) (r : DR W.K H ρ v d) {t : Bool} {ds : List D} (e : seqOf M d = some (t, ds)) :
    ∃ a xs, v = .ref a ∧ DRs W.K H ρ xs ds ∧ ((t = true ∧ SqT W.K H a xs) ∨ (t = false ∧ SqL W.K H a xs)) := by
  cases r with
  | tup h hs => cases e; exact ⟨_, _, rfl, hs, .inl ⟨rfl, h.sq⟩⟩
  | lst h hs => cases e; exact ⟨_, _, rfl, hs, .inr ⟨rfl, .inl (.inl h.1)⟩⟩
  | rol h hs => cases e; exact ⟨_, _, rfl, hs, .inr ⟨rfl, h.sq⟩⟩
  | ref h =>
    unfold seqOf at e
    simp only at e
    split at e
    · rename_i ds' hm
      cases e
      obtain ⟨xs, h1, h2⟩ := R.at_ h hm
      exact ⟨_, xs, rfl, h2, .inr ⟨rfl, .inl (.inl h1)⟩⟩
    · cases e
  | non => cases e
  | bl _ => cases e
  | int _ => cases e
  | str _ => cases e
theorem lstOf_ok (R : Rep W H ρ M) (r : DR W.K H ρ v d) {ds : List D} (e : lstOf M d = some ds) : ∃ a xs, v = .ref a ∧ DRs W.K H ρ xs ds ∧ H a = some (.lst xs) := by
  cases r with
  | lst h hs => cases e; exact ⟨_, _, rfl, hs, h.1⟩
  | ref h =>
    unfold lstOf at e
    simp only at e
    split at e
    · rename_i ds' hm
      cases e
      obtain ⟨xs, h1, h2⟩ := R.at_ h hm
      exact ⟨_, xs, rfl, h2, h1⟩
    · cases e
  | tup _ _ => cases e
  | rol _ _ => cases e
  | non => cases e
  | bl _ => cases e
  | int _ => cases e
  | str _ => cases e
theorem pyOf_ok (R : Rep W H ρ M) (r : DR W.K H ρ v d) {p : PyData} (e : pyOf M d = some p) : Dp W.K H v p := by
  unfold pyOf at e
  split at e
  · rename_i n
    split at e
    · rename_i ds hs
      obtain ⟨a, xs, rfl, hr, ⟨h, _⟩ | ⟨_, h⟩⟩ := seqOf_ok R r hs
      · cases h
      · split at e
        · rename_i ps hp
          cases e
          exact .lst h (hr.dps hp)
        · cases e
    · cases e
  · exact r.dp e
theorem pyOf_lst (R : Rep W H ρ M) (r : DR W.K H ρ v d) {ds : List D} {ps : List PyData} {t : Bool} (e : seqOf M d = some (t, ds)) (hp : D.pys ds = some ps) : Dp W.K H v (if t = true then .tuple ps else .list ps) := by
  obtain ⟨a, xs, rfl, hr, ⟨rfl, h⟩ | ⟨rfl, h⟩⟩ := seqOf_ok R r e
  · exact .tup h (hr.dps hp)
  · exact .lst h (hr.dps hp)
end

/-! ### two-place operations -/
theorem DRs.two {K : PySem.W.Frag} {H : Hp} {ρ : Rh} {x y : V} {ds : List D} (h : DRs K H ρ [x, y] ds) : ∃ d e, ds = [d, e] ∧ DR K H ρ x d ∧ DR K H ρ y e := by
  cases h with
  | cons h1 h2 =>
    cases h2 with
    | cons h2 h3 =>
      cases h3
      exact ⟨_, _, rfl, h1, h2⟩
theorem DRs.one {K : PySem.W.Frag} {H : Hp} {ρ : Rh} {vs : List V} {d : D} (h : DRs K H ρ vs [d]) : ∃ v, vs = [v] ∧ DR K H ρ v d := by
  cases h with
  | cons h1 h2 =>
    cases h2
    exact ⟨_, rfl, h1⟩
theorem DRs.pair {K : PySem.W.Frag} {H : Hp} {ρ : Rh} {vs : List V} {d e : D} (h : DRs K H ρ vs [d, e]) : ∃ v u, vs = [v, u] ∧ DR K H ρ v d ∧ DR K H ρ u e := by
  cases h with
  | cons h1 h2 =>
    cases h2 with
    | cons h2 h3 =>
      cases h3
      exact ⟨_, _, rfl, h1, h2⟩
/-- two ints to a datum -/
def iiF (C : Int → Int → Bool) (g : Int → Int → D) : F1 := fun ds M => match ds with
  | [.int a, .int b] => if C a b = true then some (g a b, M) else none
  | _ => none
theorem iiF_some {C : Int → Int → Bool} {g : Int → Int → D} {ds : List D} {M M' : Mo} {d : D} (e : iiF C g ds M = some (d, M')) : ∃ a b, ds = [.int a, .int b] ∧ C a b = true ∧ d = g a b ∧ M' = M := by
  unfold iiF at e
  split at e
  · rename_i a b
    split at e
    · rename_i h
      cases e
      exact ⟨a, b, rfl, h, rfl, rfl⟩
    · cases e
  · cases e
section
variable {X : Cx} {cl : Nat → Addr}
theorem or_ii {f : Value → Value → Sem Value} {C : Int → Int → Prop} {Cb : Int → Int → Bool} {g : Int → Int → V} {gD : Int → Int → D} (h : OpR X f (rI C g)) (hC : ∀ a b, Cb a b = true → C a b) (hg : ∀ a b H ρ, DR X.K H ρ (g a b) (gD a b)) :
    OpR X f (r2 ⟨X.K, cl⟩ (iiF Cb gD)) := by
  intro pins s σ H x y v u Q I rx ry q
  obtain ⟨ρ, M, ds, d, M', R, r, e, k⟩ := q
  obtain ⟨a, b, rfl, hc, rfl, rfl⟩ := iiF_some e
  obtain ⟨v1, u1, e1, ra, rb⟩ := r.pair
  cases e1
  cases ra
  cases rb
  exact h pins s σ H _ _ v u Q I rx ry ⟨a, b, rfl, rfl, hC a b hc, k _ H ρ (.refl H ρ) R (hg a b H ρ)⟩
theorem or_ii0 {f : Value → Value → Sem Value} {g : Int → Int → V} {gD : Int → Int → D} (h : OpR X f (rI0 g)) (hg : ∀ a b H ρ, DR X.K H ρ (g a b) (gD a b)) : OpR X f (r2 ⟨X.K, cl⟩ (iiF (fun _ _ => true) gD)) := by
  intro pins s σ H x y v u Q I rx ry q
  obtain ⟨ρ, M, ds, d, M', R, r, e, k⟩ := q
  obtain ⟨a, b, rfl, hc, rfl, rfl⟩ := iiF_some e
  obtain ⟨v1, u1, e1, ra, rb⟩ := r.pair
  cases e1
  cases ra
  cases rb
  exact h pins s σ H _ _ v u Q I rx ry ⟨a, b, rfl, rfl, k _ H ρ (.refl H ρ) R (hg a b H ρ)⟩
def subF : F1 := iiF (fun _ _ => true) fun a b => .int (a - b)
def fdivF : F1 := iiF (fun _ b => decide (0 < b) && decide (b < 1073741824)) fun a b => .int (a / b)
def modF : F1 := iiF (fun _ b => decide (0 < b)) fun a b => .int (a % b)
def ltF : F1 := iiF (fun _ _ => true) fun a b => .bl (decide (a < b))
def leF : F1 := iiF (fun _ _ => true) fun a b => .bl (decide (a ≤ b))
def gtF : F1 := iiF (fun _ _ => true) fun a b => .bl (decide (b < a))
def geF : F1 := iiF (fun _ _ => true) fun a b => .bl (decide (b ≤ a))
theorem o_sub : OpR X (binaryOp .Sub) (r2 ⟨X.K, cl⟩ subF) := or_ii0 op_sub fun _ _ _ _ => .int _
theorem o_fdiv : OpR X (binaryOp .FloorDiv) (r2 ⟨X.K, cl⟩ fdivF) := or_ii op_fdiv (fun a b h => by simpa [CDiv] using h) fun _ _ _ _ => .int _
theorem o_mod : OpR X (binaryOp .Mod) (r2 ⟨X.K, cl⟩ modF) := or_ii op_mod (fun a b h => by simpa using h) fun _ _ _ _ => .int _
theorem o_lt : OpR X (compareOp .Lt) (r2 ⟨X.K, cl⟩ ltF) := or_ii0 op_lt fun _ _ _ _ => .bl _
theorem o_le : OpR X (compareOp .LtE) (r2 ⟨X.K, cl⟩ leF) := or_ii0 op_le fun _ _ _ _ => .bl _
theorem o_gt : OpR X (compareOp .Gt) (r2 ⟨X.K, cl⟩ gtF) := or_ii0 op_gt fun _ _ _ _ => .bl _
theorem o_ge : OpR X (compareOp .GtE) (r2 ⟨X.K, cl⟩ geF) := or_ii0 op_ge fun _ _ _ _ => .bl _
/-- + of ints, texts, tuples, lists -/
def addF : F1 := fun ds M => match ds with
  | [.int a, .int b] => some (.int (a + b), M)
  | [.str a, .str b] => if a.length + b.length ≤ sizeLine then some (.str (a ++ b), M) else none
  | [.tup a, .tup b] => if a.length + b.length ≤ sizeLine then some (.tup (a ++ b), M) else none
  | [a, b] => match lstOf M a, lstOf M b with
    | some xs, some ys => if xs.length + ys.length ≤ sizeLine then some (.lst (xs ++ ys), M) else none
    | _, _ => none
  | _ => none
theorem o_add : OpR X (binaryOp .Add) (r2 ⟨X.K, cl⟩ addF) := by
  intro pins s σ H x y v u Q I rx ry q
  obtain ⟨ρ, M, ds, d, M', R, r, e, k⟩ := q
  obtain ⟨dx, dy, rfl, ra, rb⟩ := r.two
  unfold addF at e
  split at e
  · rename_i a b e1
    cases e1; cases e
    cases ra; cases rb
    exact op_add pins s σ H _ _ v u Q I rx ry ⟨a, b, rfl, rfl, k _ H ρ (.refl H ρ) R (.int _)⟩
  · rename_i a b e1
    cases e1
    split at e
    · rename_i hl
      cases e
      cases ra; cases rb
      exact op_add_str pins s σ H _ _ v u Q I rx ry ⟨a, b, rfl, rfl, hl, k _ H ρ (.refl H ρ) R (.str _)⟩
    · cases e
  · rename_i a b e1
    cases e1
    split at e
    · rename_i hl
      cases e
      cases ra with
      | tup ha hsa =>
        rename_i pa xa
        cases rb with
        | tup hb hsb =>
          rename_i pb xb
          refine op_catA pins s σ H _ _ v u Q I rx ry ⟨pa, pb, xa, xb, rfl, rfl, ha.sq, hb.sq, by rw [hsa.length, hsb.length]; exact hl, fun e0 => ?_, fun _ e0 => ?_, fun _ _ p hp => ?_⟩
          · subst e0
            cases hsa
            exact k _ H ρ (.refl H ρ) R (.tup hb hsb)
          · subst e0
            cases hsb
            rw [List.append_nil] at k
            exact k _ H ρ (.refl H ρ) R (.tup ha hsa)
          · exact k _ _ ρ (.new hp) (R.new hp) (.newTup hp (R.fresh hp) (hsa.append hsb))
    · cases e
  · rename_i a b _ _ _ e1
    cases e1
    split at e
    · rename_i xs ys h1 h2
      split at e
      · rename_i hl
        cases e
        obtain ⟨pa, xa, rfl, hsa, ha⟩ := lstOf_ok R ra h1
        obtain ⟨pb, xb, rfl, hsb, hb⟩ := lstOf_ok R rb h2
        exact op_cat pins s σ H _ _ v u Q I rx ry ⟨pa, pb, xa, xb, rfl, rfl, ha, hb, by rw [hsa.length, hsb.length]; exact hl, fun p hp => k _ _ ρ (.new hp) (R.new hp) (.newLst hp (R.fresh hp) (hsa.append hsb))⟩
      · cases e
    · cases e
  · cases e
theorem DRs.rep {K : PySem.W.Frag} {H : Hp} {ρ : Rh} {vs : List V} {ds : List D} (h : DRs K H ρ vs ds) : ∀ n : Nat, DRs K H ρ (List.replicate n vs).flatten (List.replicate n ds).flatten
  | 0 => .nil
  | n + 1 => by
    rw [List.replicate_succ, List.replicate_succ, List.flatten_cons, List.flatten_cons]
    exact h.append (DRs.rep h n)
def mulF : F1 := fun ds M => match ds with
  | [.int a, .int b] => if (decide (-(2 ^ 64) < a) && decide (a < 2 ^ 64)) || (decide (-(2 ^ 64) < b) && decide (b < 2 ^ 64)) then some (.int (a * b), M) else none
  | [.tup a, .int b] => if decide (a.length ≤ 1000) && decide (0 < a.length) && decide (2 ≤ b) && decide (b ≤ 1000) then some (.tup (List.replicate b.toNat a).flatten, M) else none
  | _ => none
theorem o_mul : OpR X (binaryOp .Mult) (r2 ⟨X.K, cl⟩ mulF) := by
  intro pins s σ H x y v u Q I rx ry q
  obtain ⟨ρ, M, ds, d, M', R, r, e, k⟩ := q
  obtain ⟨dx, dy, rfl, ra, rb⟩ := r.two
  unfold mulF at e
  split at e
  · rename_i a b e1
    cases e1
    split at e
    · rename_i hl
      cases e
      cases ra; cases rb
      exact op_mul pins s σ H _ _ v u Q I rx ry ⟨a, b, rfl, rfl, by simpa [CMul] using hl, k _ H ρ (.refl H ρ) R (.int _)⟩
    · cases e
  · rename_i a b e1
    cases e1
    split at e
    · rename_i hl
      simp only [Bool.and_eq_true, decide_eq_true_eq] at hl
      cases e
      cases rb
      cases ra with
      | tup ha hsa =>
        rename_i pa xa
        have hlen := hsa.length
        refine op_repT pins s σ H _ _ v u Q I rx ry ⟨pa, b, xa, rfl, rfl, ha.sq, fun z => ?_, hl.1.2, hl.2, by omega, fun p hp => ?_⟩
        · rw [z] at hlen; simp at hlen; omega
        · exact k _ _ ρ (.new hp) (R.new hp) (.newTup hp (R.fresh hp) (hsa.rep _))
    · cases e
  · cases e
/-! == and in -/
def eqF : F1 := fun ds M => match ds with
  | [a, b] => match pyOf M a, pyOf M b with
    | some p, some q => if SeqAt.shaped p && SeqAt.shaped q then some (.bl (PyData.eqv p q), M) else none
    | _, _ => none
  | _ => none
def neF : F1 := fun ds M => match ds with
  | [a, b] => match pyOf M a, pyOf M b with
    | some p, some q => if SeqAt.shaped p && SeqAt.shaped q then some (.bl (!PyData.eqv p q), M) else none
    | _, _ => none
  | _ => none
theorem o_eq (hu : X.A.units + 64 < cLine) : OpR X (compareOp .Eq) (r2 ⟨X.K, cl⟩ eqF) := by
  intro pins s σ H x y v u Q I rx ry q
  obtain ⟨ρ, M, ds, d, M', R, r, e, k⟩ := q
  obtain ⟨dx, dy, rfl, ra, rb⟩ := r.two
  unfold eqF at e
  simp only at e
  split at e
  · rename_i p q h1 h2
    split at e
    · rename_i hs
      rw [Bool.and_eq_true] at hs
      cases e
      exact op_eqD hu pins s σ H _ _ v u Q I rx ry ⟨p, q, pyOf_ok R ra h1, pyOf_ok R rb h2, hs.1, hs.2, k _ H ρ (.refl H ρ) R (.bl _)⟩
    · cases e
  · cases e
theorem o_ne (hu : X.A.units + 64 < cLine) : OpR X (compareOp .NotEq) (r2 ⟨X.K, cl⟩ neF) := by
  intro pins s σ H x y v u Q I rx ry q
  obtain ⟨ρ, M, ds, d, M', R, r, e, k⟩ := q
  obtain ⟨dx, dy, rfl, ra, rb⟩ := r.two
  unfold neF at e
  simp only at e
  split at e
  · rename_i p q h1 h2
    split at e
    · rename_i hs
      rw [Bool.and_eq_true] at hs
      cases e
      exact op_neD hu pins s σ H _ _ v u Q I rx ry ⟨p, q, pyOf_ok R ra h1, pyOf_ok R rb h2, hs.1, hs.2, k _ H ρ (.refl H ρ) R (.bl _)⟩
    · cases e
  · cases e
def inCore (neg : Bool) : F1 := fun ds M => match ds with
  | [a, b] => match pyOf M a, seqOf M b with
    | some p, some (t, es) => match D.pys es with
      | some ps => if SeqAt.shaped p && SeqAt.shaped (.list ps) then some (.bl (if neg then !ps.any fun z => PyData.eqv z p else ps.any fun z => PyData.eqv z p), M) else none
      | none => none
    | _, _ => none
  | _ => none
def inF : F1 := inCore false
def ninF : F1 := inCore true
theorem inCore_some {neg : Bool} {M M' : Mo} {a b d : D} (e : inCore neg [a, b] M = some (d, M')) : ∃ p t es ps, pyOf M a = some p ∧ seqOf M b = some (t, es) ∧ D.pys es = some ps ∧ SeqAt.shaped p = true ∧ SeqAt.shaped (.list ps) = true ∧ M' = M ∧
    d = .bl (if neg then !ps.any fun z => PyData.eqv z p else ps.any fun z => PyData.eqv z p) := by
  unfold inCore at e
  simp only at e
  split at e
  · rename_i p t es h1 h2
    split at e
    · rename_i ps h3
      split at e
      · rename_i hs
        rw [Bool.and_eq_true] at hs
        cases e
        exact ⟨p, t, es, ps, h1, h2, h3, hs.1, hs.2, rfl, rfl⟩
      · cases e
    · cases e
  · cases e
theorem o_in (hu : X.A.units + 65 < cLine) : OpR X (compareOp .In) (r2 ⟨X.K, cl⟩ inF) := by
  intro pins s σ H x y v u Q I rx ry q
  obtain ⟨ρ, M, ds, d, M', R, r, e, k⟩ := q
  obtain ⟨dx, dy, rfl, ra, rb⟩ := r.two
  obtain ⟨p, t, es, ps, h1, h2, h3, s1, s2, rfl, rfl⟩ := inCore_some e
  have hp := pyOf_ok R ra h1
  have hq := pyOf_lst R rb h2 h3
  have fin := k _ H ρ (.refl H ρ) R (.bl _)
  obtain ⟨as, r1⟩ := Dp.reads I p _ v hp rx
  cases t with
  | false =>
    obtain ⟨bs, r2⟩ := Dp.reads I (.list ps) _ u hq ry
    exact SeqAt.in_list_reads r2 r1 (SeqAt.canLay_of_shaped s2) (SeqAt.canLay_of_shaped s1) (room_in_shaped s1 hu) ⟨.bl _, H, I, rfl, fin⟩
  | true =>
    obtain ⟨bs, r2⟩ := Dp.reads I (.tuple ps) _ u hq ry
    exact SeqAt.in_tuple_reads r2 r1 (SeqAt.canLay_of_shaped s2) (SeqAt.canLay_of_shaped s1) (room_in_shaped s1 hu) ⟨.bl _, H, I, rfl, fin⟩
theorem o_nin (hu : X.A.units + 65 < cLine) : OpR X (compareOp .NotIn) (r2 ⟨X.K, cl⟩ ninF) := by
  intro pins s σ H x y v u Q I rx ry q
  obtain ⟨ρ, M, ds, d, M', R, r, e, k⟩ := q
  obtain ⟨dx, dy, rfl, ra, rb⟩ := r.two
  obtain ⟨p, t, es, ps, h1, h2, h3, s1, s2, rfl, rfl⟩ := inCore_some e
  have hp := pyOf_ok R ra h1
  have hq := pyOf_lst R rb h2 h3
  have fin := k _ H ρ (.refl H ρ) R (.bl _)
  obtain ⟨as, r1⟩ := Dp.reads I p _ v hp rx
  cases t with
  | false =>
    obtain ⟨bs, r2⟩ := Dp.reads I (.list ps) _ u hq ry
    exact SeqAt.notIn_list_reads r2 r1 (SeqAt.canLay_of_shaped s2) (SeqAt.canLay_of_shaped s1) (room_in_shaped s1 hu) ⟨.bl _, H, I, rfl, fin⟩
  | true =>
    obtain ⟨bs, r2⟩ := Dp.reads I (.tuple ps) _ u hq ry
    exact SeqAt.notIn_tuple_reads r2 r1 (SeqAt.canLay_of_shaped s2) (SeqAt.canLay_of_shaped s1) (room_in_shaped s1 hu) ⟨.bl _, H, I, rfl, fin⟩
/-! is None -/
def isNF : F1 := fun ds M => match ds with | [.non] => some (.bl true, M) | [_] => some (.bl false, M) | _ => none
def notNF : F1 := fun ds M => match ds with | [.non] => some (.bl false, M) | [_] => some (.bl true, M) | _ => none
theorem non_iff {K : PySem.W.Frag} {H : Hp} {ρ : Rh} {v : V} {d : D} (r : DR K H ρ v d) : (d = .non ∧ v = .non) ∨ (d ≠ .non ∧ v ≠ .non) := by
  cases r with
  | non => exact .inl ⟨rfl, rfl⟩
  | _ => exact .inr ⟨(by intro z; cases z), (by intro z; cases z)⟩
theorem isNF_ok {K : PySem.W.Frag} {H : Hp} {ρ : Rh} {M M' : Mo} {v : V} {d e : D} (r : DR K H ρ v d) (h : isNF [d] M = some (e, M')) : e = .bl (decide (v = .non)) ∧ M' = M := by
  cases r <;> (cases h; exact ⟨rfl, rfl⟩)
theorem notNF_ok {K : PySem.W.Frag} {H : Hp} {ρ : Rh} {M M' : Mo} {v : V} {d e : D} (r : DR K H ρ v d) (h : notNF [d] M = some (e, M')) : e = .bl (!decide (v = .non)) ∧ M' = M := by
  cases r <;> (cases h; exact ⟨rfl, rfl⟩)
section
variable {a : Expr} {ma : ME} {pos : Pos}
theorem tIsN_of {W : Wd} {σ : L2.St} {H : Hp} {Q : VK} (q : tM W (mUn isNF ma) σ H Q) : tIsN (tM W ma) σ H Q := by
  have q1 := tM_one (tM_call q)
  obtain ⟨ρ, lo, M, d, M', R, L, e, k⟩ := q1
  refine ⟨ρ, lo, M, d, M', R, L, e, fun v H1 ρ1 g1 R1 r1 => ?_⟩
  obtain ⟨ρ2, M2, ds, d2, M3, R2, r2, e2, k2⟩ := k v H1 ρ1 g1 R1 r1
  cases r2 with
  | cons ra rr =>
    cases rr
    obtain ⟨rfl, rfl⟩ := isNF_ok ra e2
    exact k2 _ H1 ρ2 (.refl H1 ρ2) R2 (.bl _)
theorem tNotN_of {W : Wd} {σ : L2.St} {H : Hp} {Q : VK} (q : tM W (mUn notNF ma) σ H Q) : tNotN (tM W ma) σ H Q := by
  have q1 := tM_one (tM_call q)
  obtain ⟨ρ, lo, M, d, M', R, L, e, k⟩ := q1
  refine ⟨ρ, lo, M, d, M', R, L, e, fun v H1 ρ1 g1 R1 r1 => ?_⟩
  obtain ⟨ρ2, M2, ds, d2, M3, R2, r2, e2, k2⟩ := k v H1 ρ1 g1 R1 r1
  cases r2 with
  | cons ra rr =>
    cases rr
    obtain ⟨rfl, rfl⟩ := notNF_ok ra e2
    exact k2 _ H1 ρ2 (.refl H1 ρ2) R2 (.bl _)
theorem ge_isN {j pos'} (h : GE cl X a ma) : GE cl X (.Compare a [.Is] [.Constant .none j pos'] pos) (mUn isNF ma) := (pe_cmp (pc_isN h)).imp fun _ _ _ q => tIsN_of q
theorem ge_notN {j pos'} (h : GE cl X a ma) : GE cl X (.Compare a [.IsNot] [.Constant .none j pos'] pos) (mUn notNF ma) := (pe_cmp (pc_notN h)).imp fun _ _ _ q => tNotN_of q
theorem tB_tru {W : Wd} {m : ME} {σ : L2.St} {H : Hp} {Q : Bool → Hp → Prop} (q : tMT W (tru m) σ H Q) : tM W m σ H fun x H1 => ∃ c, x = .bl c ∧ Q c H1 := tB_of q
theorem gt_isN {j pos'} (h : GE cl X a ma) : GT cl X (.Compare a [.Is] [.Constant .none j pos'] pos) (tru (mUn isNF ma)) := (pt_cmp (pc_isN h)).imp fun _ _ _ q => tIsN_of (tB_tru q)
theorem gt_notN {j pos'} (h : GE cl X a ma) : GT cl X (.Compare a [.IsNot] [.Constant .none j pos'] pos) (tru (mUn notNF ma)) := (pt_cmp (pc_notN h)).imp fun _ _ _ q => tNotN_of (tB_tru q)
end
end
end G

set_option Elab.async false
set_option linter.all false
set_option maxRecDepth 100000
namespace G
open PySem PySem.Spec L2

section
variable {X : Cx} {cl : Nat → Addr} {pos : Pos}

/-! ### o[i], o[i:j] -/
def atF : F1 := fun ds M => match ds with
  | [d, .int i] => match seqOf M d with
    | some (_, es) => match atI es i with
      | some e => some (e, M)
      | none => none
    | none => none
  | _ => none
theorem DRs.atI {K : PySem.W.Frag} {H : Hp} {ρ : Rh} {vs : List V} {ds : List D} {i : Int} {d : D} (h : DRs K H ρ vs ds) (e : atI ds i = some d) : ∃ v, L2.atI vs i = some v ∧ DR K H ρ v d := by
  unfold L2.atI at e ⊢
  rw [h.length]
  cases q : ixN ds.length i with
  | none => rw [q] at e; cases e
  | some j =>
    rw [q] at e
    exact h.get (i := j) e
theorem ix_at : IxR X (r2 ⟨X.K, cl⟩ atF) := by
  intro value slice pins s σ H x y v u Q I rx ry q hs
  obtain ⟨ρ, M, ds, d, M', R, r, e, k⟩ := q
  obtain ⟨dx, dy, rfl, ra, rb⟩ := r.two
  unfold atF at e
  split at e
  · rename_i dd i e0
    cases e0
    cases rb
    split at e
    · rename_i t es h1
      split at e
      · rename_i el h2
        cases e
        obtain ⟨a, xs, rfl, hr, h⟩ := seqOf_ok R ra h1
        obtain ⟨w', hw, rw'⟩ := hr.atI h2
        have fin := k _ H ρ (.refl H ρ) R rw'
        rcases h with ⟨_, h⟩ | ⟨_, h⟩
        · exact ix_seq value slice pins s σ H _ _ v u Q I rx ry (.inr (.inl ⟨a, xs, i, w', rfl, rfl, h, hw, fin⟩)) hs
        · exact ix_seq value slice pins s σ H _ _ v u Q I rx ry (.inl ⟨a, xs, i, w', rfl, rfl, h, hw, fin⟩) hs
      · cases e
    · cases e
  · cases e
theorem ge_ix {a b : Expr} {ma mb : ME} (ha : GE cl X a ma) (hb : GE cl X b mb) (hs : PlainIx b := by exact fun _ _ => rfl) : GE cl X (.Subscript a b pos) (mBin atF ma mb) :=
  (pe_ix ix_at ha hb hs).imp fun _ _ _ q => tM_bin q
/-- the items from one place to another -/
def cutD (xs : List D) (lo hi : Option Int) : List D := (xs.drop (HT.sIx xs.length 0 lo)).take (HT.sIx xs.length xs.length hi - HT.sIx xs.length 0 lo)
theorem DRs.cut {K : PySem.W.Frag} {H : Hp} {ρ : Rh} {vs : List V} {ds : List D} (h : DRs K H ρ vs ds) (lo hi : Option Int) : DRs K H ρ (cutV vs lo hi) (cutD ds lo hi) := by
  unfold cutV cutD
  rw [h.length]
  exact (h.drop _).take _
/-- a part of a slice -/
abbrev MP := Lo → Mo → Option (Option Int × Mo)
def tP (W : Wd) (m : MP) : TO := fun σ H Q => ∃ ρ lo M o M', Rep W H ρ M ∧ LoR W.K H ρ σ lo ∧ m lo M = some (o, M') ∧ ∀ H' ρ', Gr H ρ H' ρ' → Rep W H' ρ' M' → Q o H'
abbrev GP (cl : Nat → Addr) (X : Cx) (e : Option Expr) (m : MP) : Prop := PO X e (tP ⟨X.K, cl⟩ m)
theorem PO.imp {e : Option Expr} {t t' : TO} (h : PO X e t) (i : ∀ σ H Q, t' σ H Q → t σ H Q) : PO X e t' := ⟨fun pins s σ H Q I q => h.run pins s σ H Q I (i σ H Q q)⟩
def pNone : MP := fun _ M => some (none, M)
def pSome (m : ME) : MP := fun lo M => match m lo M with | some (.int i, M1) => some (some i, M1) | _ => none
theorem gp_none : GP cl X none pNone := PO.imp po_none fun σ H Q q => by
  obtain ⟨ρ, lo, M, o, M', R, L, e, k⟩ := q
  cases e
  exact k H ρ (.refl H ρ) R
theorem gp_some {e : Expr} {m : ME} (h : GE cl X e m) : GP cl X (some e) (pSome m) := PO.imp (po_some h) fun σ H Q q => by
  obtain ⟨ρ, lo, M, o, M', R, L, e, k⟩ := q
  unfold pSome at e
  split at e
  · rename_i i M1 h1
    cases e
    refine ⟨ρ, lo, M, _, _, R, L, h1, fun v H1 ρ1 g1 R1 r1 => ?_⟩
    cases r1
    exact ⟨i, rfl, k H1 ρ1 g1 R1⟩
  · cases e
def mSl (m : ME) (lo hi : MP) : ME := fun l M => match m l M with
  | some (d, M1) => match lo l M1 with
    | some (a, M2) => match hi l M2 with
      | some (b, M3) => match d with
        | .str z => if z.length ≤ sizeLine then some (.str (cutS z a b), M3) else none
        | _ => match seqOf M3 d with
          | some (true, es) => some (.tup (cutD es a b), M3)
          | some (false, es) => some (.lst (cutD es a b), M3)
          | none => none
      | none => none
    | none => none
  | none => none
theorem cutV_whole {xs : List V} {lo hi : Option Int} (h : HT.sIx xs.length 0 lo = 0 ∧ HT.sIx xs.length xs.length hi = xs.length) : cutV xs lo hi = xs := by
  unfold cutV
  rw [h.1, h.2, List.drop_zero, Nat.sub_zero, List.take_length]
def rSlM (W : Wd) (f : Lo → Mo → Option (D × Mo)) : V → Option Int → Option Int → Hp → VK → Prop := fun x lo hi H Q => True
theorem SlR.or3 {r1 r2 r3 : V → Option Int → Option Int → Hp → VK → Prop} (h1 : SlR X r1) (h2 : SlR X r2) (h3 : SlR X r3) : SlR X (fun x lo hi H Q => r1 x lo hi H Q ∨ r2 x lo hi H Q ∨ r3 x lo hi H Q) := by
  intro pins s σ H x v vl vu lo hi sl Q I rx hs pl pu h
  rcases h with h | h | h
  · exact h1 pins s σ H x v vl vu lo hi sl Q I rx hs pl pu h
  · exact h2 pins s σ H x v vl vu lo hi sl Q I rx hs pl pu h
  · exact h3 pins s σ H x v vl vu lo hi sl Q I rx hs pl pu h
theorem ge_sl {e : Expr} {m : ME} {lo hi : Option Expr} {ml mh : MP} {p2 : Pos} (he : GE cl X e m) (hl : GP cl X lo ml) (hu : GP cl X hi mh) : GE cl X (.Subscript e (.Slice lo hi none p2) pos) (mSl m ml mh) := by
  refine (pe_slice (SlR.or3 sl_tupA sl_list sl_str) he hl hu).imp fun σ H Q q => ?_
  obtain ⟨ρ, l, M, d, M', R, L, e, k⟩ := q
  unfold mSl at e
  split at e
  · rename_i d1 M1 h1
    split at e
    · rename_i a M2 h2
      split at e
      · rename_i b M3 h3
        refine ⟨ρ, l, M, d1, M1, R, L, h1, fun v H1 ρ1 g1 R1 r1 => ?_⟩
        refine ⟨ρ1, l, M1, a, M2, R1, L.mono g1, h2, fun H2 ρ2 g2 R2 => ?_⟩
        refine ⟨ρ2, l, M2, b, M3, R2, (L.mono g1).mono g2, h3, fun H3 ρ3 g3 R3 => ?_⟩
        have r3 := (r1.mono g2).mono g3
        have g := (g1.trans g2).trans g3
        split at e
        · rename_i z
          split at e
          · rename_i hz
            cases e
            cases r3
            exact .inr (.inr ⟨z, rfl, hz, k _ H3 ρ3 g R3 (.str _)⟩)
          · cases e
        · split at e
          · rename_i es hq
            cases e
            obtain ⟨p, xs, rfl, hr, ⟨_, h⟩ | ⟨hf, _⟩⟩ := seqOf_ok R3 r3 hq
            · refine .inl ⟨p, xs, rfl, h, fun hw => ?_, fun hw q' hq' => ?_⟩
              · have hc := hr.cut a b
                rw [cutV_whole hw] at hc
                cases r3 with
                | tup ht hs =>
                  cases hq
                  refine k _ H3 ρ3 g R3 (.tup ht ?_)
                  have e1 := (hr.cut a b).length
                  rw [cutV_whole hw] at e1
                  have : cutD es a b = es := by
                    unfold cutD
                    rw [← hr.length, hw.1, hw.2, List.drop_zero, Nat.sub_zero, hr.length, List.take_length]
                  rw [this]
                  exact hs
                | lst _ _ => cases hq
                | rol _ _ => cases hq
                | ref hn =>
                  exfalso
                  unfold seqOf at hq
                  simp only at hq
                  split at hq <;> cases hq
              · exact k _ _ ρ3 (g.trans (.new hq')) (R3.new hq') (.newTup hq' (R3.fresh hq') (hr.cut a b))
            · cases hf
          · rename_i es hq
            cases e
            obtain ⟨p, xs, rfl, hr, ⟨hf, _⟩ | ⟨_, h⟩⟩ := seqOf_ok R3 r3 hq
            · cases hf
            · exact .inr (.inl ⟨p, xs, rfl, h, fun q' hq' => k _ _ ρ3 (g.trans (.new hq')) (R3.new hq') (.newLst hq' (R3.fresh hq') (hr.cut a b))⟩)
          · cases e
      · cases e
    · cases e
  · cases e
/-- xs[::-1] of a list -/
def revF : F1 := fun ds M => match ds with
  | [d] => match seqOf M d with
    | some (false, es) => some (.lst es.reverse, M)
    | _ => none
  | _ => none
theorem ge_rev {e : Expr} {m : ME} {k : Nat} {p1 p2 p3 pos : Pos} (he : GE cl X e m) : GE cl X (.Subscript e (.Slice none none (some (.UnaryOp .USub (.Constant (.int 1) k p1) p2)) p3) pos) (mUn revF m) := by
  refine (pe_revL he).imp fun σ H Q q => ?_
  obtain ⟨ρ, lo, M, d, M', R, L, e, k⟩ := tM_one (tM_call q)
  refine ⟨ρ, lo, M, d, M', R, L, e, fun v H1 ρ1 g1 R1 r1 => ?_⟩
  obtain ⟨ρ2, M2, ds, d2, M3, R2, r2, e2, k2⟩ := k v H1 ρ1 g1 R1 r1
  cases r2 with
  | cons ra rr =>
    cases rr
    unfold revF at e2
    simp only at e2
    split at e2
    · rename_i es hq
      cases e2
      obtain ⟨p, xs, rfl, hr, ⟨hf, _⟩ | ⟨_, h⟩⟩ := seqOf_ok R2 ra hq
      · cases hf
      · exact ⟨p, xs, rfl, h, fun q' hq' => k2 _ _ ρ2 (.new hq') (R2.new hq') (.newLst hq' (R2.fresh hq') hr.reverse)⟩
    · cases e2

/-! ### built-ins -/
def lenF : F1 := fun ds M => match ds with
  | [.str z] => if z.length ≤ sizeLine then some (.int z.length, M) else none
  | [d] => match seqOf M d with
    | some (_, es) => some (.int es.length, M)
    | none => none
  | _ => none
theorem c_len : CallR X (.builtin "len") (rM ⟨X.K, cl⟩ lenF) := by
  intro pins s σ H xs us Q I rv q
  obtain ⟨ρ, M, ds, d, M', R, r, e, k⟩ := q
  unfold lenF at e
  split at e
  · rename_i z
    split at e
    · rename_i hz
      cases e
      obtain ⟨v, rfl, ra⟩ := r.one
      cases ra
      exact call_len pins s σ H _ us Q I rv ⟨.str z, z.length, rfl, ⟨hz, rfl⟩, k _ H ρ (.refl H ρ) R (.int _)⟩
    · cases e
  · rename_i dd _
    split at e
    · rename_i t es hq
      cases e
      obtain ⟨v, rfl, ra⟩ := r.one
      obtain ⟨a, ys, rfl, hr, h⟩ := seqOf_ok R ra hq
      have fin := k (.int ys.length) H ρ (.refl H ρ) R (by rw [hr.length]; exact .int _)
      refine call_len pins s σ H _ us Q I rv ⟨.ref a, ys.length, rfl, ?_, fin⟩
      rcases h with ⟨_, h⟩ | ⟨_, h⟩
      · exact .inr ⟨ys, h, rfl⟩
      · exact .inl ⟨ys, h, rfl⟩
    · cases e
  · cases e
def intF : F1 := fun ds M => match ds with
  | [.int i] => some (.int i, M)
  | [.bl b] => some (.int (if b then 1 else 0), M)
  | _ => none
theorem c_int : CallR X (.type "int") (rM ⟨X.K, cl⟩ intF) := by
  intro pins s σ H xs us Q I rv q
  obtain ⟨ρ, M, ds, d, M', R, r, e, k⟩ := q
  unfold intF at e
  split at e
  · cases e
    obtain ⟨v, rfl, ra⟩ := r.one
    cases ra
    exact call_int1 pins s σ H _ us Q I rv (.inl ⟨_, rfl, k _ H ρ (.refl H ρ) R (.int _)⟩)
  · cases e
    obtain ⟨v, rfl, ra⟩ := r.one
    cases ra
    exact call_int1 pins s σ H _ us Q I rv (.inr ⟨_, rfl, k _ H ρ (.refl H ρ) R (.int _)⟩)
  · cases e
def max2F : F1 := iiF (fun _ _ => true) fun i j => .int (if j > i then j else i)
def min2F : F1 := iiF (fun _ _ => true) fun i j => .int (if j < i then j else i)
theorem c_max2 (hc : X.calm = true) : CallR X (.builtin "max") (rM ⟨X.K, cl⟩ max2F) := by
  intro pins s σ H xs us Q I rv q
  obtain ⟨ρ, M, ds, d, M', R, r, e, k⟩ := q
  obtain ⟨a, b, rfl, _, rfl, rfl⟩ := iiF_some e
  obtain ⟨v, u, rfl, ra, rb⟩ := r.pair
  cases ra; cases rb
  exact call_max2 hc pins s σ H _ us Q I rv ⟨a, b, rfl, k _ H ρ (.refl H ρ) R (.int _)⟩
theorem c_min2 (hc : X.calm = true) : CallR X (.builtin "min") (rM ⟨X.K, cl⟩ min2F) := by
  intro pins s σ H xs us Q I rv q
  obtain ⟨ρ, M, ds, d, M', R, r, e, k⟩ := q
  obtain ⟨a, b, rfl, _, rfl, rfl⟩ := iiF_some e
  obtain ⟨v, u, rfl, ra, rb⟩ := r.pair
  cases ra; cases rb
  exact call_min2 hc pins s σ H _ us Q I rv ⟨a, b, rfl, k _ H ρ (.refl H ρ) R (.int _)⟩
def absF : F1 := fun ds M => match ds with | [.int i] => some (.int (if i < 0 then -i else i), M) | _ => none
theorem c_abs : CallR X (.builtin "abs") (rM ⟨X.K, cl⟩ absF) := by
  intro pins s σ H xs us Q I rv q
  obtain ⟨ρ, M, ds, d, M', R, r, e, k⟩ := q
  unfold absF at e
  split at e
  · cases e
    obtain ⟨v, rfl, ra⟩ := r.one
    cases ra
    exact call_abs pins s σ H _ us Q I rv ⟨_, rfl, k _ H ρ (.refl H ρ) R (.int _)⟩
  · cases e
def negF : F1 := fun ds M => match ds with | [.int i] => some (.int (-i), M) | _ => none
theorem u_neg : UnR X (unaryOp .USub) (fun x H Q => rM ⟨X.K, cl⟩ negF [x] H Q) := by
  intro pins s σ H x v Q I rx q
  obtain ⟨ρ, M, ds, d, M', R, r, e, k⟩ := q
  cases r with
  | cons ra rr =>
    cases rr
    unfold negF at e
    split at e
    · rename_i i e0
      cases e0
      cases e
      cases ra
      exact un_neg pins s σ H _ v Q I rx ⟨i, rfl, k _ H ρ (.refl H ρ) R (.int _)⟩
    · cases e
/-- list(x): a list that does not change; one that will -/
def listF : F1 := fun ds M => match ds with
  | [d] => match seqOf M d with
    | some (_, es) => some (.lst es, M)
    | none => none
  | _ => none
def listM : F1 := fun ds M => match ds with
  | [d] => match seqOf M d with
    | some (_, es) => some (.ref M.length, M ++ [.lst es])
    | none => none
  | _ => none
theorem seqOf_any {W : Wd} {H : Hp} {ρ : Rh} {M : Mo} {v : V} {d : D} {t : Bool} {es : List D} (R : Rep W H ρ M) (r : DR W.K H ρ v d) (e : seqOf M d = some (t, es)) : ∃ a xs, v = .ref a ∧ DRs W.K H ρ xs es ∧ (SqL W.K H a xs ∨ SqT W.K H a xs) := by
  obtain ⟨a, xs, h1, h2, ⟨_, h⟩ | ⟨_, h⟩⟩ := seqOf_ok R r e
  · exact ⟨a, xs, h1, h2, .inr h⟩
  · exact ⟨a, xs, h1, h2, .inl h⟩
theorem c_list : CallR X (.type "list") (rM ⟨X.K, cl⟩ listF) := by
  intro pins s σ H xs us Q I rv q
  obtain ⟨ρ, M, ds, d, M', R, r, e, k⟩ := q
  unfold listF at e
  split at e
  · split at e
    · rename_i t es hq
      cases e
      obtain ⟨v, rfl, ra⟩ := r.one
      obtain ⟨a, ys, rfl, hr, h⟩ := seqOf_any R ra hq
      exact call_list_of pins s σ H _ us Q I rv ⟨a, ys, rfl, h, fun p hp => k _ _ ρ (.new hp) (R.new hp) (.newLst hp (R.fresh hp) hr)⟩
    · cases e
  · cases e
theorem DR.grow {K : PySem.W.Frag} {H : Hp} {ρ : Rh} {p : Addr} {o : HO} {v : V} {d : D} (hp : H p = none) (h : DR K H ρ v d) : DR K (upd H p o) ρ v d := h.mono (.new hp)
theorem c_listM : CallR X (.type "list") (rM ⟨X.K, cl⟩ listM) := by
  intro pins s σ H xs us Q I rv q
  obtain ⟨ρ, M, ds, d, M', R, r, e, k⟩ := q
  unfold listM at e
  split at e
  · split at e
    · rename_i t es hq
      cases e
      obtain ⟨v, rfl, ra⟩ := r.one
      obtain ⟨a, ys, rfl, hr, h⟩ := seqOf_any R ra hq
      exact call_list_of pins s σ H _ us Q I rv ⟨a, ys, rfl, h, fun p hp => k _ _ _ (.push hp) (R.newL hp hr) ((Rep.ref_new R p).mono (.new hp))⟩
    · cases e
  · cases e
def tupleF : F1 := fun ds M => match ds with
  | [.tup es] => some (.tup es, M)
  | [d] => match seqOf M d with
    | some (false, es) => some (.tup es, M)
    | _ => none
  | _ => none
theorem c_tuple : CallR X (.type "tuple") (rM ⟨X.K, cl⟩ tupleF) := by
  intro pins s σ H xs us Q I rv q
  obtain ⟨ρ, M, ds, d, M', R, r, e, k⟩ := q
  unfold tupleF at e
  split at e
  · cases e
    obtain ⟨v, rfl, ra⟩ := r.one
    have fin := k _ H ρ (.refl H ρ) R ra
    cases ra with
    | tup ht hs => exact call_tuple_of pins s σ H _ us Q I rv ⟨_, _, rfl, .inr ⟨ht.sq, fin⟩⟩
  · split at e
    · rename_i es hq
      cases e
      obtain ⟨v, rfl, ra⟩ := r.one
      obtain ⟨a, ys, rfl, hr, ⟨hf, _⟩ | ⟨_, h⟩⟩ := seqOf_ok R ra hq
      · cases hf
      · exact call_tuple_of pins s σ H _ us Q I rv ⟨a, ys, rfl, .inl ⟨h, fun p hp => k _ _ ρ (.new hp) (R.new hp) (.newTup hp (R.fresh hp) hr)⟩⟩
    · cases e
  · cases e
def boolsOf : List D → Option (List Bool)
  | [] => some []
  | .bl b :: ds => match boolsOf ds with | some bs => some (b :: bs) | none => none
  | _ => none
theorem boolsOf_ok {K : PySem.W.Frag} {H : Hp} {ρ : Rh} : ∀ {vs : List V} {ds : List D} {bs : List Bool}, DRs K H ρ vs ds → boolsOf ds = some bs → vs = bs.map V.bl
  | _, [], _, .nil, e => by cases e; rfl
  | _, d :: ds, bs, .cons h hs, e => by
    cases d with
    | bl b =>
      rw [boolsOf] at e
      split at e
      · rename_i bs' h1
        cases e
        cases h
        rw [boolsOf_ok hs h1]
        rfl
      · cases e
    | _ => cases e
def allF : F1 := fun ds M => match ds with
  | [d] => match seqOf M d with
    | some (false, es) => match boolsOf es with
      | some bs => some (.bl (bs.all id), M)
      | none => none
    | _ => none
  | _ => none
def anyF : F1 := fun ds M => match ds with
  | [d] => match seqOf M d with
    | some (false, es) => match boolsOf es with
      | some bs => some (.bl (bs.any id), M)
      | none => none
    | _ => none
  | _ => none
theorem c_all (hc : X.calm = true) : CallR X (.builtin "all") (rM ⟨X.K, cl⟩ allF) := by
  intro pins s σ H xs us Q I rv q
  obtain ⟨ρ, M, ds, d, M', R, r, e, k⟩ := q
  unfold allF at e
  split at e
  · split at e
    · rename_i es hq
      split at e
      · rename_i bs hb
        cases e
        obtain ⟨v, rfl, ra⟩ := r.one
        obtain ⟨a, ys, rfl, hr, ⟨hf, _⟩ | ⟨_, h⟩⟩ := seqOf_ok R ra hq
        · cases hf
        · rw [boolsOf_ok hr hb] at h
          exact cr_all hc pins s σ H _ us Q I rv ⟨a, bs, rfl, h, k _ H ρ (.refl H ρ) R (.bl _)⟩
      · cases e
    · cases e
  · cases e
theorem c_any (hc : X.calm = true) : CallR X (.builtin "any") (rM ⟨X.K, cl⟩ anyF) := by
  intro pins s σ H xs us Q I rv q
  obtain ⟨ρ, M, ds, d, M', R, r, e, k⟩ := q
  unfold anyF at e
  split at e
  · split at e
    · rename_i es hq
      split at e
      · rename_i bs hb
        cases e
        obtain ⟨v, rfl, ra⟩ := r.one
        obtain ⟨a, ys, rfl, hr, ⟨hf, _⟩ | ⟨_, h⟩⟩ := seqOf_ok R ra hq
        · cases hf
        · rw [boolsOf_ok hr hb] at h
          exact cr_any hc pins s σ H _ us Q I rv ⟨a, bs, rfl, h, k _ H ρ (.refl H ρ) R (.bl _)⟩
      · cases e
    · cases e
  · cases e
def intsOf : List D → Option (List Int)
  | [] => some []
  | .int b :: ds => match intsOf ds with | some bs => some (b :: bs) | none => none
  | _ => none
theorem intsOf_ok {K : PySem.W.Frag} {H : Hp} {ρ : Rh} : ∀ {vs : List V} {ds : List D} {bs : List Int}, DRs K H ρ vs ds → intsOf ds = some bs → vs = bs.map V.int
  | _, [], _, .nil, e => by cases e; rfl
  | _, d :: ds, bs, .cons h hs, e => by
    cases d with
    | int b =>
      rw [intsOf] at e
      split at e
      · rename_i bs' h1
        cases e
        cases h
        rw [intsOf_ok hs h1]
        rfl
      · cases e
    | _ => cases e
def sumF : F1 := fun ds M => match ds with
  | [d] => match seqOf M d with
    | some (false, es) => match intsOf es with
      | some ns => some (.int ns.sum, M)
      | none => none
    | _ => none
  | _ => none
theorem c_sum (hc : X.calm = true) : CallR X (.builtin "sum") (rM ⟨X.K, cl⟩ sumF) := by
  intro pins s σ H xs us Q I rv q
  obtain ⟨ρ, M, ds, d, M', R, r, e, k⟩ := q
  unfold sumF at e
  split at e
  · split at e
    · rename_i es hq
      split at e
      · rename_i bs hb
        cases e
        obtain ⟨v, rfl, ra⟩ := r.one
        obtain ⟨a, ys, rfl, hr, ⟨hf, _⟩ | ⟨_, h⟩⟩ := seqOf_ok R ra hq
        · cases hf
        · rw [intsOf_ok hr hb] at h
          exact cr_sum hc pins s σ H _ us Q I rv ⟨a, bs, rfl, h, k _ H ρ (.refl H ρ) R (.int _)⟩
      · cases e
    · cases e
  · cases e
/-- putting in order, one item after another -/
def insBy {α : Type} (le : α → α → Bool) (x : α) : List α → List α
  | [] => [x]
  | y :: ys => if le x y = true then x :: y :: ys else y :: insBy le x ys
def sortBy {α : Type} (le : α → α → Bool) : List α → List α
  | [] => []
  | x :: xs => insBy le x (sortBy le xs)
theorem insBy_perm {α : Type} (le : α → α → Bool) (x : α) : ∀ l : List α, (insBy le x l).Perm (x :: l)
  | [] => .refl _
  | y :: ys => by
    rw [insBy]
    split
    · exact .refl _
    · exact ((insBy_perm le x ys).cons y).trans (.swap x y ys)
theorem sortBy_perm {α : Type} (le : α → α → Bool) : ∀ l : List α, (sortBy le l).Perm l
  | [] => .refl _
  | x :: xs => (insBy_perm le x _).trans ((sortBy_perm le xs).cons x)
theorem insBy_sorted {α : Type} {le : α → α → Bool} (tot : ∀ a b, le a b = true ∨ le b a = true) (tr : ∀ a b c, le a b = true → le b c = true → le a c = true) (x : α) : ∀ l : List α, l.Pairwise (fun a b => le a b = true) → (insBy le x l).Pairwise (fun a b => le a b = true)
  | [], _ => by rw [insBy]; exact List.pairwise_singleton _ _
  | y :: ys, h => by
    rw [insBy]
    have h' := List.pairwise_cons.mp h
    split
    · rename_i hxy
      refine List.pairwise_cons.mpr ⟨fun z hz => ?_, h⟩
      rcases List.mem_cons.mp hz with rfl | hz
      · exact hxy
      · exact tr _ _ _ hxy (h'.1 z hz)
    · rename_i hxy
      have hyx : le y x = true := (tot y x).resolve_right hxy
      refine List.pairwise_cons.mpr ⟨fun z hz => ?_, insBy_sorted tot tr x ys h'.2⟩
      rcases List.mem_cons.mp ((insBy_perm le x ys).mem_iff.mp hz) with rfl | hz
      · exact hyx
      · exact h'.1 z hz
theorem sortBy_sorted {α : Type} {le : α → α → Bool} (tot : ∀ a b, le a b = true ∨ le b a = true) (tr : ∀ a b c, le a b = true → le b c = true → le a c = true) : ∀ l : List α, (sortBy le l).Pairwise (fun a b => le a b = true)
  | [] => .nil
  | x :: xs => insBy_sorted tot tr x _ (sortBy_sorted tot tr xs)
def sortI (ns : List Int) : List Int := sortBy (fun a b => decide (a ≤ b)) ns
theorem sortI_of {ns out : List Int} (p : out.Perm ns) (s : out.Pairwise (fun a b => a ≤ b)) : out = sortI ns := by
  have h1 : (sortI ns).Pairwise (fun a b => a ≤ b) := (sortBy_sorted (fun a b => by simp; omega) (fun a b c h1 h2 => by simp at h1 h2 ⊢; omega) ns).imp fun h => by simpa using h
  exact (p.trans (sortBy_perm _ ns).symm).eq_of_pairwise (fun a b _ _ h1 h2 => by omega) s h1
def sortedIF : F1 := fun ds M => match ds with
  | [d] => match seqOf M d with
    | some (false, es) => match intsOf es with
      | some ns => if ns.length ≤ sizeLine then some (.lst ((sortI ns).map D.int), M) else none
      | none => none
    | _ => none
  | _ => none
end
end G

set_option Elab.async false
set_option linter.all false
set_option maxRecDepth 100000
namespace G
open PySem PySem.Spec L2

section
variable {X : Cx} {cl : Nat → Addr} {pos : Pos}
theorem c_sortedI : CallR X (.builtin "sorted") (rM ⟨X.K, cl⟩ sortedIF) := by
  intro pins s σ H xs us Q I rv q
  obtain ⟨ρ, M, ds, d, M', R, r, e, k⟩ := q
  unfold sortedIF at e
  split at e
  · split at e
    · rename_i es hq
      split at e
      · rename_i ns hb
        split at e
        · rename_i hz
          cases e
          obtain ⟨v, rfl, ra⟩ := r.one
          obtain ⟨a, ys, rfl, hr, ⟨hf, _⟩ | ⟨_, h⟩⟩ := seqOf_ok R ra hq
          · cases hf
          · rw [intsOf_ok hr hb] at h
            refine cr_sortedI pins s σ H _ us Q I rv ⟨a, ns, rfl, h, fun ns' p hp hs hn => ?_⟩
            rw [sortI_of hp hs]
            exact k _ _ ρ (.new hn) (R.new hn) (.newLst hn (R.fresh hn) (.ints _))
        · cases e
      · cases e
    · cases e
  · cases e

/-! ### methods of lists -/
def isLst (M : Mo) (d : D) : Bool := match seqOf M d with | some (false, _) => true | _ => false
/-- o.m(args) of a list -/
def mMetL (f : F1) (mo : ME) (ms : MA) : ME := fun lo M => match mo lo M with
  | some (d, M1) => if isLst M1 d = true then (match ms lo M1 with | some (ds, M2) => f (d :: ds) M2 | none => none) else none
  | none => none
theorem isLst_ok {W : Wd} {H : Hp} {ρ : Rh} {M : Mo} {v : V} {d : D} (R : Rep W H ρ M) (r : DR W.K H ρ v d) (e : isLst M d = true) : tyV W.K "list" v H := by
  unfold isLst at e
  split at e
  · rename_i es hq
    obtain ⟨a, xs, rfl, hr, ⟨hf, _⟩ | ⟨_, h⟩⟩ := seqOf_ok R r hq
    · cases hf
    · exact .inl ⟨rfl, xs, h⟩
  · cases e
theorem tBM_of {W : Wd} {f : F1} {mo : ME} {ms : MA} {σ : L2.St} {H : Hp} {Q : VK} (q : tM W (mMetL f mo ms) σ H Q) : tBM W.K "list" (fun x xs H Q => rM W f (x :: xs) H Q) (tM W mo) (tMs W ms) σ H Q := by
  obtain ⟨ρ, lo, M, d, M', R, L, e, k⟩ := q
  unfold mMetL at e
  split at e
  · rename_i d1 M1 h1
    split at e
    · rename_i hl
      split at e
      · rename_i ds M2 h2
        refine ⟨ρ, lo, M, d1, M1, R, L, h1, fun v H1 ρ1 g1 R1 r1 => ⟨isLst_ok R1 r1 hl, ?_⟩⟩
        refine ⟨ρ1, lo, M1, ds, M2, R1, L.mono g1, h2, fun vs H2 ρ2 g2 R2 r2 => ?_⟩
        exact ⟨ρ2, M2, d1 :: ds, d, M', R2, .cons (r1.mono g2) r2, e, fun v H3 ρ3 g3 R3 r3 => k v H3 ρ3 ((g1.trans g2).trans g3) R3 r3⟩
      · cases e
    · cases e
  · cases e
section
variable {o a : Expr} {es : List Expr} {mo : ME} {ms : MA} {name : Str} {apos cpos : Pos} {id : String} {f : F1}
theorem ge_metL (slot : Slot "list" name id) (hty : typeOf (.builtin id) = pure (.type "method_descriptor")) (hm : MtR X id (fun x xs H Q => rM ⟨X.K, cl⟩ f (x :: xs) H Q)) (ho : GE cl X o mo) (ha : GA cl X (a :: es) ms)
    (hbase : attributeBase o name X.env (eval o X.env) = eval o X.env := by rfl)
    (hfew : ((backTo cpos (starEach (a :: es) X.env)).all (fun x => !x.1) && (backToKw cpos (keywordEach [] X.env)).all (fun x => x.1.isSome)
      && decide ((a :: es).length + ([] : List Keyword).length + (if ([] : List Keyword).isEmpty then 0 else 1) < 30)) = true := by rfl)
    (hline : (apos.endLine == cpos.line) = true := by rfl) (hs : starEach (a :: es) X.env = (false, eval a X.env) :: starEach es X.env := by rfl) (hplain : (backTo cpos (starEach es X.env)).any (·.1) = false := by rfl) :
    GE cl X (.Call (.Attribute o name apos) (a :: es) [] cpos) (mMetL f mo ms) :=
  (pe_bm PySem.F.plainAttrs_list slot hty hm ho ha hbase hfew hline hs hplain).imp fun _ _ _ q => tBM_of q
theorem ge_metL0 (slot : Slot "list" name id) (hty : typeOf (.builtin id) = pure (.type "method_descriptor")) (hm : MtR X id (fun x xs H Q => rM ⟨X.K, cl⟩ f (x :: xs) H Q)) (ho : GE cl X o mo)
    (hbase : attributeBase o name X.env (eval o X.env) = eval o X.env := by rfl) (hline : (apos.endLine == cpos.line) = true := by rfl) :
    GE cl X (.Call (.Attribute o name apos) [] [] cpos) (mMetL f mo mNil) := by
  refine (pe_bm0 PySem.F.plainAttrs_list slot hty hm ho hbase hline).imp fun σ H Q q => ?_
  obtain ⟨ρ, lo, M, d, M', R, L, e, k⟩ := tBM_of q
  refine ⟨ρ, lo, M, d, M', R, L, e, fun v H1 ρ1 g1 R1 r1 => ?_⟩
  obtain ⟨h1, ρ2, lo2, M2, ds, M3, R2, L2', e2, k2⟩ := k v H1 ρ1 g1 R1 r1
  cases e2
  exact ⟨h1, k2 [] H1 ρ2 (.refl H1 ρ2) R2 .nil⟩
end
theorem Rep.setL {W : Wd} {H : Hp} {ρ : Rh} {M : Mo} {n : Nat} {p : Addr} {xs : List V} {ds : List D} (R : Rep W H ρ M) (h : ρ.m[n]? = some p) (r : DRs W.K H ρ xs ds) : Rep W (upd H p (.lst xs)) ρ (M.set n (.lst ds)) :=
  R.put h ⟨xs, upd_same, r.mono (.put R (List.mem_of_getElem? h))⟩
theorem refL {W : Wd} {H : Hp} {ρ : Rh} {M : Mo} {n : Nat} {v : V} {ds : List D} (R : Rep W H ρ M) (r : DR W.K H ρ v (.ref n)) (e : M[n]? = some (.lst ds)) : ∃ p xs, v = .ref p ∧ ρ.m[n]? = some p ∧ H p = some (.lst xs) ∧ DRs W.K H ρ xs ds := by
  cases r with
  | ref h =>
    obtain ⟨xs, h1, h2⟩ := R.at_ h e
    exact ⟨_, xs, rfl, h, h1, h2⟩
def appendF : F1 := fun ds M => match ds with
  | [.ref n, d] => match M[n]? with
    | some (.lst es) => if es.length < sizeLine then some (.non, M.set n (.lst (es ++ [d]))) else none
    | _ => none
  | _ => none
theorem m_append : MtR X "list.append" (fun x xs H Q => rM ⟨X.K, cl⟩ appendF (x :: xs) H Q) := by
  intro pins s σ H x xs v us Q I rx rv q
  obtain ⟨ρ, M, ds, d, M', R, r, e, k⟩ := q
  unfold appendF at e
  split at e
  · rename_i n d1
    split at e
    · rename_i es hm
      split at e
      · rename_i hl
        cases e
        cases r with
        | cons ra rr =>
          obtain ⟨y, rfl, ry⟩ := rr.one
          obtain ⟨p, ys, rfl, hp, hH, hr⟩ := refL R ra hm
          exact mt_append pins s σ H _ _ v us Q I rx rv ⟨p, ys, y, rfl, rfl, hH, by rw [hr.length]; exact hl, k _ _ ρ (.put R (List.mem_of_getElem? hp)) (R.setL hp (hr.append (.cons ry .nil))) .non⟩
      · cases e
    · cases e
  · cases e
def extendF : F1 := fun ds M => match ds with
  | [.ref n, d] => match M[n]?, lstOf M d with
    | some (.lst es), some fs => if es.length + fs.length ≤ sizeLine then some (.non, M.set n (.lst (es ++ fs))) else none
    | _, _ => none
  | _ => none
theorem m_extend : MtR X "list.extend" (fun x xs H Q => rM ⟨X.K, cl⟩ extendF (x :: xs) H Q) := by
  intro pins s σ H x xs v us Q I rx rv q
  obtain ⟨ρ, M, ds, d, M', R, r, e, k⟩ := q
  unfold extendF at e
  split at e
  · rename_i n d1
    split at e
    · rename_i es fs hm hf
      split at e
      · rename_i hl
        cases e
        cases r with
        | cons ra rr =>
          obtain ⟨y, rfl, ry⟩ := rr.one
          obtain ⟨p, ys, rfl, hp, hH, hr⟩ := refL R ra hm
          obtain ⟨b, zs, rfl, hrz, hB⟩ := lstOf_ok R ry hf
          exact mt_extend pins s σ H _ _ v us Q I rx rv ⟨p, b, ys, zs, rfl, rfl, hH, hB, by rw [hr.length, hrz.length]; exact hl, k _ _ ρ (.put R (List.mem_of_getElem? hp)) (R.setL hp (hr.append hrz)) .non⟩
      · cases e
    · cases e
  · cases e
def popF : F1 := fun ds M => match ds with
  | [.ref n] => match M[n]? with
    | some (.lst es) => match es[es.length - 1]? with
      | some d => some (d, M.set n (.lst es.dropLast))
      | none => none
    | _ => none
  | [.ref n, .int i] => match M[n]? with
    | some (.lst es) => if decide (0 ≤ i) && decide (i < es.length) && decide (es.length ≤ 1000000) then (match es[i.toNat]? with
      | some d => some (d, M.set n (.lst (es.eraseIdx i.toNat)))
      | none => none) else none
    | _ => none
  | _ => none
theorem m_pop : MtR X "list.pop" (fun x xs H Q => rM ⟨X.K, cl⟩ popF (x :: xs) H Q) := by
  intro pins s σ H x xs v us Q I rx rv q
  obtain ⟨ρ, M, ds, d, M', R, r, e, k⟩ := q
  unfold popF at e
  split at e
  · rename_i n
    split at e
    · rename_i es hm
      split at e
      · rename_i d1 hd
        cases e
        cases r with
        | cons ra rr =>
          cases rr
          obtain ⟨p, ys, rfl, hp, hH, hr⟩ := refL R ra hm
          obtain ⟨y, hy, ry⟩ := hr.get hd
          have g : Gr H ρ (upd H p (.lst ys.dropLast)) ρ := .put R (List.mem_of_getElem? hp)
          exact mt_pop pins s σ H _ _ v us Q I rx rv ⟨p, ys, y, rfl, rfl, hH, by rw [hr.length]; exact hy, k _ _ ρ g (R.setL hp hr.dropLast) (ry.mono g)⟩
      · cases e
    · cases e
  · rename_i n i
    split at e
    · rename_i es hm
      split at e
      · rename_i hl
        simp only [Bool.and_eq_true, decide_eq_true_eq] at hl
        split at e
        · rename_i d1 hd
          cases e
          cases r with
          | cons ra rr =>
            obtain ⟨y0, rfl, ry0⟩ := rr.one
            cases ry0
            obtain ⟨p, ys, rfl, hp, hH, hr⟩ := refL R ra hm
            obtain ⟨y, hy, ry⟩ := hr.get hd
            have g : Gr H ρ (upd H p (.lst (ys.eraseIdx i.toNat))) ρ := .put R (List.mem_of_getElem? hp)
            have hlen := hr.length
            have hix : ixN ys.length i = some i.toNat := by unfold ixN; rw [if_pos hl.1.1, if_pos (by rw [hlen]; exact hl.1.2)]
            exact mt_popAt pins s σ H _ _ v us Q I rx rv ⟨p, ys, i, i.toNat, y, rfl, rfl, hH, by omega, by omega, (ixN_seq hix).1, hy, k _ _ ρ g (R.setL hp (hr.eraseIdx _)) (ry.mono g)⟩
        · cases e
      · cases e
    · cases e
  · cases e
/-! ### methods of texts, one argument -/
def mMetS (f : Str → Str → D) (mo ma : ME) : ME := fun lo M => match mo lo M with
  | some (.str a, M1) => match ma lo M1 with
    | some (.str b, M2) => some (f a b, M2)
    | _ => none
  | _ => none
theorem ge_endswith {o a : Expr} {mo ma : ME} {apos : Pos} (ho : GE cl X o mo) (ha : GE cl X a ma) (hs : starEach [a] X.env = [(false, eval a X.env)] := by rfl) (hbase : attributeBase o "endswith" X.env (eval o X.env) = eval o X.env := by rfl) (hline : (apos.endLine == pos.line) = true := by rfl) :
    GE cl X (.Call (.Attribute o "endswith" apos) [a] [] pos) (mMetS (fun a b => .bl (Txt.endswith a b)) mo ma) := by
  refine (pe_m1 PySem.F.slot_str_endswith PySem.F.type_str_endswith mt_endswith ho ha hs hbase hline).imp fun σ H Q q => ?_
  obtain ⟨ρ, lo, M, d, M', R, L, e, k⟩ := q
  unfold mMetS at e
  split at e
  · rename_i z M1 h1
    split at e
    · rename_i b M2 h2
      cases e
      refine ⟨ρ, lo, M, _, _, R, L, h1, fun v H1 ρ1 g1 R1 r1 => ?_⟩
      cases r1
      refine ⟨⟨z, rfl⟩, ρ1, lo, M1, _, _, R1, L.mono g1, h2, fun u H2 ρ2 g2 R2 r2 => ?_⟩
      cases r2
      exact ⟨z, b, rfl, rfl, k _ H2 ρ2 (g1.trans g2) R2 (.bl _)⟩
    · cases e
  · cases e
/-! ### stores -/
def sSet (m : ME) (g : MG) : MS := fun lo M => match m lo M with
  | some (d, M1) => match g d lo M1 with
    | some (lo2, M2) => some (.nx lo2 M2)
    | none => none
  | none => none
theorem gs_asg {tg e : Expr} {m : ME} {g : MG} (he : GE cl X e m) (hg : GG cl X tg g) (hs : swapsWithSole [tg] e pos.line X.env = pure false := by rfl) (hw : swappedStores [tg] e X.env = pure none := by rfl) (h1 : (assignEach [tg] X.env).map (·.2) = [assign tg X.env] := by rfl) : GS cl X (.Assign [tg] e pos) (sSet m g) :=
  (ps_asg he hg hs hw h1).imp fun De σ H q => by
    obtain ⟨ρ, lo, M, o, R, L, e, k⟩ := q
    unfold sSet at e
    split at e
    · rename_i d M1 h1
      split at e
      · rename_i lo2 M2 h2
        cases e
        refine ⟨ρ, lo, M, d, M1, R, L, h1, fun v H1 ρ1 g1 R1 r1 => ?_⟩
        exact ⟨ρ1, lo, M1, d, lo2, M2, R1, L.mono g1, r1, h2, fun σ2 H2 ρ2 g2 R2 L2 => k σ2 H2 ρ2 (g1.trans g2) R2 L2⟩
      · cases e
    · cases e
theorem gs_set {i : Nat} {x : Str} {e : Expr} {m : ME} {pos' : Pos} (hN : X.N.Nodup) (hi : X.N[i]? = some x) (hx : Loc X.env.scope x) (he : GE cl X e m) (hs : swapsWith e (some (.Name x pos')) pos.line X.env = pure false := by rfl) (hf : X.fn x = true ∨ X.env.scope.names.lookup x = some .local := by first | exact .inl rfl | exact .inr rfl | assumption) :
    GS cl X (.Assign [.Name x pos'] e pos) (sSet m (gName i)) := (ps_set hN hi hx he hs hf).imp fun De σ H q => by
  obtain ⟨ρ, lo, M, o, R, L, e, k⟩ := q
  unfold sSet at e
  split at e
  · rename_i d M1 h1
    split at e
    · rename_i lo2 M2 h2
      cases e
      cases h2
      exact ⟨ρ, lo, M, d, _, R, L, h1, fun v H1 ρ1 g1 R1 r1 => k _ H1 ρ1 g1 R1 ((L.mono g1).set r1 i)⟩
    · cases e
  · cases e
/-- (a, b, ..) = a tuple -/
def gTup (n : Nat) (g : MGs) : MG := fun d lo M => match d with
  | .tup ds => if ds.length = n then g ds lo M else none
  | _ => none
theorem gg_tup {es : List Expr} {k : Nat} {n : Nat} {g : MGs} (hc : X.calm = true) (h : GGs cl X es g) (hn : (assignEach es X.env).length = n := by rfl) (hst : (assignEach es X.env).findIdx? (·.1) = none := by rfl) : GG cl X (.Tuple es k pos) (gTup n g) :=
  (pg_tup hc h hn hst).imp fun v σ H Q q => by
    obtain ⟨ρ, lo, M, d, lo', M', R, L, r, e, k⟩ := q
    unfold gTup at e
    split at e
    · rename_i ds
      split at e
      · rename_i hl
        cases r with
        | tup ht hs =>
          rename_i a xs
          exact ⟨a, xs, rfl, ht.sq, by rw [hs.length]; exact hl, ρ, lo, M, ds, lo', M', R, L, hs, e, k⟩
      · cases e
    · cases e
/-- o[i] = v of a list -/
def setL (o i v : D) (M : Mo) : Option Mo := match o, i with
  | .ref n, .int k => match M[n]? with
    | some (.lst es) => match ixN es.length k with
      | some j => some (M.set n (.lst (es.set j v)))
      | none => none
    | _ => none
  | _, _ => none
def gSub (mo mi : ME) (f : D → D → D → Mo → Option Mo) : MG := fun v lo M => match mo lo M with
  | some (o, M1) => match mi lo M1 with
    | some (i, M2) => match f o i v M2 with
      | some M3 => some (lo, M3)
      | none => none
    | none => none
  | none => none
theorem gg_subL {o i : Expr} {mo mi : ME} (ho : GE cl X o mo) (hi : GE cl X i mi)
    (ha : ∀ u, assign (.Subscript o i pos) X.env u = (do
      let p ← holding [u] (eval o X.env)
      let q ← holding [u, p] (eval i X.env)
      standAt pos
      holding [u, p, q] (setItem p q u)
      release [u, p, q] []) := by intro _; rfl) : GG cl X (.Subscript o i pos) (gSub mo mi setL) := by
  refine (pg_sub ho hi set_list ha).imp fun v σ H Q q => ?_
  obtain ⟨ρ, lo, M, d, lo', M', R, L, r, e, k⟩ := q
  unfold gSub at e
  split at e
  · rename_i od M1 h1
    split at e
    · rename_i id M2 h2
      split at e
      · rename_i M3 h3
        cases e
        refine ⟨ρ, lo, M, od, M1, R, L, h1, fun ov H1 ρ1 g1 R1 r1 => ?_⟩
        refine ⟨ρ1, lo, M1, id, M2, R1, L.mono g1, h2, fun iv H2 ρ2 g2 R2 r2 => ?_⟩
        unfold setL at h3
        split at h3
        · rename_i n kk
          cases r2
          split at h3
          · rename_i es hm
            split at h3
            · rename_i j hj
              cases h3
              obtain ⟨p, ys, rfl, hp, hH, hr⟩ := refL R2 (r1.mono g2) hm
              have g3 : Gr H2 ρ2 (upd H2 p (.lst (ys.set j v))) ρ2 := .put R2 (List.mem_of_getElem? hp)
              refine ⟨p, ys, kk, j, rfl, rfl, hH, by rw [hr.length]; exact hj, ?_⟩
              exact k _ _ ρ2 ((g1.trans g2).trans g3) (R2.setL hp (hr.set j ((r.mono g1).mono g2))) (((L.mono g1).mono g2).mono g3)
            · cases h3
          · cases h3
        · cases h3
      · cases e
    · cases e
  · cases e
/-- a, b = x, y with names -/
def sPar (i j : Nat) (ma mb : ME) : MS := fun lo M => match mTwo ma mb lo M with
  | some ([d, e], M1) => some (.nx ((lo.set i (some d)).set j (some e)) M1)
  | _ => none
theorem gs_par {i j : Nat} {x y : Str} {a b : Expr} {ma mb : ME} {px py pt : Pos} {kt k2 pt2} (hc : X.calm = true) (hN : X.N.Nodup) (hi : X.N[i]? = some x) (hj : X.N[j]? = some y) (hij : i ≠ j)
    (hx : X.env.scope.names.lookup x = some .local) (hy : X.env.scope.names.lookup y = some .local) (ha : GA cl X [a, b] (mTwo ma mb))
    (hw : swappedStores [.Tuple [.Name x px, .Name y py] kt pt] (.Tuple [a, b] k2 pt2) X.env = pure (some [x, y]))
    (hs : swapsWithSole [.Tuple [.Name x px, .Name y py] kt pt] (.Tuple [a, b] k2 pt2) pos.line X.env = pure false := by rfl) :
    GS cl X (.Assign [.Tuple [.Name x px, .Name y py] kt pt] (.Tuple [a, b] k2 pt2) pos) (sPar i j ma mb) :=
  (ps_par hc hN hi hj hij hx hy ha hw hs).imp fun De σ H q => by
    obtain ⟨ρ, lo, M, o, R, L, e, k⟩ := q
    unfold sPar at e
    split at e
    · rename_i d1 d2 M1 h1
      cases e
      refine ⟨ρ, lo, M, _, M1, R, L, h1, fun vs H1 ρ1 g1 R1 r1 => ?_⟩
      obtain ⟨v, u, rfl, ra, rb⟩ := r1.pair
      exact ⟨v, u, rfl, k _ H1 ρ1 g1 R1 (((L.mono g1).set ra i).set rb j)⟩
    · cases e
end
end G

set_option Elab.async false
set_option linter.all false
set_option maxRecDepth 100000
namespace G
open PySem PySem.Spec L2

/-! ### what is walked -/
/-- the iterator J gives the items ds, as long as the heap grows from (H0, ρ0) -/
def ItOk (W : Wd) (ds : List D) (H0 : Hp) (ρ0 : Rh) (J : It) : Prop :=
  ∀ (i : Nat) (H1 : Hp) (ρ1 : Rh) (M1 : Mo), (∀ v d, DR W.K H0 ρ0 v d → DR W.K H1 ρ1 v d) → Rep W H1 ρ1 M1 →
    (ds.length = i → J.stop i H1) ∧ ∀ d, ds[i]? = some d → J.go i H1 ∧ ∀ x H2, J.yld i H1 x H2 → Gr H1 ρ1 H2 ρ1 ∧ Rep W H2 ρ1 M1 ∧ DR W.K H2 ρ1 x d ∧ (∀ (a : Addr) (o : HO), H1 a = some o → H2 a = some o)
def iM (W : Wd) (mi : MA) : TI := fun σ H R => ∃ ρ lo M ds M', Rep W H ρ M ∧ LoR W.K H ρ σ lo ∧ mi lo M = some (ds, M') ∧ ∀ J H' ρ', Gr H ρ H' ρ' → Rep W H' ρ' M' → ItOk W ds H' ρ' J → R J H'
abbrev GI (cl : Nat → Addr) (X : Cx) (tg e : Expr) (mi : MA) : Prop := PI X tg e (iM ⟨X.K, cl⟩ mi)
theorem _root_.L2.PI.imp {X : Cx} {tg e : Expr} {t t' : TI} (h : PI X tg e t) (i : ∀ σ H Q, t' σ H Q → t σ H Q) : PI X tg e t' := ⟨fun pins s σ H R I q => h.run pins s σ H R I (i σ H R q)⟩
/-- a tuple; a list that does not change -/
def iTupM (m : ME) : MA := fun lo M => match m lo M with | some (.tup ds, M1) => some (ds, M1) | _ => none
def iLstM (m : ME) : MA := fun lo M => match m lo M with | some (.lst ds, M1) => some (ds, M1) | _ => none
section
variable {X : Cx} {cl : Nat → Addr} {pos : Pos} {tg e : Expr} {m : ME}
theorem gi_tup (h : GE cl X e m) : GI cl X tg e (iTupM m) := (pi_tup h).imp fun σ H Q q => by
  obtain ⟨ρ, lo, M, ds, M', R, L, e, k⟩ := q
  unfold iTupM at e
  split at e
  · rename_i ds' M1 h1
    cases e
    refine ⟨ρ, lo, M, _, _, R, L, h1, fun v H1 ρ1 g1 R1 r1 => ?_⟩
    cases r1 with
    | tup ht hs =>
      rename_i a xs
      refine ⟨a, rfl, ⟨xs, ht.sq⟩, k _ H1 ρ1 g1 R1 fun i H2 ρ2 M2 mono R2 => ?_⟩
      have r2 := mono _ _ (.tup ht hs)
      cases r2 with
      | tup ht2 hs2 =>
        rename_i ys
        refine ⟨fun hi => ⟨ys, ht2.sq, by rw [hs2.length]; exact Nat.le_of_eq hi⟩, fun d hd => ?_⟩
        obtain ⟨x, hx, rx⟩ := hs2.get hd
        refine ⟨⟨ys, x, ht2.sq, hx⟩, fun x' H3 hy => ?_⟩
        obtain ⟨rfl, hy⟩ := hy
        have hx' := hy ys ht2.sq
        rw [hx] at hx'
        cases hx'
        exact ⟨.refl _ _, R2, rx, fun _ _ h => h⟩
  · cases e
theorem gi_lst (h : GE cl X e m) : GI cl X tg e (iLstM m) := (pi_list h).imp fun σ H Q q => by
  obtain ⟨ρ, lo, M, ds, M', R, L, e, k⟩ := q
  unfold iLstM at e
  split at e
  · rename_i ds' M1 h1
    cases e
    refine ⟨ρ, lo, M, _, _, R, L, h1, fun v H1 ρ1 g1 R1 r1 => ?_⟩
    cases r1 with
    | lst ht hs =>
      rename_i a xs
      refine ⟨a, rfl, ⟨xs, SqL.of ht.1⟩, k _ H1 ρ1 g1 R1 fun i H2 ρ2 M2 mono R2 => ?_⟩
      have r2 := mono _ _ (.lst ht hs)
      cases r2 with
      | lst ht2 hs2 =>
        rename_i ys
        refine ⟨fun hi => ⟨ys, SqL.of ht2.1, by rw [hs2.length]; exact Nat.le_of_eq hi⟩, fun d hd => ?_⟩
        obtain ⟨x, hx, rx⟩ := hs2.get hd
        refine ⟨⟨ys, x, SqL.of ht2.1, hx⟩, fun x' H3 hy => ?_⟩
        obtain ⟨rfl, hy⟩ := hy
        have hx' := hy ys (SqL.of ht2.1)
        rw [hx] at hx'
        cases hx'
        exact ⟨.refl _ _, R2, rx, fun _ _ h => h⟩
  · cases e
/-- range(n), range(a, b) -/
def rgD (a b : Int) : List D := (List.range (b - a).toNat).map fun i => D.int (a + (i : Nat))
def iRg1M (ms : MA) : MA := fun lo M => match ms lo M with | some ([.int n], M1) => if decide (-(2 ^ 62) ≤ n) && decide (n < 2 ^ 62) then some (rgD 0 n, M1) else none | _ => none
def iRg2M (ms : MA) : MA := fun lo M => match ms lo M with | some ([.int a, .int b], M1) => if decide (-(2 ^ 62) ≤ a) && decide (a < 2 ^ 62) && decide (-(2 ^ 62) ≤ b) && decide (b < 2 ^ 62) then some (rgD a b, M1) else none | _ => none
theorem itr_ok {W : Wd} {H : Hp} {ρ : Rh} (a b : Int) : ItOk W (rgD a b) H ρ (Itr a (b - a).toNat) := fun i H1 ρ1 M1 mono R1 => by
  refine ⟨fun hi => ?_, fun d hd => ?_⟩
  · unfold rgD at hi
    rw [List.length_map, List.length_range] at hi
    exact Nat.le_of_eq hi
  · unfold rgD at hd
    rw [List.getElem?_map] at hd
    cases q : (List.range (b - a).toNat)[i]? with
    | none => rw [q] at hd; cases hd
    | some j =>
      rw [q] at hd
      obtain ⟨hlt, hj⟩ := List.getElem?_eq_some_iff.mp q
      simp at hlt hj
      subst hj
      cases hd
      refine ⟨by show i < (b - a).toNat; omega, fun x H2 hy => ?_⟩
      obtain ⟨rfl, rfl⟩ := hy
      exact ⟨.refl _ _, R1, .int _, fun _ _ h => h⟩
theorem gi_rg1 {a : Expr} {ms : MA} {p : Pos} (hg : Gl X "range") (hm : X.mg "range" = none) (ha : GA cl X [a] ms) (hs : starEach [a] X.env = [(false, eval a X.env)] := by rfl) : GI cl X tg (.Call (.Name "range" p) [a] [] pos) (iRg1M ms) := (pi_range1 hg hm ha hs).imp fun σ H Q q => by
  obtain ⟨ρ, lo, M, ds, M', R, L, e, k⟩ := q
  unfold iRg1M at e
  split at e
  · rename_i n M1 h1
    split at e
    · rename_i hb
      simp only [Bool.and_eq_true, decide_eq_true_eq] at hb
      cases e
      refine ⟨ρ, lo, M, _, _, R, L, h1, fun vs H1 ρ1 g1 R1 r1 => ?_⟩
      obtain ⟨v, rfl, rv⟩ := r1.one
      cases rv
      have key := itr_ok (W := ⟨X.K, cl⟩) (H := H1) (ρ := ρ1) 0 n
      rw [Int.sub_zero] at key
      exact ⟨n, rfl, hb.1, hb.2, k _ H1 ρ1 g1 R1 key⟩
    · cases e
  · cases e
theorem gi_rg2 {a b : Expr} {ms : MA} {p : Pos} (hg : Gl X "range") (hm : X.mg "range" = none) (ha : GA cl X [a, b] ms) (hs : starEach [a, b] X.env = [(false, eval a X.env), (false, eval b X.env)] := by rfl) (hs2 : starEach [b] X.env = [(false, eval b X.env)] := by rfl) : GI cl X tg (.Call (.Name "range" p) [a, b] [] pos) (iRg2M ms) := (pi_range2 hg hm ha hs hs2).imp fun σ H Q q => by
  obtain ⟨ρ, lo, M, ds, M', R, L, e, k⟩ := q
  unfold iRg2M at e
  split at e
  · rename_i n n2 M1 h1
    split at e
    · rename_i hb
      simp only [Bool.and_eq_true, decide_eq_true_eq] at hb
      cases e
      refine ⟨ρ, lo, M, _, _, R, L, h1, fun vs H1 ρ1 g1 R1 r1 => ?_⟩
      obtain ⟨v, u, rfl, rv, ru⟩ := r1.pair
      cases rv; cases ru
      exact ⟨n, n2, rfl, ⟨hb.1.1.1, hb.1.1.2, hb.1.2, hb.2⟩, k _ H1 ρ1 g1 R1 (itr_ok n n2)⟩
    · cases e
  · cases e
end

/-! ### for -/
def forLoop (g : MG) (body : MS) : List D → Lo → Mo → Option Out
  | [], lo, M => some (.nx lo M)
  | d :: ds, lo, M => match g d lo M with
    | some (lo1, M1) => match body lo1 M1 with
      | some (.nx lo2 M2) => forLoop g body ds lo2 M2
      | some (.ct lo2 M2) => forLoop g body ds lo2 M2
      | some (.bk lo2 M2) => some (.nx lo2 M2)
      | some (.rt d M2) => some (.rt d M2)
      | none => none
    | none => none
def sFor (mi : MA) (g : MG) (body : MS) : MS := fun lo M => match mi lo M with
  | some (ds, M1) => forLoop g body ds lo M1
  | none => none
section
variable {X : Cx} {cl : Nat → Addr} {pos : Pos}
theorem drop_get {α : Type} {l : List α} {i : Nat} {x : α} (h : l[i]? = some x) : l.drop i = x :: l.drop (i + 1) := by
  obtain ⟨hl, he⟩ := List.getElem?_eq_some_iff.mp h
  rw [List.drop_eq_getElem_cons hl, he]
theorem tFor_of {W : Wd} {wi : TI} {mi : MA} {g : MG} {body : MS} {De : Ends} {σ : L2.St} {H : Hp} (hwi : ∀ σ H R, iM W mi σ H R → wi σ H R) (q : tS W (sFor mi g body) De σ H) : tFor wi (tG W g) (tS W body) De σ H := by
  obtain ⟨ρ, lo, M, o, R, L, e, k⟩ := q
  unfold sFor at e
  split at e
  · rename_i ds M1 h1
    refine hwi σ H _ ⟨ρ, lo, M, ds, M1, R, L, h1, fun J H1 ρ1 g1 R1 it => ?_⟩
    refine ⟨fun i m σ' H' => m = ds.length - i ∧ i ≤ ds.length ∧ ∃ ρ' lo' M', (∀ v d, DR W.K H1 ρ1 v d → DR W.K H' ρ' v d) ∧ Rep W H' ρ' M' ∧ LoR W.K H' ρ' σ' lo' ∧ forLoop g body (ds.drop i) lo' M' = some o ∧ OutOk W H' ρ' De o,
      ⟨ds.length, by simp, Nat.zero_le _, ρ1, lo, M1, fun _ _ h => h, R1, L.mono g1, e, k.mono g1⟩, ?_⟩
    rintro i m σ' H' ⟨rfl, hi, ρ', lo', M', mono, R', L', e', k'⟩
    obtain ⟨hstop, hgo⟩ := it i H' ρ' M' mono R'
    by_cases hlt : i < ds.length
    · right
      have hd : ds[i]? = some ds[i] := List.getElem?_eq_getElem hlt
      generalize ds[i] = d at hd
      obtain ⟨hg, hy⟩ := hgo d hd
      rw [drop_get hd, forLoop] at e'
      refine ⟨hg, fun σ2 H2 => ∃ m', m' < ds.length - i ∧ (m' = ds.length - (i + 1) ∧ i + 1 ≤ ds.length ∧ ∃ ρ' lo' M', (∀ v d, DR W.K H1 ρ1 v d → DR W.K H2 ρ' v d) ∧ Rep W H2 ρ' M' ∧ LoR W.K H2 ρ' σ2 lo' ∧ forLoop g body (ds.drop (i + 1)) lo' M' = some o ∧ OutOk W H2 ρ' De o), fun σ2 H2 h => h, fun x H2 hx => ?_⟩
      obtain ⟨g2, R2, rx, _⟩ := hy x H2 hx
      split at e'
      · rename_i lo1 M2 hg1
        refine ⟨ρ', lo', M', d, lo1, M2, R2, L'.mono g2, rx, hg1, fun σ3 H3 ρ3 g3 R3 L3 => ?_⟩
        have gg := g2.trans g3
        split at e'
        · rename_i lo2 M4 hb
          refine ⟨ρ3, lo1, M2, _, R3, L3, hb, fun σ4 H4 ρ4 g4 R4 L4 => ⟨_, by omega, rfl, by omega, ρ4, lo2, M4, fun v d h => (mono v d h).mono (gg.trans g4), R4, L4, e', k'.mono (gg.trans g4)⟩⟩
        · rename_i lo2 M4 hb
          refine ⟨ρ3, lo1, M2, _, R3, L3, hb, fun σ4 H4 ρ4 g4 R4 L4 => ⟨_, by omega, rfl, by omega, ρ4, lo2, M4, fun v d h => (mono v d h).mono (gg.trans g4), R4, L4, e', k'.mono (gg.trans g4)⟩⟩
        · rename_i lo2 M4 hb
          cases e'
          exact ⟨ρ3, lo1, M2, _, R3, L3, hb, fun σ4 H4 ρ4 g4 R4 L4 => k' σ4 H4 ρ4 (gg.trans g4) R4 L4⟩
        · rename_i d4 M4 hb
          cases e'
          exact ⟨ρ3, lo1, M2, _, R3, L3, hb, fun v4 H4 ρ4 g4 R4 L4 => k' v4 H4 ρ4 (gg.trans g4) R4 L4⟩
        · cases e'
      · cases e'
    · left
      refine ⟨hstop (by omega), ?_⟩
      rw [List.drop_of_length_le (Nat.le_of_not_lt hlt), forLoop] at e'
      cases e'
      exact k' σ' H' ρ' (.refl _ _) R' L'
  · cases e
theorem gs_for {tg iter : Expr} {body : List Stmt} {mi : MA} {g : MG} {mb : MS} (hp : PassesOwn (model X.prog X.w) X.A X.env X.xe) (hc : X.calm = true) (hi : GI cl X tg iter mi) (hg : GG cl X tg g) (hb : GB cl X body mb) (hs : ∀ x, foldedSetIterable iter X.env x = pure x := by intro _; rfl) : GS cl X (.For tg iter body [] pos) (sFor mi g mb) :=
  (ps_for hp hc hi hg hb hs).imp fun De σ H q => tFor_of (fun _ _ _ h => h) q

/-! ### while -/
def whileLoop (c : MT) (body : MS) : Nat → Lo → Mo → Option Out
  | 0, _, _ => none
  | n + 1, lo, M => match c lo M with
    | some (true, M1) => match body lo M1 with
      | some (.nx lo2 M2) => whileLoop c body n lo2 M2
      | some (.ct lo2 M2) => whileLoop c body n lo2 M2
      | some (.bk lo2 M2) => some (.nx lo2 M2)
      | some (.rt d M2) => some (.rt d M2)
      | none => none
    | some (false, M1) => some (.nx lo M1)
    | none => none
def sWhile (n : Nat) (c : MT) (body : MS) : MS := fun lo M => whileLoop c body n lo M
theorem gs_while {c : Expr} {body : List Stmt} {mc : MT} {mb : MS} (n : Nat) (hp : PassesOwn (model X.prog X.w) X.A X.env X.xe) (hc : GT cl X c mc) (hb : GB cl X body mb) : GS cl X (.While c body [] pos) (sWhile n mc mb) :=
  (ps_while hp hc hb).imp fun De σ H q => by
    obtain ⟨ρ, lo, M, o, R, L, e, k⟩ := q
    unfold sWhile at e
    refine ⟨fun m σ' H' => ∃ ρ' lo' M', Rep ⟨X.K, cl⟩ H' ρ' M' ∧ LoR X.K H' ρ' σ' lo' ∧ whileLoop mc mb m lo' M' = some o ∧ OutOk ⟨X.K, cl⟩ H' ρ' De o, ⟨n, ρ, lo, M, R, L, e, k⟩, ?_⟩
    rintro m σ' H' ⟨ρ', lo', M', R', L', e', k'⟩
    cases m with
    | zero => cases e'
    | succ m =>
      rw [whileLoop] at e'
      split at e'
      · rename_i M1 h1
        refine ⟨ρ', lo', M', true, M1, R', L', h1, fun H1 ρ1 g1 R1 => ?_⟩
        refine iteT ⟨fun σ2 H2 => ∃ m', m' < m + 1 ∧ ∃ ρ' lo' M', Rep ⟨X.K, cl⟩ H2 ρ' M' ∧ LoR X.K H2 ρ' σ2 lo' ∧ whileLoop mc mb m' lo' M' = some o ∧ OutOk ⟨X.K, cl⟩ H2 ρ' De o, fun σ2 H2 h => h, ?_⟩
        split at e'
        · rename_i lo2 M4 hb
          exact ⟨ρ1, lo', M1, _, R1, L'.mono g1, hb, fun σ4 H4 ρ4 g4 R4 L4 => ⟨m, by omega, ρ4, lo2, M4, R4, L4, e', k'.mono (g1.trans g4)⟩⟩
        · rename_i lo2 M4 hb
          exact ⟨ρ1, lo', M1, _, R1, L'.mono g1, hb, fun σ4 H4 ρ4 g4 R4 L4 => ⟨m, by omega, ρ4, lo2, M4, R4, L4, e', k'.mono (g1.trans g4)⟩⟩
        · rename_i lo2 M4 hb
          cases e'
          exact ⟨ρ1, lo', M1, _, R1, L'.mono g1, hb, fun σ4 H4 ρ4 g4 R4 L4 => k' σ4 H4 ρ4 (g1.trans g4) R4 L4⟩
        · rename_i d4 M4 hb
          cases e'
          exact ⟨ρ1, lo', M1, _, R1, L'.mono g1, hb, fun v4 H4 ρ4 g4 R4 L4 => k' v4 H4 ρ4 (g1.trans g4) R4 L4⟩
        · cases e'
      · rename_i M1 h1
        cases e'
        refine ⟨ρ', lo', M', false, M1, R', L', h1, fun H1 ρ1 g1 R1 => ?_⟩
        exact iteF (k' σ' H1 ρ1 g1 R1 (L'.mono g1))
      · cases e'
end

/-! ### comprehensions -/
def wipeD (lo : Lo) : List Nat → Lo
  | [] => lo
  | v :: vs => (wipeD lo vs).set v none
theorem LoR.wipe {K : PySem.W.Frag} {H : Hp} {ρ : Rh} {σ : L2.St} {lo : Lo} (h : LoR K H ρ σ lo) : ∀ vs : List Nat, LoR K H ρ (L2.wipe σ vs) (wipeD lo vs)
  | [] => h
  | v :: vs => by
    have ih := LoR.wipe h vs
    refine ⟨by simp [L2.wipe, wipeD, ih.1], fun j e hj => ?_⟩
    unfold wipeD at hj
    unfold L2.wipe
    by_cases hij : v = j
    · subst hij
      by_cases hl : v < (wipeD lo vs).length
      · rw [List.getElem?_set_self hl] at hj; cases hj
      · rw [List.getElem?_eq_none (by simpa using Nat.le_of_not_lt hl)] at hj; cases hj
    · rw [List.getElem?_set_ne hij] at hj ⊢
      exact ih.2 j e hj
/-- a target within a comprehension: it stores its own names alone -/
structure CG (W : Wd) (vs : List Nat) (t : TG) (g : MG) : Prop where
  ok : ∀ (ρ : Rh) (H : Hp) (σ : L2.St) (lo : Lo) (M : Mo) (v : V) (d : D) (lo' : Lo) (M' : Mo) (Q : L2.St → Hp → Prop), Rep W H ρ M → LoR W.K H ρ σ lo → DR W.K H ρ v d → g d lo M = some (lo', M') →
    (∀ σ', LoR W.K H ρ σ' lo' → L2.wipe σ' vs = L2.wipe σ vs → Q σ' H) → t v σ H Q
  st : ∀ d lo M lo' M', g d lo M = some (lo', M') → M' = M
theorem wipe_set {σ : L2.St} {i : Nat} {x : Option V} : ∀ {vs : List Nat}, i ∈ vs → L2.wipe (σ.set i x) vs = L2.wipe σ vs
  | v :: vs, h => by
    unfold L2.wipe
    by_cases hv : i ∈ vs
    · rw [wipe_set hv]
    · have e : i = v := (List.mem_cons.mp h).resolve_right hv
      subst e
      have key : ∀ (vs : List Nat) (τ : L2.St), i ∉ vs → (L2.wipe (τ.set i x) vs) = (L2.wipe τ vs).set i x := by
        intro vs
        induction vs with
        | nil => intro τ _; rfl
        | cons w ws ih =>
          intro τ hw
          unfold L2.wipe
          rw [ih τ (fun z => hw (List.mem_cons_of_mem _ z))]
          exact List.set_comm _ _ (fun z => hw (by rw [z]; exact List.mem_cons_self))
      rw [key vs σ hv, List.set_set]
theorem cg_name {W : Wd} {vs : List Nat} {i : Nat} (hi : i ∈ vs) : CG W vs (L2.gName i) (gName i) where
  ok := fun ρ H σ lo M v d lo' M' Q R L r e k => by
    cases e
    exact k _ (L.set r i) (wipe_set hi)
  st := fun d lo M lo' M' e => by cases e; rfl
theorem cg_pair {W : Wd} {vs : List Nat} {i j : Nat} (hi : i ∈ vs) (hj : j ∈ vs) : CG W vs (L2.gTup W.K 2 (L2.gCons (L2.gName i) (L2.gCons (L2.gName j) L2.gNil))) (gTup 2 (gsCons (gName i) (gsCons (gName j) gsNil))) where
  ok := fun ρ H σ lo M v d lo' M' Q R L r e k => by
    unfold gTup at e
    split at e
    · rename_i ds
      split at e
      · rename_i hl
        match ds, hl with
        | [d1, d2], _ =>
          cases e
          cases r with
          | tup ht hs =>
            obtain ⟨v1, v2, rfl, r1, r2⟩ := hs.pair
            exact ⟨_, _, rfl, ht.sq, rfl, v1, [v2], rfl, v2, [], rfl, rfl, k _ ((L.set r1 i).set r2 j) (by rw [wipe_set hj, wipe_set hi])⟩
      · cases e
    · cases e
  st := fun d lo M lo' M' e => by
    unfold gTup at e
    split at e
    · rename_i ds
      split at e
      · rename_i hl
        match ds, hl with
        | [d1, d2], _ => cases e; rfl
      · cases e
    · cases e
def compLoop (g : MG) (c : MT) (m : ME) (vs : List Nat) : List D → Lo → Mo → Option (List D × Mo)
  | [], _, M => some ([], M)
  | d :: ds, lo, M => match g d (wipeD lo vs) M with
    | some (lo1, M1) => match c lo1 M1 with
      | some (true, M2) => match m lo1 M2 with
        | some (e, M3) => match compLoop g c m vs ds lo M3 with
          | some (es, M4) => some (e :: es, M4)
          | none => none
        | none => none
      | some (false, M2) => compLoop g c m vs ds lo M2
      | none => none
    | none => none
def mComp (mi : MA) (g : MG) (c : MT) (m : ME) (vs : List Nat) : ME := fun lo M => match mi lo M with
  | some (ds, M1) => if ds.length ≤ sizeLine then (match compLoop g c m vs ds lo M1 with
    | some (es, M2) => some (.lst es, M2)
    | none => none) else none
  | none => none
def tTrue : MT := fun _ M => some (true, M)
abbrev GTs (cl : Nat → Addr) (X : Cx) (es : List Expr) (m : MT) : Prop := PTs X es (tMT ⟨X.K, cl⟩ m)
theorem _root_.L2.PTs.imp {X : Cx} {es : List Expr} {t t' : TT} (h : PTs X es t) (i : ∀ σ H Q, t' σ H Q → t σ H Q) : PTs X es t' := ⟨fun pins s σ H R I q => h.run pins s σ H R I (i σ H R q)⟩
section
variable {X : Cx} {cl : Nat → Addr} {pos : Pos}
theorem gts_nil : GTs cl X [] tTrue := pts_nil.imp fun σ H Q q => by
  obtain ⟨ρ, lo, M, b, M', R, L, e, k⟩ := q
  cases e
  exact k H ρ (.refl _ _) R
theorem gts_one {c : Expr} {m : MT} (h : GT cl X c m) : GTs cl X [c] m := pts_one h
theorem wipe_get {σ : L2.St} {j : Nat} : ∀ {vs : List Nat}, (j ∈ vs → j < σ.length → (L2.wipe σ vs)[j]? = some none) ∧ (j ∉ vs → (L2.wipe σ vs)[j]? = σ[j]?)
  | [] => ⟨fun h => absurd h (by simp), fun _ => rfl⟩
  | v :: vs => by
    have ih := wipe_get (σ := σ) (j := j) (vs := vs)
    unfold L2.wipe
    by_cases hv : v = j
    · subst hv
      exact ⟨fun _ hl => List.getElem?_set_self (by rw [wipe_length]; exact hl), fun h => absurd List.mem_cons_self h⟩
    · rw [List.getElem?_set_ne hv]
      exact ⟨fun h hl => ih.1 ((List.mem_cons.mp h).resolve_left fun z => hv z.symm) hl, fun h => ih.2 fun z => h (List.mem_cons_of_mem _ z)⟩
theorem wipe_wipe (σ : L2.St) (vs : List Nat) : L2.wipe (L2.wipe σ vs) vs = L2.wipe σ vs := by
  refine List.ext_getElem? fun j => ?_
  by_cases hj : j ∈ vs
  · by_cases hl : j < σ.length
    · rw [wipe_get.1 hj (by rw [wipe_length]; exact hl), wipe_get.1 hj hl]
    · rw [List.getElem?_eq_none (by rw [wipe_length, wipe_length]; omega), List.getElem?_eq_none (by rw [wipe_length]; omega)]
  · rw [wipe_get.2 hj]
theorem tLc_of {W : Wd} {wi : TI} {mi : MA} {t : TG} {g : MG} {c : MT} {m : ME} {vs : List Nat} {σ : L2.St} {H : Hp} {Q : VK} (hwi : ∀ σ H R, iM W mi σ H R → wi σ H R) (cg : CG W vs t g) (q : tM W (mComp mi g c m vs) σ H Q) :
    tLc wi t (tMT W c) (tM W m) vs σ H Q := by
  obtain ⟨ρ, lo, M, d, Mf, R, L, e, k⟩ := q
  unfold mComp at e
  split at e
  · rename_i ds M1 h1
    split at e
    · rename_i hz
      split at e
      · rename_i es Mg h2
        obtain ⟨rfl, rfl⟩ : D.lst es = d ∧ Mg = Mf := by simpa using e
        refine hwi σ H _ ⟨ρ, lo, M, ds, M1, R, L, h1, fun J H1 ρ1 g1 R1 it p hp => ?_⟩
        have L1 := L.mono g1
        refine ⟨fun i n H' => n = ds.length - i ∧ i ≤ ds.length ∧ ∃ ρ' M' xs acc rest, Kp H1 ρ1 H' ρ' ∧ (∀ a o, a ∈ ρ1.v → H1 a = some o → H' a = some o) ∧ Rep W H' ρ' M' ∧ ρ'.v = p :: ρ1.v ∧ H' p = some (.lst xs) ∧ DRs W.K H' ρ' xs acc ∧ acc.length ≤ i ∧
          compLoop g c m vs (ds.drop i) lo M' = some (rest, Mg) ∧ acc ++ rest = es,
          ⟨ds.length, by simp, Nat.zero_le _, ⟨ρ1.m, p :: ρ1.v⟩, M1, [], [], es, .begin hp, fun a o ha e => by rw [upd_ne (ne_of_none e hp)]; exact e, R1.begin hp, rfl, upd_same, .nil, Nat.le_refl _, h2, rfl⟩, ?_⟩
        rintro i n H' ⟨rfl, hi, ρ', M', xs, acc, rest, kp, hh, R', ev, ep, ra, hl, e', ee⟩
        obtain ⟨hstop, hgo⟩ := it i H' ρ' M' (fun v d h => h.stay kp) R'
        have hpv : p ∈ ρ'.v := by rw [ev]; exact List.mem_cons_self
        by_cases hlt : i < ds.length
        · right
          have hd : ds[i]? = some ds[i] := List.getElem?_eq_getElem hlt
          generalize ds[i] = d at hd
          obtain ⟨hg, hy⟩ := hgo d hd
          rw [drop_get hd, compLoop] at e'
          refine ⟨hg, fun H2 => ∃ n', n' < ds.length - i ∧ (n' = ds.length - (i + 1) ∧ i + 1 ≤ ds.length ∧ ∃ ρ' M' xs acc rest, Kp H1 ρ1 H2 ρ' ∧ (∀ a o, a ∈ ρ1.v → H1 a = some o → H2 a = some o) ∧ Rep W H2 ρ' M' ∧ ρ'.v = p :: ρ1.v ∧ H2 p = some (.lst xs) ∧ DRs W.K H2 ρ' xs acc ∧ acc.length ≤ i + 1 ∧
            compLoop g c m vs (ds.drop (i + 1)) lo M' = some (rest, Mg) ∧ acc ++ rest = es), fun H2 h => h, fun x H2 hx => ?_⟩
          obtain ⟨g2, R2, rx, _⟩ := hy x H2 hx
          split at e'
          · rename_i lo1 M2 hg1
            have hst := cg.st _ _ _ _ _ hg1
            subst hst
            refine cg.ok ρ' H2 (L2.wipe σ vs) (wipeD lo vs) _ x d lo1 _ _ R2 (((L1.stay kp).wipe vs).mono g2) rx hg1 fun σ' Lσ hw => ⟨by rw [hw, wipe_wipe], ?_⟩
            split at e'
            · rename_i M3 hc
              split at e'
              · rename_i el M4 hm
                split at e'
                · rename_i es2 M5 hr
                  cases e'
                  refine ⟨ρ', lo1, _, true, M3, R2, Lσ, hc, fun H3 ρ3 g3 R3 => iteT ?_⟩
                  refine ⟨ρ3, lo1, M3, el, M4, R3, Lσ.mono g3, hm, fun y H4 ρ4 g4 R4 r4 => ?_⟩
                  have gg := (g2.trans g3).trans g4
                  have ep4 : H4 p = some (.lst xs) := gg.hid p _ hpv ep
                  have ev4 : ρ4.v = p :: ρ1.v := gg.vol.trans ev
                  have hpv4 : p ∈ ρ4.v := by rw [ev4]; exact List.mem_cons_self
                  have hlen := ra.length
                  refine ⟨xs, ep4, by omega, _, by omega, rfl, by omega, ρ4, M4, xs ++ [y], acc ++ [el], es2, (kp.trans gg.kp).put hp, fun a o ha e => ?_, R4.hide hpv4, ev4, upd_same, ((ra.mono gg).append (.cons r4 .nil)).hide hpv4, by rw [List.length_append]; simp; omega, hr, by rw [List.append_assoc]; exact ee⟩
                  rw [upd_ne (ne_of_none e hp)]
                  exact gg.hid a o (by rw [ev]; exact List.mem_cons_of_mem _ ha) (hh a o ha e)
                · cases e'
              · cases e'
            · rename_i M3 hc
              refine ⟨ρ', lo1, _, false, M3, R2, Lσ, hc, fun H3 ρ3 g3 R3 => iteF ?_⟩
              have gg := g2.trans g3
              exact ⟨_, by omega, rfl, by omega, ρ3, M3, xs, acc, rest, kp.trans gg.kp, fun a o ha e => gg.hid a o (by rw [ev]; exact List.mem_cons_of_mem _ ha) (hh a o ha e), R3, gg.vol.trans ev, gg.hid p _ hpv ep, ra.mono gg, by omega, e', ee⟩
            · cases e'
          · cases e'
        · left
          refine ⟨hstop (by omega), ?_⟩
          rw [List.drop_of_length_le (Nat.le_of_not_lt hlt), compLoop] at e'
          cases e'
          rw [List.append_nil] at ee
          subst ee
          have hpm : p ∉ ρ'.m := (R'.hid p hpv).2
          have hp1 : p ∉ ρ1.v := fun z => by
            obtain ⟨⟨u, e⟩, _⟩ := R1.hid p z
            rw [hp] at e; cases e
          have hsub : ∀ a, a ∈ (⟨ρ'.m, ρ1.v⟩ : Rh).v → a ∈ ρ'.v := fun a ha => by rw [ev]; exact List.mem_cons_of_mem _ ha
          have hnot : ∀ a, a ∉ ρ' → a ∉ (⟨ρ'.m, ρ1.v⟩ : Rh) := fun a n z => z.elim (fun z => n (.inl z)) fun z => n (.inr (hsub a z))
          refine k _ H' ⟨ρ'.m, ρ1.v⟩ (g1.trans ⟨kp.pre, fun a o h n => ?_, rfl, hh⟩) (R'.less rfl hsub) (.lst ⟨ep, fun z => z.elim hpm hp1⟩ (DRs.less (ρ := ρ') (ρ' := ⟨ρ'.m, ρ1.v⟩) rfl hnot ra))
          obtain ⟨h2, n2⟩ := kp.keep a o h n
          exact ⟨h2, hnot a n2⟩
      · cases e
    · cases e
  · cases e
section
variable {elt tg iter : Expr} {ifs : List Expr} {scope : Scope} {own : List (Str × Nat)} {mi : MA} {t : TG} {g : MG} {c : MT} {m : ME}
/-- [elt for tg in iter if ..] -/
theorem ge_comp (hc : X.calm = true) (hN : X.N.Nodup) (hi : GI cl X tg iter mi) (ok : BlkOk X.N X.env.scope scope own) (cg : CG ⟨X.K, cl⟩ (own.map (·.2)) t g)
    (hg : ∀ (s : Shared) (H : Hp) (C : Addr) (c2 : List (Str × Addr)) (fp : List Addr), PG (X.blk s H scope (compEnvC scope c2 C X.env) fp) tg t)
    (ht : ∀ (s : Shared) (H : Hp) (C : Addr) (c2 : List (Str × Addr)) (fp : List Addr), GTs cl (X.blk s H scope (compEnvC scope c2 C X.env) fp) ifs c)
    (he : ∀ (s : Shared) (H : Hp) (C : Addr) (c2 : List (Str × Addr)) (fp : List Addr), GE cl (X.blk s H scope (compEnvC scope c2 C X.env) fp) elt m) (hs : ∀ x, foldedSetIterable iter X.env x = pure x := by intro _; rfl) :
    GE cl X (.ListComp elt [⟨tg, iter, ifs, 0⟩] scope pos) (mComp mi g c m (own.map (·.2))) :=
  (pe_lc hc hN hi ok hg ht he hs).imp fun σ H Q q => tLc_of (fun _ _ _ h => h) cg q
theorem gs_setComp {i : Nat} {y : Str} {py spos : Pos} (hc : X.calm = true) (hN : X.N.Nodup) (hy : X.N[i]? = some y) (hyl : X.env.scope.names.lookup y = some .local)
    (hsw : swapsWith (.ListComp elt [⟨tg, iter, ifs, 0⟩] scope pos) (some (.Name y py)) spos.line X.env = pure true) (hi : GI cl X tg iter mi) (ok : BlkOk X.N X.env.scope scope own) (cg : CG ⟨X.K, cl⟩ (own.map (·.2)) t g)
    (hg : ∀ (s : Shared) (H : Hp) (C : Addr) (c2 : List (Str × Addr)) (fp : List Addr), PG (X.blk s H scope (compEnvC scope c2 C X.env) fp) tg t)
    (ht : ∀ (s : Shared) (H : Hp) (C : Addr) (c2 : List (Str × Addr)) (fp : List Addr), GTs cl (X.blk s H scope (compEnvC scope c2 C X.env) fp) ifs c)
    (he : ∀ (s : Shared) (H : Hp) (C : Addr) (c2 : List (Str × Addr)) (fp : List Addr), GE cl (X.blk s H scope (compEnvC scope c2 C X.env) fp) elt m) (hs : ∀ x, foldedSetIterable iter X.env x = pure x := by intro _; rfl) :
    GS cl X (.Assign [.Name y py] (.ListComp elt [⟨tg, iter, ifs, 0⟩] scope pos) spos) (sSet (mComp mi g c m (own.map (·.2))) (gName i)) :=
  (ps_setLc hc hN hy hyl hsw hi ok hg ht he hs).imp fun De σ H q => by
    obtain ⟨ρ, lo, M, o, R, L, e, k⟩ := q
    unfold sSet at e
    split at e
    · rename_i d M1 h1
      split at e
      · rename_i lo2 M2 h2
        cases e
        cases h2
        exact tLc_of (fun _ _ _ h => h) cg ⟨ρ, lo, M, d, _, R, L, h1, fun v H1 ρ1 g1 R1 r1 => k _ H1 ρ1 g1 R1 ((L.mono g1).set r1 i)⟩
      · cases e
    · cases e
end
end
end G

set_option Elab.async false
set_option linter.all false
set_option maxRecDepth 100000
namespace G
open PySem PySem.Spec L2
open PyProof.Rows (envOfC)

/-! ### equality of data, decided -/
mutual
def D.beq : D → D → Bool
  | .non, .non => true
  | .bl a, .bl b => a == b
  | .int a, .int b => decide (a = b)
  | .str a, .str b => decide (a = b)
  | .tup a, .tup b => D.beqs a b
  | .lst a, .lst b => D.beqs a b
  | .rol a, .rol b => D.beqs a b
  | .ref a, .ref b => a == b
  | _, _ => false
def D.beqs : List D → List D → Bool
  | [], [] => true
  | a :: as, b :: bs => D.beq a b && D.beqs as bs
  | _, _ => false
end
mutual
theorem D.beq_self : ∀ a : D, D.beq a a = true
  | .non => by rw [D.beq]
  | .bl a => by simp [D.beq]
  | .int a => by simp [D.beq]
  | .str a => by simp [D.beq]
  | .tup a => by rw [D.beq]; exact D.beqs_self a
  | .lst a => by rw [D.beq]; exact D.beqs_self a
  | .rol a => by rw [D.beq]; exact D.beqs_self a
  | .ref a => by simp [D.beq]
theorem D.beqs_self : ∀ a : List D, D.beqs a a = true
  | [] => by rw [D.beqs]
  | a :: as => by rw [D.beqs, D.beq_self a, D.beqs_self as]; rfl
end
mutual
theorem D.eq_of_beq : ∀ a b : D, D.beq a b = true → a = b
  | .non, b, h => by cases b <;> simp [D.beq] at h ⊢
  | .bl a, b, h => by cases b <;> simp [D.beq] at h ⊢; exact h
  | .int a, b, h => by cases b <;> simp [D.beq] at h ⊢; exact h
  | .str a, b, h => by cases b <;> simp [D.beq] at h ⊢; exact h
  | .tup a, b, h => by cases b <;> simp [D.beq] at h ⊢; exact D.eq_of_beqs a _ h
  | .lst a, b, h => by cases b <;> simp [D.beq] at h ⊢; exact D.eq_of_beqs a _ h
  | .rol a, b, h => by cases b <;> simp [D.beq] at h ⊢; exact D.eq_of_beqs a _ h
  | .ref a, b, h => by cases b <;> simp [D.beq] at h ⊢; exact h
theorem D.eq_of_beqs : ∀ a b : List D, D.beqs a b = true → a = b
  | [], b, h => by cases b <;> simp [D.beqs] at h ⊢
  | a :: as, b, h => by
    cases b with
    | nil => simp [D.beqs] at h
    | cons c cs =>
      rw [D.beqs, Bool.and_eq_true] at h
      rw [D.eq_of_beq a c h.1, D.eq_of_beqs as cs h.2]
end
def eqKV {κ : Type} [DecidableEq κ] : List (κ × D) → List (κ × D) → Bool
  | [], [] => true
  | (k, d) :: r, (l, e) :: s => decide (k = l) && D.beq d e && eqKV r s
  | _, _ => false
theorem eqKV_self {κ : Type} [DecidableEq κ] : ∀ a : List (κ × D), eqKV a a = true
  | [] => rfl
  | (k, d) :: r => by rw [eqKV, D.beq_self, eqKV_self r]; simp
theorem eq_of_eqKV {κ : Type} [DecidableEq κ] : ∀ a b : List (κ × D), eqKV a b = true → a = b
  | [], b, h => by cases b <;> simp [eqKV] at h ⊢
  | (k, d) :: r, b, h => by
    cases b with
    | nil => simp [eqKV] at h
    | cons c s =>
      obtain ⟨l, e⟩ := c
      rw [eqKV, Bool.and_eq_true, Bool.and_eq_true] at h
      rw [of_decide_eq_true h.1.1, D.eq_of_beq d e h.1.2, eq_of_eqKV r s h.2]
def MO.beq : MO → MO → Bool
  | .lst a, .lst b => D.beqs a b
  | .dct a, .dct b => eqKV a b
  | .ins c a, .ins d b => c == d && eqKV a b
  | _, _ => false
theorem MO.beq_self : ∀ a : MO, MO.beq a a = true
  | .lst a => D.beqs_self a
  | .dct a => eqKV_self a
  | .ins c a => by rw [MO.beq, eqKV_self a]; simp
theorem MO.eq_of_beq : ∀ a b : MO, MO.beq a b = true → a = b
  | .lst a, b, h => by cases b <;> simp [MO.beq] at h ⊢; exact D.eq_of_beqs a _ h
  | .dct a, b, h => by cases b <;> simp [MO.beq] at h ⊢; exact eq_of_eqKV a _ h
  | .ins c a, b, h => by cases b <;> simp [MO.beq] at h ⊢; exact ⟨h.1, eq_of_eqKV a _ h.2⟩

/-! ### what speaks of the first n things of the store alone -/
mutual
def D.closed (n : Nat) : D → Bool
  | .tup ds => D.closeds n ds
  | .lst ds => D.closeds n ds
  | .rol ds => D.closeds n ds
  | .ref k => decide (k < n)
  | _ => true
def D.closeds (n : Nat) : List D → Bool
  | [] => true
  | d :: ds => D.closed n d && D.closeds n ds
end
def MO.closed (n : Nat) : MO → Bool
  | .lst ds => D.closeds n ds
  | .dct kvs => D.closeds n (kvs.map (·.2))
  | .ins _ fs => D.closeds n (fs.map (·.2))
section
variable {K : PySem.W.Frag} {H : Hp} {ρ ρ' : Rh}
mutual
theorem DR.closed_of : ∀ {v : V} {d : D}, DR K H ρ v d → d.closed ρ.m.length = true
  | _, .non, .non => by rw [D.closed] <;> intros <;> contradiction
  | _, .bl b, .bl _ => by rw [D.closed] <;> intros <;> contradiction
  | _, .int i, .int _ => by rw [D.closed] <;> intros <;> contradiction
  | _, .str x, .str _ => by rw [D.closed] <;> intros <;> contradiction
  | _, .tup ds, .tup _ hs => by rw [D.closed]; exact DRs.closed_of hs
  | _, .lst ds, .lst _ hs => by rw [D.closed]; exact DRs.closed_of hs
  | _, .rol ds, .rol _ hs => by rw [D.closed]; exact DRs.closed_of hs
  | _, .ref n, .ref h => by rw [D.closed]; exact decide_eq_true (List.getElem?_eq_some_iff.mp h).1
theorem DRs.closed_of : ∀ {vs : List V} {ds : List D}, DRs K H ρ vs ds → D.closeds ρ.m.length ds = true
  | _, [], .nil => by rw [D.closeds]
  | _, _ :: _, .cons h hs => by rw [D.closeds, DR.closed_of h, DRs.closed_of hs]; rfl
end
mutual
/-- the store cut -/
theorem DR.cutR (hm : ρ'.m = ρ.m.take ρ'.m.length) (hv : ∀ a, a ∉ ρ → a ∉ ρ') : ∀ {v : V} {d : D}, DR K H ρ v d → d.closed ρ'.m.length = true → DR K H ρ' v d
  | _, .non, .non, _ => .non
  | _, .bl b, .bl _, _ => .bl b
  | _, .int i, .int _, _ => .int i
  | _, .str x, .str _, _ => .str x
  | _, .tup ds, .tup h hs, e => .tup (h.elim (fun ⟨e, n⟩ => .inl ⟨e, hv _ n⟩) .inr) (DRs.cutR hm hv hs (by rw [D.closed] at e; exact e))
  | _, .lst ds, .lst ⟨e, n⟩ hs, c => .lst ⟨e, hv _ n⟩ (DRs.cutR hm hv hs (by rw [D.closed] at c; exact c))
  | _, .rol ds, .rol h hs, c => .rol (h.elim (fun ⟨o, e, n⟩ => .inl ⟨o, e, hv _ n⟩) .inr) (DRs.cutR hm hv hs (by rw [D.closed] at c; exact c))
  | _, .ref n, .ref h, c => .ref (by
    rw [D.closed] at c
    have c := of_decide_eq_true c
    rw [hm, List.getElem?_take_of_lt c]
    exact h)
theorem DRs.cutR (hm : ρ'.m = ρ.m.take ρ'.m.length) (hv : ∀ a, a ∉ ρ → a ∉ ρ') : ∀ {vs : List V} {ds : List D}, DRs K H ρ vs ds → D.closeds ρ'.m.length ds = true → DRs K H ρ' vs ds
  | _, [], .nil, _ => .nil
  | _, _ :: _, .cons h hs, c => by
    rw [D.closeds, Bool.and_eq_true] at c
    exact .cons (DR.cutR hm hv h c.1) (DRs.cutR hm hv hs c.2)
end
theorem MR.closed_of {W : Wd} {a : Addr} {o : MO} (h : MR W H ρ a o) : o.closed ρ.m.length = true := by
  cases o with
  | lst ds => obtain ⟨xs, _, h2⟩ := h; exact h2.closed_of
  | dct kvs => obtain ⟨vs, _, ⟨_, h2⟩, _⟩ := h; exact h2.closed_of
  | ins c fs => obtain ⟨dx, vs, _, _, h2⟩ := h; exact h2.closed_of
theorem MR.cutR {W : Wd} (hm : ρ'.m = ρ.m.take ρ'.m.length) (hv : ∀ a, a ∉ ρ → a ∉ ρ') {a : Addr} {o : MO} (h : MR W H ρ a o) (c : o.closed ρ'.m.length = true) : MR W H ρ' a o := by
  cases o with
  | lst ds => obtain ⟨xs, h1, h2⟩ := h; exact ⟨xs, h1, h2.cutR hm hv c⟩
  | dct kvs => obtain ⟨vs, h1, ⟨h2, h3⟩, h4⟩ := h; exact ⟨vs, h1, ⟨h2, h3.cutR hm hv c⟩, h4⟩
  | ins c' fs => obtain ⟨dx, vs, h1, h2, h3⟩ := h; exact ⟨dx, vs, h1, h2, h3.cutR hm hv c⟩
end
/-- the first things of the store are as they were, or speak of these alone -/
def okT (n : Nat) : Mo → Mo → Bool
  | [], _ => true
  | m :: M, m' :: M' => (MO.beq m m' || m'.closed n) && okT n M M'
  | _ :: _, [] => false
theorem okT_get {n : Nat} : ∀ {M M' : Mo} {i : Nat} {m m' : MO}, okT n M M' = true → M[i]? = some m → M'[i]? = some m' → m = m' ∨ m'.closed n = true
  | [], _, i, _, _, _, e, _ => by simp at e
  | _ :: _, [], _, _, _, h, _, _ => by simp [okT] at h
  | a :: M, b :: M', 0, m, m', h, e1, e2 => by
    simp at e1 e2
    subst e1; subst e2
    rw [okT, Bool.and_eq_true, Bool.or_eq_true] at h
    exact h.1.imp (MO.eq_of_beq _ _) id
  | a :: M, b :: M', i + 1, m, m', h, e1, e2 => by
    rw [okT, Bool.and_eq_true] at h
    exact okT_get (i := i) h.2 (by simpa using e1) (by simpa using e2)
theorem okT_self (n : Nat) : ∀ (M E : Mo), okT n M (M ++ E) = true
  | [], _ => by rw [List.nil_append, okT]
  | m :: M, E => by rw [List.cons_append, okT, MO.beq_self, okT_self n M E]; rfl
/-- what is handed back, and the store without what the def alone has made -/
def exitF (M : Mo) (d : D) (M' : Mo) : D × Mo :=
  if M'.length ≤ M.length then (d, M')
  else if okT M.length M M' = true then
    if d.closed M.length = true then (d, M'.take M.length)
    else match d with
      | .ref k => match M'[k]? with
        | some (.lst ds) => if D.closeds M.length ds = true then (.lst ds, M'.take M.length) else (d, M')
        | _ => (d, M')
      | _ => (d, M')
  else (d, M')
theorem exit_ok {W : Wd} {H H' : Hp} {ρ ρ1 : Rh} {M M' : Mo} {v : V} {d : D} (R : Rep W H ρ M) (g : Gr H ρ H' ρ1) (R' : Rep W H' ρ1 M') (r : DR W.K H' ρ1 v d) :
    ∃ ρ2, Gr H ρ H' ρ2 ∧ Rep W H' ρ2 (exitF M d M').2 ∧ DR W.K H' ρ2 v (exitF M d M').1 := by
  have keep : ∃ ρ2, Gr H ρ H' ρ2 ∧ Rep W H' ρ2 (d, M').2 ∧ DR W.K H' ρ2 v (d, M').1 := ⟨ρ1, g, R', r⟩
  have hlen := R.len
  have hm : ρ.m = ρ1.m.take ρ.m.length := by
    obtain ⟨t, ht⟩ := g.pre
    rw [← ht, List.take_left]
  have hv : ∀ a, a ∉ ρ1 → a ∉ ρ := fun a n z => z.elim (fun z => n (.inl (g.pre.subset z))) fun z => n (.inr (by rw [g.vol]; exact z))
  have g0 : Gr H ρ H' ρ := ⟨List.prefix_refl _, fun a o h n => ⟨(g.keep a o h n).1, n⟩, rfl, g.hid⟩
  have cut : okT M.length M M' = true → ¬ M'.length ≤ M.length → Rep W H' ρ (M'.take M.length) := fun hk hl => by
    refine ⟨R.nd, by rw [List.length_take, R.len]; omega, fun a ha => ?_, fun i a o h1 h2 => ?_⟩
    · obtain ⟨h1, h2⟩ := R'.hid a (by rw [g.vol]; exact ha)
      exact ⟨h1, fun z => h2 (g.pre.subset z)⟩
    · have hi : i < M.length := by rw [← R.len]; exact (List.getElem?_eq_some_iff.mp h1).1
      rw [List.getElem?_take_of_lt hi] at h2
      have h3 := R'.mem i a o (getElem?_pre g.pre h1) h2
      have h4 := R.mem i a M[i] h1 (List.getElem?_eq_getElem hi)
      refine h3.cutR hm hv ?_
      rcases okT_get hk (List.getElem?_eq_getElem hi) h2 with z | z
      · rw [← z]; exact h4.closed_of
      · rw [R.len]; exact z
  unfold exitF
  split
  · exact keep
  · rename_i hl
    split
    · rename_i hk
      split
      · rename_i hc
        exact ⟨ρ, g0, cut hk hl, r.cutR hm hv (by rw [R.len]; exact hc)⟩
      · rename_i hc
        split
        · rename_i k
          split
          · rename_i ds he
            split
            · rename_i hcs
              refine ⟨ρ, g0, cut hk hl, ?_⟩
              cases r with
              | ref hr =>
                rename_i a
                obtain ⟨xs, h1, h2⟩ := R'.at_ hr he
                refine .lst ⟨h1, fun z => z.elim (fun z => ?_) fun z => ?_⟩ (h2.cutR hm hv (by rw [R.len]; exact hcs))
                · obtain ⟨j, hj, e⟩ := List.getElem_of_mem z
                  have hj1 : ρ.m[j]? = some a := by rw [List.getElem?_eq_getElem hj, e]
                  have e2 := nodup_ix R'.nd (getElem?_pre g.pre hj1) hr
                  subst e2
                  exact hc (by rw [D.closed, ← R.len]; exact decide_eq_true hj)
                · exact (R'.hid a (by rw [g.vol]; exact z)).2 (List.mem_of_getElem? hr)
            · exact keep
          · exact keep
        · exact keep
    · exact keep

/-! ### defs and their calls -/
def spG (cl : Nat → Addr) (K : PySem.W.Frag) (np : Nat) (f : F1) : Sp := fun vs H Q _ => vs.length = np ∧ rM ⟨K, cl⟩ f vs H Q
/-- a def: nl names, its body -/
def fnF (nl : Nat) (body : MS) : F1 := fun ds M => match body (ds.map some ++ List.replicate (nl - ds.length) none) M with
  | some (.rt d M') => some (exitF M d M')
  | some (.nx _ M') => some (exitF M .non M')
  | _ => none
section
variable {P : Program} {w : World} {K : PySem.W.Frag} {mg : Str → Option Value} {base : Heap} {x qual : Str} {params : Arguments} {body : List Stmt} {scope : Scope} {f : Addr} {fd : FuncData} {cl : Nat → Addr}
/-- a def keeps its promise -/
theorem fn_ok {N ps : List Str} {k : Nat} {m : MS} (F : FunD K x qual params body scope [] [] f fd) (S : FnScope N ps scope)
    (hb : ∀ (cdv : Value) (A : Around) (outer : List Env) (s : Shared) (H : Hp) (E : XK), Room k (A.deeper (envOfC qual scope s.heap.objs.size f cdv)) → GB cl (cxOf CX0 P w K mg base N qual scope f cdv A outer s H E).nox body m) :
    FnOk P w K mg base CX0 (k + 1) f fd ps (spG cl K ps.length (fnF N.length m)) := by
  refine F.ok S (fun vs H Q E h => h.1) (fun cdv A outer s H vs Q E hr h => ⟨tS ⟨K, cl⟩ m, PSs.nox (hb cdv A outer s H E hr), ?_⟩)
  obtain ⟨hl, ρ, M, ds, d, M', R, r, e, k⟩ := h
  unfold fnF at e
  split at e
  · rename_i d1 M1 h1
    have e := Option.some.inj e
    refine ⟨ρ, _, M, _, R, .start N r, h1, fun v H' ρ' g R' r' => ?_⟩
    obtain ⟨ρ2, g2, R2, r2⟩ := exit_ok R g R' r'
    rw [e] at R2 r2
    exact k v H' ρ2 g2 R2 r2
  · rename_i lo1 M1 h1
    have e := Option.some.inj e
    refine ⟨ρ, _, M, _, R, .start N r, h1, fun σ' H' ρ' g R' _ => ?_⟩
    obtain ⟨ρ2, g2, R2, r2⟩ := exit_ok (v := .non) (d := .non) R g R' .non
    rw [e] at R2 r2
    exact k .non H' ρ2 g2 R2 r2
  · cases e
/-- a def that nothing is promised of -/
theorem fn_zero {ps : List Str} {k : Nat} : FnOk P w K mg base CX0 k f fd ps (spG cl K ps.length fun _ _ => none) :=
  ⟨fun vs H Q E h => h.1, fun A outer s H args us vs Q E hr he hb hv h => by
    obtain ⟨_, ρ, M, ds, d, M', R, r, e, k⟩ := h
    cases e⟩
end
/-- what a call of the module's def x with np arguments comes to -/
structure Fnd (P : Program) (w : World) (K : PySem.W.Frag) (mg : Str → Option Value) (base : Heap) (A : Around) (cl : Nat → Addr) (x : Str) (np : Nat) (f : F1) : Prop where
  ex : ∃ (k : Nat) (a : Addr) (fd : FuncData) (ps : List Str), ps.length = np ∧ FnOk P w K mg base CX0 k a fd ps (spG cl K np f) ∧ Room (k + 1) A ∧ mg x = some (.ref a) ∧ PySem.W.keepIn K (.ref a) = true ∧ Binds K fd ps []
/-- a method m of the class c -/
structure Mtd (P : Program) (w : World) (K : PySem.W.Frag) (mg : Str → Option Value) (base : Heap) (A : Around) (cl : Nat → Addr) (c : Nat) (m : Str) (np : Nat) (f : F1) : Prop where
  ex : ∃ (k : Nat) (a : Addr) (fd : FuncData) (ps : List Str), ps.length = np ∧ FnOk P w K mg base CX0 k a fd ps (spG cl K np f) ∧ Room (k + 1) A ∧ Cls K (cl c) ∧ Meth K (cl c) m a ∧ Binds K fd ps []
/-- the making of an instance of the class c -/
structure Mkd (P : Program) (w : World) (K : PySem.W.Frag) (mg : Str → Option Value) (base : Heap) (A : Around) (cl : Nat → Addr) (x : Str) (c : Nat) (np : Nat) (f : F1) : Prop where
  ex : ∃ (k : Nat) (a : Addr) (fd : FuncData) (ps : List Str), ps.length = np ∧ FnOk P w K mg base CX0 k a fd ps (spG cl K np f) ∧ Room (k + 1) A ∧ mg x = some (.ref (cl c)) ∧ Mk K (cl c) a ∧ Binds K fd ps []
section
variable {X : Cx} {cl : Nat → Addr} {pos : Pos} {x : Str} {p : Pos} {a : Expr} {es : List Expr} {ms : MA} {f : F1} {np : Nat}
/-- the arguments, as many as there must be -/
def mCallN (np : Nat) (f : F1) (ms : MA) : ME := fun lo M => match ms lo M with
  | some (ds, M1) => if ds.length = np then f ds M1 else none
  | none => none
theorem tCall_of {σ : L2.St} {H : Hp} {Q : VK} {E : XK} {K : PySem.W.Frag} (q : tM ⟨K, cl⟩ (mCallN np f ms) σ H Q) : tCall (spG cl K np f) [] E (tMs ⟨K, cl⟩ ms) σ H Q := by
  obtain ⟨ρ, lo, M, d, M', R, L, e, k⟩ := q
  unfold mCallN at e
  split at e
  · rename_i ds M1 h1
    split at e
    · rename_i hl
      refine ⟨ρ, lo, M, ds, M1, R, L, h1, fun vs H1 ρ1 g1 R1 r1 => ?_⟩
      show spG cl K np f (vs ++ []) H1 Q E
      rw [List.append_nil]
      exact ⟨by rw [r1.length]; exact hl, ρ1, M1, ds, d, M', R1, r1, e, fun v H2 ρ2 g2 R2 rr => k v H2 ρ2 (g1.trans g2) R2 rr⟩
    · cases e
  · cases e
theorem ge_call (C : Fnd X.prog X.w X.K X.mg X.base X.A cl x np f) (hg : Gl X x) (ha : GA cl X (a :: es) ms) (hdb : (x == ("__debug__" : Str)) = false := by decide) (he : starEach (a :: es) X.env = (false, eval a X.env) :: starEach es X.env := by rfl) (hpl : (backTo pos (starEach es X.env)).any (·.1) = false := by rfl) :
    GE cl X (.Call (.Name x p) (a :: es) [] pos) (mCallN np f ms) := by
  obtain ⟨k, ad, fd, ps, rfl, F, hr, hm, hk, hb⟩ := C.ex
  exact (pe_call F (hr.mono (Nat.le_succ _)) hg hm hk hb .nil pass0 ha hdb he hpl).imp fun _ _ _ q => tCall_of q
theorem ge_call0 (C : Fnd X.prog X.w X.K X.mg X.base X.A cl x np f) (hg : Gl X x) (hdb : (x == ("__debug__" : Str)) = false := by decide) :
    GE cl X (.Call (.Name x p) [] [] pos) (mCallN np f mNil) := by
  obtain ⟨k, ad, fd, ps, rfl, F, hr, hm, hk, hb⟩ := C.ex
  refine (pe_call0 F (hr.mono (Nat.le_succ _)) hg hm hk hb .nil pass0 hdb).imp fun σ H Q q => ?_
  obtain ⟨ρ, lo, M, ds, M', R, L, e, k⟩ := tCall_of (E := E0) q
  cases e
  exact k [] H ρ (.refl _ _) R .nil
/-- C(args) -/
def mMake (c np : Nat) (f : F1) (ms : MA) : ME := fun lo M => match ms lo M with
  | some (ds, M1) => if ds.length + 1 = np then (match f (.ref M1.length :: ds) (M1 ++ [.ins c []]) with
    | some (.non, M2) => some (.ref M1.length, M2)
    | _ => none) else none
  | none => none
theorem tMake_of {c : Nat} {σ : L2.St} {H : Hp} {Q : VK} {E : XK} {K : PySem.W.Frag} (q : tM ⟨K, cl⟩ (mMake c np f ms) σ H Q) : tMake (cl c) (spG cl K np f) [] E (tMs ⟨K, cl⟩ ms) σ H Q := by
  obtain ⟨ρ, lo, M, d, M', R, L, e, k⟩ := q
  unfold mMake at e
  split at e
  · rename_i ds M1 h1
    split at e
    · rename_i hl
      split at e
      · rename_i M2 h2
        cases e
        refine ⟨ρ, lo, M, ds, M1, R, L, h1, fun vs H1 ρ1 g1 R1 r1 y dx ny ndx hne => ?_⟩
        show spG cl K np f (.ref y :: (vs ++ [])) _ _ E
        rw [List.append_nil]
        have gd : Gr H1 ρ1 (upd H1 dx (.own y)) ρ1 := .new ndx
        have ny2 : upd H1 dx (.own y) y = none := by rw [upd_ne hne.symm]; exact ny
        have gy : Gr (upd H1 dx (.own y)) ρ1 (upd (upd H1 dx (.own y)) y (.ins (cl c) dx [])) (ρ1.push y) := .push ny2
        have Ry : Rep ⟨K, cl⟩ (upd (upd H1 dx (.own y)) y (.ins (cl c) dx [])) (ρ1.push y) (M1 ++ [.ins c []]) := (R1.new ndx).push ny2 ⟨dx, [], upd_same, rfl, .nil⟩
        have g12 := gd.trans gy
        have ry : DR K (upd (upd H1 dx (.own y)) y (.ins (cl c) dx [])) (ρ1.push y) (.ref y) (.ref M1.length) := .ref (by
          show (ρ1.m ++ [y])[M1.length]? = some y
          rw [← R1.len, List.getElem?_append_right (Nat.le_refl _), Nat.sub_self]
          rfl)
        refine ⟨by rw [List.length_cons, r1.length]; exact hl, ρ1.push y, _, _, _, _, Ry, .cons ry (r1.mono g12), h2, fun v H2 ρ2 g2 R2 rr => ?_⟩
        cases rr
        exact ⟨rfl, k _ H2 ρ2 ((g1.trans g12).trans g2) R2 (ry.mono g2)⟩
      · cases e
    · cases e
  · cases e
theorem ge_make {c : Nat} (C : Mkd X.prog X.w X.K X.mg X.base X.A cl x c np f) (hg : Gl X x) (ha : GA cl X (a :: es) ms) (hdb : (x == ("__debug__" : Str)) = false := by decide) (he : starEach (a :: es) X.env = (false, eval a X.env) :: starEach es X.env := by rfl) (hpl : (backTo pos (starEach es X.env)).any (·.1) = false := by rfl) :
    GE cl X (.Call (.Name x p) (a :: es) [] pos) (mMake c np f ms) := by
  obtain ⟨k, ad, fd, ps, rfl, F, hr, hm, M, hb⟩ := C.ex
  exact (pe_make M F hr hg hm hb .nil pass0 ha hdb he hpl).imp fun _ _ _ q => tMake_of q
theorem ge_make0 {c : Nat} (C : Mkd X.prog X.w X.K X.mg X.base X.A cl x c np f) (hg : Gl X x) (hdb : (x == ("__debug__" : Str)) = false := by decide) :
    GE cl X (.Call (.Name x p) [] [] pos) (mMake c np f mNil) := by
  obtain ⟨k, ad, fd, ps, rfl, F, hr, hm, M, hb⟩ := C.ex
  refine (pe_make0 M F hr hg hm hb .nil pass0 hdb).imp fun σ H Q q => ?_
  obtain ⟨ρ, lo, M, ds, M', R, L, e, k⟩ := tMake_of (E := E0) q
  cases e
  exact k [] H ρ (.refl _ _) R .nil
/-- o.m(args), o an instance of the class c -/
def mMethO (c : Nat) (m : Str) (np : Nat) (f : F1) (mo : ME) (ms : MA) : ME := fun lo M => match mo lo M with
  | some (.ref n, M1) => match M1[n]? with
    | some (.ins c' fs) => if c' = c ∧ fs.lookup m = none then (match ms lo M1 with
      | some (ds, M2) => if ds.length + 1 = np then f (.ref n :: ds) M2 else none
      | none => none) else none
    | _ => none
  | _ => none
theorem lookup_flds {K : PySem.W.Frag} {H : Hp} {ρ : Rh} : ∀ {vs : List (Str × V)} {fs : List (Str × D)} {g : Str}, Flds K H ρ vs fs → (fs.lookup g = none → vs.lookup g = none) ∧ ∀ d, fs.lookup g = some d → ∃ v, vs.lookup g = some v ∧ DR K H ρ v d
  | [], [], g, _ => ⟨fun _ => rfl, fun d e => by cases e⟩
  | [], _ :: _, g, h => by cases h.1
  | _ :: _, [], g, h => by cases h.1
  | (k, v) :: vs, (l, d) :: fs, g, h => by
    obtain ⟨h1, h2⟩ := h
    simp only [List.map_cons, List.cons.injEq] at h1
    obtain ⟨rfl, h1⟩ := h1
    rw [List.map_cons, List.map_cons] at h2
    cases h2 with
    | cons r rr =>
      have ih := lookup_flds (g := g) (vs := vs) (fs := fs) ⟨h1, rr⟩
      rw [List.lookup_cons, List.lookup_cons]
      cases hq : (g == k) with
      | true => exact ⟨fun e => by simp at e, fun d' e => by simp at e; subst e; exact ⟨v, rfl, r⟩⟩
      | false => exact ih
theorem refI {W : Wd} {H : Hp} {ρ : Rh} {M : Mo} {n : Nat} {v : V} {c : Nat} {fs : List (Str × D)} (R : Rep W H ρ M) (r : DR W.K H ρ v (.ref n)) (e : M[n]? = some (.ins c fs)) : ∃ q dx vs, v = .ref q ∧ ρ.m[n]? = some q ∧ H q = some (.ins (W.cl c) dx vs) ∧ Flds W.K H ρ vs fs := by
  cases r with
  | ref h =>
    obtain ⟨dx, vs, h1, h2⟩ := R.at_ h e
    exact ⟨_, dx, vs, rfl, h, h1, h2⟩
theorem tMeth_of {c : Nat} {m : Str} {mo : ME} {σ : L2.St} {H : Hp} {Q : VK} {E : XK} {K : PySem.W.Frag} (q : tM ⟨K, cl⟩ (mMethO c m np f mo ms) σ H Q) : tMeth (cl c) m (spG cl K np f) [] E (tM ⟨K, cl⟩ mo) (tMs ⟨K, cl⟩ ms) σ H Q := by
  obtain ⟨ρ, lo, M, d, M', R, L, e, k⟩ := q
  unfold mMethO at e
  split at e
  · rename_i n M1 h1
    split at e
    · rename_i c' fs hm
      split at e
      · rename_i hc
        obtain ⟨rfl, hf⟩ := hc
        split at e
        · rename_i ds M2 h2
          split at e
          · rename_i hl
            refine ⟨ρ, lo, M, _, M1, R, L, h1, fun v H1 ρ1 g1 R1 r1 => ?_⟩
            obtain ⟨q', dx, vs, rfl, hp, hH, hfl⟩ := refI R1 r1 hm
            refine ⟨q', dx, vs, rfl, hH, (lookup_flds hfl).1 hf, ρ1, lo, M1, ds, M2, R1, L.mono g1, h2, fun us H2 ρ2 g2 R2 r2 => ?_⟩
            show spG cl K np f (.ref q' :: (us ++ [])) H2 Q E
            rw [List.append_nil]
            exact ⟨by rw [List.length_cons, r2.length]; exact hl, ρ2, M2, _, d, M', R2, .cons (r1.mono g2) r2, e, fun v H3 ρ3 g3 R3 rr => k v H3 ρ3 ((g1.trans g2).trans g3) R3 rr⟩
          · cases e
        · cases e
      · cases e
    · cases e
  · cases e
section
variable {o : Expr} {mo : ME} {m : Str} {apos : Pos} {c : Nat} {pl : Sem Bool}
theorem ge_meth (C : Mtd X.prog X.w X.K X.mg X.base X.A cl c m np f) (ho : GE cl X o mo) (ha : GA cl X (a :: es) ms)
    (hst : starEach (a :: es) X.env = (false, eval a X.env) :: starEach es X.env := by rfl) (hpl : (backTo pos (starEach es X.env)).any (·.1) = false := by rfl)
    (ht : eval (.Call (.Attribute o m apos) (a :: es) [] pos) X.env = (do
      let u ← eval o X.env
      standAt apos.atName
      let (q, z) ← holding [u] (getMethod u m pl)
      callWith pos q z (backTo pos (starEach (a :: es) X.env)) (backToKw pos (keywordEach [] X.env))) := by rfl) :
    GE cl X (.Call (.Attribute o m apos) (a :: es) [] pos) (mMethO c m np f mo ms) := by
  obtain ⟨k, ad, fd, ps, rfl, F, hr, hc, hm, hb⟩ := C.ex
  exact (pe_meth ho hc hm F (hr.mono (Nat.le_succ _)) hb .nil pass0 ha hst hpl ht).imp fun _ _ _ q => tMeth_of q
/-- o.f, o an instance of the class c -/
def mFld (c : Nat) (mo : ME) (g : Str) : ME := fun lo M => match mo lo M with
  | some (.ref n, M1) => match M1[n]? with
    | some (.ins c' fs) => if c' = c then (match fs.lookup g with
      | some d => some (d, M1)
      | none => none) else none
    | _ => none
  | _ => none
theorem ge_fld {g : Str} (hc : Cls X.K (cl c)) (hn : NoAttr X.K (cl c) g) (ho : GE cl X o mo) (hb : attributeBase o g X.env (eval o X.env) = eval o X.env := by rfl) : GE cl X (.Attribute o g pos) (mFld c mo g) :=
  (pe_fld ho hb).imp fun σ H Q q => by
    obtain ⟨ρ, lo, M, d, M', R, L, e, k⟩ := q
    unfold mFld at e
    split at e
    · rename_i n M1 h1
      split at e
      · rename_i c' fs hm
        split at e
        · rename_i hcc
          subst hcc
          split at e
          · rename_i d1 hf
            cases e
            refine ⟨ρ, lo, M, _, _, R, L, h1, fun v H1 ρ1 g1 R1 r1 => ?_⟩
            obtain ⟨q', dx, vs, rfl, hp, hH, hfl⟩ := refI R1 r1 hm
            obtain ⟨v', hv', rv'⟩ := (lookup_flds hfl).2 _ hf
            exact ⟨q', cl c', dx, vs, v', rfl, hH, hc, hn, hv', k v' H1 ρ1 g1 R1 rv'⟩
          · cases e
        · cases e
      · cases e
    · cases e
def putD (f : Str) (v : D) : List (Str × D) → List (Str × D)
  | [] => [(f, v)]
  | (g, x) :: r => if g = f then (g, v) :: r else (g, x) :: putD f v r
theorem flds_put {K : PySem.W.Frag} {H : Hp} {ρ : Rh} {g : Str} {v : V} {d : D} (r : DR K H ρ v d) : ∀ {vs : List (Str × V)} {fs : List (Str × D)}, Flds K H ρ vs fs → Flds K H ρ (putF g v vs) (putD g d fs)
  | [], [], _ => ⟨rfl, .cons r .nil⟩
  | [], _ :: _, h => by cases h.1
  | _ :: _, [], h => by cases h.1
  | (k, u) :: vs, (l, e) :: fs, h => by
    obtain ⟨h1, h2⟩ := h
    simp only [List.map_cons, List.cons.injEq] at h1
    obtain ⟨rfl, h1⟩ := h1
    rw [List.map_cons, List.map_cons] at h2
    cases h2 with
    | cons r1 rr =>
      have ih := flds_put (g := g) r (vs := vs) (fs := fs) ⟨h1, rr⟩
      unfold putF putD
      by_cases hq : k = g
      · rw [if_pos hq, if_pos hq]
        exact ⟨by simp [h1], .cons r rr⟩
      · rw [if_neg hq, if_neg hq]
        exact ⟨by simp [ih.1], .cons r1 ih.2⟩
/-- o.f = value -/
def sFldM (c : Nat) (mo mv : ME) (g : Str) : MS := fun lo M => match mv lo M with
  | some (d, M1) => match mo lo M1 with
    | some (.ref n, M2) => match M2[n]? with
      | some (.ins c' fs) => if c' = c ∧ fs.length < 1000 then some (.nx lo (M2.set n (.ins c (putD g d fs)))) else none
      | _ => none
    | _ => none
  | none => none
theorem gs_fld {g : Str} {value : Expr} {mv : ME} {pos' : Pos} (hc : Cls X.K (cl c)) (hn : NoAttr X.K (cl c) g) (ho : GE cl X o mo) (hv : GE cl X value mv) (hs : swapsWith value (some (.Attribute o g pos')) pos.line X.env = pure false := by rfl) :
    GS cl X (.Assign [.Attribute o g pos'] value pos) (sFldM c mo mv g) :=
  (ps_fld ho hv hs).imp fun De σ H q => by
    obtain ⟨ρ, lo, M, o', R, L, e, k⟩ := q
    unfold sFldM at e
    split at e
    · rename_i d M1 h1
      split at e
      · rename_i n M2 h2
        split at e
        · rename_i c' fs hm
          split at e
          · rename_i hcc
            obtain ⟨rfl, hl⟩ := hcc
            cases e
            refine ⟨ρ, lo, M, d, M1, R, L, h1, fun v H1 ρ1 g1 R1 r1 => ?_⟩
            refine ⟨ρ1, lo, M1, _, M2, R1, L.mono g1, h2, fun ov H2 ρ2 g2 R2 r2 => ?_⟩
            obtain ⟨q', dx, vs, rfl, hp, hH, hfl⟩ := refI R2 r2 hm
            have g3 : Gr H2 ρ2 (upd H2 q' (.ins (cl c') dx (putF g v vs))) ρ2 := .put R2 (List.mem_of_getElem? hp)
            have hlen : vs.length = fs.length := by have := congrArg List.length hfl.1; simpa using this
            have hfl2 := flds_put (g := g) (r1.mono g2) hfl
            refine ⟨q', cl c', dx, vs, rfl, hH, hc, hn, by rw [hlen]; exact hl, ?_⟩
            exact k σ _ ρ2 ((g1.trans g2).trans g3) (R2.put hp ⟨dx, _, upd_same, hfl2.1, hfl2.2.mono g3⟩) (((L.mono g1).mono g2).mono g3)
          · cases e
        · cases e
      · cases e
    · cases e
end
end
end G

set_option Elab.async false
set_option linter.all false
set_option maxRecDepth 100000
namespace G
open PySem PySem.Spec L2

/-! ### zip of tuples and lists in any mix -/
def Sq (t : Bool) (K : PySem.W.Frag) (H : Hp) (a : Addr) (xs : List V) : Prop := match t with | true => SqT K H a xs | false => SqL K H a xs
def IsIt (t : Bool) (h : Heap) (i a : Addr) (k : Nat) : Prop := match t with | true => h.IsTupleIter i a k | false => h.IsListIter i a k
def IsSq (t : Bool) (h : Heap) (a : Addr) (items : Array Value) : Prop := match t with | true => h.IsTuple a items | false => h.IsList a items
def itObj (t : Bool) (a : Addr) : Obj := match t with
  | true => { cls := .type "tuple_iterator", data := .fields #[.ref a, .int 0 0] }
  | false => { cls := .type "list_iterator", data := .fields #[.ref a, .int 0 0] }
theorem Sq.inv {X : Cx} {pins : List (Addr × Obj)} {σ : L2.St} {H : Hp} {s : Shared} {t : Bool} {a : Addr} {xs : List V} (I : Inv X pins σ H s) (h : Sq t X.K H a xs) : ∃ its : List Value, Vals xs its ∧ IsSq t s.heap a its.toArray := by
  cases t with
  | true =>
    obtain ⟨its, r, p, _⟩ := I.tuple h
    exact ⟨its, r, p⟩
  | false =>
    obtain ⟨its, r, p, _⟩ := I.list h
    exact ⟨its, r, p.isList⟩
theorem Sq.inj {X : Cx} {pins : List (Addr × Obj)} {σ : L2.St} {H : Hp} {s : Shared} {t : Bool} {a : Addr} {xs ys : List V} (I : Inv X pins σ H s) (h : Sq t X.K H a xs) (h' : Sq t X.K H a ys) : xs = ys := by
  cases t with
  | true => exact I.tuple_inj h h'
  | false => exact I.list_inj h h'
theorem drawsG {P : Program} {w : World} {A : Around} (hh : A.handled = none) (t : Bool) (i a : Addr) (hne : a ≠ i) (items : Array Value) :
    Draws P w A i [i, a] items.size (fun k v => items[k]? = some v) (fun k h => IsIt t h i a k ∧ IsSq t h a items) := by
  cases t with
  | true => exact Draws.tuple hh i a hne items
  | false => exact Draws.list hh i a hne items
theorem IsIt.live {t : Bool} {h : Heap} {i a : Addr} {k : Nat} (x : IsIt t h i a k) : ∃ o, h.get? i = some o ∧ ∀ v, o.data ≠ .cell v := by
  cases t with
  | true => obtain ⟨o, e, _, d⟩ := x; exact ⟨o, e, fun v q => by rw [d] at q; cases q⟩
  | false => obtain ⟨o, e, _, d⟩ := x; exact ⟨o, e, fun v q => by rw [d] at q; cases q⟩
theorem IsIt.stays {t : Bool} {h h' : Heap} {i a : Addr} {k : Nat} (x : IsIt t h i a k) (e : ∀ o, h.get? i = some o → h'.get? i = some o) : IsIt t h' i a k := by
  cases t with
  | true => exact Heap.IsTupleIter.at x e
  | false => exact Heap.IsListIter.at x e
def ItzG (K : PySem.W.Frag) (t1 t2 : Bool) (a b : Addr) : It :=
  ⟨fun i H => ∃ (xs ys : List V) (x y : V), Sq t1 K H a xs ∧ Sq t2 K H b ys ∧ xs[i]? = some x ∧ ys[i]? = some y,
    fun i H v H' => ∃ T x y, v = .ref T ∧ H T = none ∧ H' = upd H T (.tup [x, y]) ∧ (∀ xs, Sq t1 K H a xs → xs[i]? = some x) ∧ ∀ ys, Sq t2 K H b ys → ys[i]? = some y,
    fun i H => ∃ xs ys : List V, Sq t1 K H a xs ∧ Sq t2 K H b ys ∧ min xs.length ys.length = i⟩
theorem turn_zipG {P : Program} {w : World} {K : PySem.W.Frag} {elts : List Expr} {kk : Nat} {tpos : Pos} {t1 t2 : Bool} {a b z TI TO i1 i2 : Addr} (S : ZipSep2 z TI TO i1 i2 [i1, a] [i2, b]) (ha : a ≠ i1) (hb : b ≠ i2) :
    Turn P w K (.Tuple elts kk tpos) (ItzG K t1 t2 a b) [z, TI, TO, i1, i2] z (fun i h => IsZip h z TI TO .none ∧ IsTupOf2 h TI (.ref i1) (.ref i2) ∧ (∃ x y, IsTupOf2 h TO x y) ∧ IsIt t1 h i1 a i ∧ IsIt t2 h i2 b i) where
  mem := by simp
  obj := fun i h st c hc => by
    obtain ⟨hz, hTI, ⟨x, y, hTO⟩, h1, h2⟩ := st
    have hc' : c = z ∨ c = TI ∨ c = TO ∨ c = i1 ∨ c = i2 := by simpa using hc
    rcases hc' with rfl | rfl | rfl | rfl | rfl
    · exact ⟨_, hz, fun v q => nomatch q⟩
    · exact ⟨_, hTI, fun v q => nomatch q⟩
    · exact ⟨_, hTO, fun v q => nomatch q⟩
    · exact h1.live
    · exact h2.live
  keep := fun i h h' st k => by
    obtain ⟨hz, hTI, ⟨x, y, hTO⟩, h1, h2⟩ := st
    exact ⟨k z (by simp) _ hz, k TI (by simp) _ hTI, ⟨x, y, k TO (by simp) _ hTO⟩, h1.stays fun o q => k i1 (by simp) o q, h2.stays fun o q => k i2 (by simp) o q⟩
  item := by
    intro X hP hw hK hc i pins s σ H E I hf st hg
    subst hP hw hK
    obtain ⟨hz, hTI, hTO, h1, h2⟩ := st
    obtain ⟨xs, ys, x, y, hqx, hqy, hx, hy⟩ := hg
    obtain ⟨its, rv, p1⟩ := hqx.inv I
    obtain ⟨its2, rv2, p2⟩ := hqy.inv I
    obtain ⟨u, hu, ru⟩ := rv.get hx
    obtain ⟨u2, hu2, ru2⟩ := rv2.get hy
    have hhd : X.A.in1.handled = none := I.ok.hd hc
    have l1 : i < its.toArray.size := by
      have := (List.getElem?_eq_some_iff.mp hu).1
      simpa using this
    have l2 : i < its2.toArray.size := by
      have := (List.getElem?_eq_some_iff.mp hu2).1
      simpa using this
    refine (GoesN.zip2 (prog := X.prog) (w := X.w) (A := X.A) (elts := elts) (x1 := kk) (pos := tpos) S (drawsG hhd t1 i1 a ha its.toArray) (drawsG hhd t2 i2 b hb its2.toArray)).goes i s _ _ (by omega) ⟨hz, hTI, hTO, ⟨h1, p1⟩, h2, p2⟩ fun v h' tk hY st' hk htk => ?_
    obtain ⟨T, v1, v2, rfl, hnew, e1, e2, hT⟩ := hY
    obtain ⟨hz', hTI', hTO', ⟨h1', _⟩, h2', _⟩ := st'
    have hu' : its.toArray[i]? = some u := by simpa using hu
    have hu2' : its2.toArray[i]? = some u2 := by simpa using hu2
    rw [hu'] at e1
    rw [hu2'] at e2
    cases e1; cases e2
    have new : ObjOk X.prog X.w (upd H T (.tup [x, y])) h' T (.tup [x, y]) := ⟨by show 2 ≤ sizeLine; decide, [u, u2], .cons ru (.cons ru2 .nil), hT⟩
    have I1 := I.turnedNew (t' := tk) (ch := [z, TI, TO, i1, i2]) (fun c o hb q => hk c o (fun q' => hb (by
      have : c = z ∨ c = TO ∨ c = i1 ∨ c = i2 := by simpa using q'
      rcases this with rfl | rfl | rfl | rfl <;> simp)) q) hf hnew new
    have fresh : H T = none := I.hok.fresh hnew
    refine ⟨.ref T, _, I1, rfl, ⟨T, x, y, rfl, fresh, rfl, fun l hl => by rw [Sq.inj I hl hqx]; exact hx, fun l hl => by rw [Sq.inj I hl hqy]; exact hy⟩, ⟨hz', hTI', hTO', h1', h2'⟩, fun c hcm => ?_⟩
    have hlt : c < s.heap.objs.size := by
      have hc' : c = z ∨ c = TI ∨ c = TO ∨ c = i1 ∨ c = i2 := by simpa using hcm
      obtain ⟨x0, y0, hTO⟩ := hTO
      rcases hc' with rfl | rfl | rfl | rfl | rfl
      · exact Heap.lt_size hz
      · exact Heap.lt_size hTI
      · exact Heap.lt_size hTO
      · exact Heap.lt_size h1.live.choose_spec.1
      · exact Heap.lt_size h2.live.choose_spec.1
    rw [upd_ne (fun q => absurd (Nat.lt_of_lt_of_le hlt hnew) (by rw [q]; exact Nat.lt_irrefl _))]
    exact (hf c hcm).1
  done := by
    intro X hP hw hK hc i pins s σ H E I hf st hg
    subst hP hw hK
    obtain ⟨hz, hTI, hTO, h1, h2⟩ := st
    obtain ⟨xs, ys, hqx, hqy, hend⟩ := hg
    obtain ⟨its, rv, p1⟩ := hqx.inv I
    obtain ⟨its2, rv2, p2⟩ := hqy.inv I
    have hhd : X.A.in1.handled = none := I.ok.hd hc
    have e1 := rv.length
    have e2 := rv2.length
    have e3 : min its.toArray.size its2.toArray.size = i := by
      rw [List.size_toArray, List.size_toArray]
      omega
    have st : IsZip s.heap z TI TO .none ∧ IsTupOf2 s.heap TI (.ref i1) (.ref i2) ∧ (∃ x y, IsTupOf2 s.heap TO x y) ∧ (IsIt t1 s.heap i1 a (min its.toArray.size its2.toArray.size) ∧ IsSq t1 s.heap a its.toArray) ∧ IsIt t2 s.heap i2 b (min its.toArray.size its2.toArray.size) ∧ IsSq t2 s.heap b its2.toArray := by
      rw [e3]
      exact ⟨hz, hTI, hTO, ⟨h1, p1⟩, h2, p2⟩
    refine (GoesN.zip2 (prog := X.prog) (w := X.w) (A := X.A) (elts := elts) (x1 := kk) (pos := tpos) S (drawsG hhd t1 i1 a ha its.toArray) (drawsG hhd t2 i2 b hb its2.toArray)).stops s _ _ st fun h' tk hk htk => ?_
    exact I.turnedL (t' := tk) (ch := [z, TI, TO, i1, i2]) (fun c o hb q => hk c o (fun q' => hb (by
      have : c = z ∨ c = TO ∨ c = i1 ∨ c = i2 := by simpa using q'
      rcases this with rfl | rfl | rfl | rfl <;> simp)) q) hf
  self := fun A i s Q E st h => wpAny_pyIter_zip st.1 h
/-- two values that are walked -/
def iZipG (K : PySem.W.Frag) (t : TA) : TI := fun σ H R => t σ H fun vs H1 => ∃ t1 t2 a b xs ys, vs = [V.ref a, V.ref b] ∧ Sq t1 K H1 a xs ∧ Sq t2 K H1 b ys ∧ R (ItzG K t1 t2 a b) H1
theorem beginsG (t : Bool) (a : Addr) (items : Array Value) : Begins (.ref a) (itObj t a) (fun h => IsSq t h a items) := by
  cases t with
  | true => exact begins_tuple a items
  | false => exact begins_list a items
theorem IsIt.new {t : Bool} {h : Heap} {i a : Addr} (e : h.get? i = some (itObj t a)) : IsIt t h i a 0 := by
  cases t with
  | true => exact ⟨_, e, rfl, rfl⟩
  | false => exact ⟨_, e, rfl, rfl⟩
theorem IsSq.lt {t : Bool} {h : Heap} {a : Addr} {items : Array Value} (x : IsSq t h a items) : a < h.objs.size := by
  cases t with
  | true => obtain ⟨o, e, _⟩ := x; exact Heap.lt_size e
  | false => obtain ⟨o, e, _⟩ := x; exact Heap.lt_size e
theorem pi_zipG {X : Cx} {e e2 : Expr} {t : TA} {p pos tpos : Pos} {elts : List Expr} {kk : Nat} (hc : X.calm = true) (hg : Gl X "zip") (hm : X.mg "zip" = none) (ha : PA X [e, e2] t)
    (hs : starEach [e, e2] X.env = (false, eval e X.env) :: starEach [e2] X.env := by rfl) (hpl : (backTo pos (starEach [e2] X.env)).any (·.1) = false := by rfl) :
    PI X (.Tuple elts kk tpos) (.Call (.Name "zip" p) [e, e2] [] pos) (iZipG X.K t) := by
  refine ⟨fun pins s σ H R I h => ?_⟩
  refine PyProof.Rows.Call_ (ld_blt I hg hm PyProof.Rows.boot_zip (PyProof.Rows.callWith_type1 (thn (ha.run pos pins s σ H _ I h) fun us s1 ⟨vs, H1, I1, r1, q1⟩ => ?_) hs hpl))
  obtain ⟨t1, t2, a, b, xs, ys, rfl, hqx, hqy, q⟩ := q1
  cases r1 with
  | cons r rr =>
    cases rr with
    | cons r' rr =>
      cases rr
      cases r
      cases r'
      obtain ⟨its, rv, p1⟩ := hqx.inv I1
      obtain ⟨its2, rv2, p2⟩ := hqy.inv I1
      have la := p1.lt
      have lb := p2.lt
      have fresh5 : ∀ c, c ∈ [s1.heap.objs.size + 4, s1.heap.objs.size + 2, s1.heap.objs.size + 3, s1.heap.objs.size, s1.heap.objs.size + 1] → FpOk X pins H1 c := fun c hcm => by
        have hle : s1.heap.objs.size ≤ c := by
          have e' : c = s1.heap.objs.size + 4 ∨ c = s1.heap.objs.size + 2 ∨ c = s1.heap.objs.size + 3 ∨ c = s1.heap.objs.size ∨ c = s1.heap.objs.size + 1 := by simpa using hcm
          rcases e' with z | z | z | z | z
          all_goals (rw [z]; first | exact Nat.le_add_right _ _ | exact Nat.le_refl _)
        exact I1.fpOk hle (I1.hok.fresh hle)
      refine zip_begins2 (beginsG t1 a its.toArray) (beginsG t2 b its2.toArray) p1 p2 fun h' hz hTI hTO h1 h2 hsz hk => wpAny_pyIter_zip hz ?_
      have I2 : Inv X pins σ H1 { s1 with heap := h' } := I1.kept (t' := s1.toks) hk
      exact ⟨s1.heap.objs.size + 4, [s1.heap.objs.size + 4, s1.heap.objs.size + 2, s1.heap.objs.size + 3, s1.heap.objs.size, s1.heap.objs.size + 1], _, _, H1, rfl, I2,
        turn_zipG (zip_sep2 (fp1 := [a]) (fp2 := [b]) (fun c hcm => by rw [List.mem_singleton.mp hcm]; exact la) (fun c hcm => by rw [List.mem_singleton.mp hcm]; exact lb)) (Nat.ne_of_lt la) (Nat.ne_of_lt (Nat.lt_succ_of_lt lb)),
        ⟨hz, hTI, ⟨_, _, hTO⟩, .new h1, .new h2⟩, fresh5, q⟩
/-- data that is walked -/
def kindOf : D → Option (Bool × List D)
  | .tup ds => some (true, ds)
  | .lst ds => some (false, ds)
  | _ => none
def zipD (xs ys : List D) : List D := (xs.zip ys).map fun p => .tup [p.1, p.2]
def iZipM (ma mb : ME) : MA := fun lo M => match mTwo ma mb lo M with
  | some ([da, db], M1) => match kindOf da, kindOf db with
    | some (_, xs), some (_, ys) => some (zipD xs ys, M1)
    | _, _ => none
  | _ => none
theorem kindOf_ok {K : PySem.W.Frag} {H : Hp} {ρ : Rh} {v : V} {d : D} {t : Bool} {ds : List D} (r : DR K H ρ v d) (e : kindOf d = some (t, ds)) : ∃ a xs, v = .ref a ∧ DRs K H ρ xs ds ∧ Sq t K H a xs ∧ d = (if t = true then .tup ds else .lst ds) := by
  cases r with
  | tup h hs => cases e; exact ⟨_, _, rfl, hs, h.sq, rfl⟩
  | lst h hs => cases e; exact ⟨_, _, rfl, hs, SqL.of h.1, rfl⟩
  | _ => cases e
theorem kindOf_stay {K : PySem.W.Frag} {H : Hp} {ρ : Rh} {a : Addr} {t : Bool} {ds : List D} (r : DR K H ρ (.ref a) (if t = true then .tup ds else .lst ds)) : ∃ xs, DRs K H ρ xs ds ∧ Sq t K H a xs := by
  cases t with
  | true =>
    cases r with
    | tup h hs => exact ⟨_, hs, h.sq⟩
  | false =>
    cases r with
    | lst h hs => exact ⟨_, hs, SqL.of h.1⟩
theorem gi_zip {X : Cx} {cl : Nat → Addr} {e e2 : Expr} {ma mb : ME} {p pos tpos : Pos} {elts : List Expr} {kk : Nat} (hc : X.calm = true) (hg : Gl X "zip") (hm : X.mg "zip" = none) (ha : GE cl X e ma) (hb : GE cl X e2 mb)
    (hs : starEach [e, e2] X.env = (false, eval e X.env) :: starEach [e2] X.env := by rfl) (hs2 : starEach [e2] X.env = (false, eval e2 X.env) :: starEach [] X.env := by rfl) (hpl : (backTo pos (starEach [e2] X.env)).any (·.1) = false := by rfl) :
    GI cl X (.Tuple elts kk tpos) (.Call (.Name "zip" p) [e, e2] [] pos) (iZipM ma mb) :=
  (pi_zipG hc hg hm (ga_cons ha (ga_cons hb ga_nil hs2) hs) hs hpl).imp fun σ H R q => by
    obtain ⟨ρ, lo, M, ds, M', R0, L, e, k⟩ := q
    unfold iZipM at e
    split at e
    · rename_i da db M1 h1
      split at e
      · rename_i t1 xs t2 ys k1 k2
        cases e
        refine ⟨ρ, lo, M, _, _, R0, L, h1, fun vs H1 ρ1 g1 R1 r1 => ?_⟩
        obtain ⟨v, u, rfl, rv, ru⟩ := r1.pair
        obtain ⟨a, us, rfl, hr, hq, rfl⟩ := kindOf_ok rv k1
        obtain ⟨b, ws, rfl, hr2, hq2, rfl⟩ := kindOf_ok ru k2
        refine ⟨t1, t2, a, b, us, ws, rfl, hq, hq2, k _ H1 ρ1 g1 R1 fun i H2 ρ2 M2 mono R2 => ?_⟩
        obtain ⟨us2, q1, q2⟩ := kindOf_stay (mono _ _ rv)
        obtain ⟨ws2, q3, q4⟩ := kindOf_stay (mono _ _ ru)
        have hl : (zipD xs ys).length = min us2.length ws2.length := by unfold zipD; rw [List.length_map, List.length_zip, q1.length, q3.length]
        refine ⟨fun hi => ⟨us2, ws2, q2, q4, by rw [← hl]; exact hi⟩, fun d hd => ?_⟩
        unfold zipD at hd
        rw [List.getElem?_map] at hd
        cases hz : (xs.zip ys)[i]? with
        | none => rw [hz] at hd; cases hd
        | some pr =>
          rw [hz] at hd
          cases hd
          obtain ⟨z1, z2⟩ := List.getElem?_zip_eq_some.mp hz
          obtain ⟨x, hx, rx⟩ := q1.get z1
          obtain ⟨y, hy, ry⟩ := q3.get z2
          refine ⟨⟨us2, ws2, x, y, q2, q4, hx, hy⟩, fun v H3 hyl => ?_⟩
          obtain ⟨T, x', y', rfl, hT, rfl, hx', hy'⟩ := hyl
          have e1 := hx' us2 q2
          have e2 := hy' ws2 q4
          rw [hx] at e1
          rw [hy] at e2
          cases e1; cases e2
          exact ⟨.new hT, R2.new hT, .newTup hT (R2.fresh hT) (.cons rx (.cons ry .nil)), fun a o h => by rw [upd_ne (ne_of_none h hT)]; exact h⟩
      · cases e
    · cases e
/-- a tuple or a list that does not change -/
def iSeqM (m : ME) : MA := fun lo M => match m lo M with
  | some (.tup ds, M1) => some (ds, M1)
  | some (.lst ds, M1) => some (ds, M1)
  | _ => none
theorem gi_seq {X : Cx} {cl : Nat → Addr} {tg e : Expr} {m : ME} (h : GE cl X e m) : GI cl X tg e (iSeqM m) := by
  refine ⟨fun pins s σ H R I q => ?_⟩
  obtain ⟨ρ, lo, M, ds, M', R0, L, e, k⟩ := q
  unfold iSeqM at e
  split at e
  · rename_i ds' M1 h1
    cases e
    exact (gi_tup h).run pins s σ H R I ⟨ρ, lo, M, _, _, R0, L, by unfold iTupM; rw [h1], k⟩
  · rename_i ds' M1 h1
    cases e
    exact (gi_lst h).run pins s σ H R I ⟨ρ, lo, M, _, _, R0, L, by unfold iLstM; rw [h1], k⟩
  · cases e
end G

set_option Elab.async false
set_option linter.all false
set_option maxRecDepth 100000
namespace G
open PySem PySem.Spec L2

section
variable {X : Cx} {cl : Nat → Addr} {pos : Pos}
/-- a, b, c = x, y, z with names -/
def sPar3 (i j l : Nat) (ma mb mc : ME) : MS := fun lo M => match mCons ma (mTwo mb mc) lo M with
  | some ([d, e, f], M1) => some (.nx (((lo.set i (some d)).set j (some e)).set l (some f)) M1)
  | _ => none
theorem gs_par3 {i j l : Nat} {x y z : Str} {a b c : Expr} {ma mb mc : ME} {px py pz pt : Pos} {kt k2 pt2} (hc : X.calm = true) (hN : X.N.Nodup) (hi : X.N[i]? = some x) (hj : X.N[j]? = some y) (hl : X.N[l]? = some z) (hij : i ≠ j) (hil : i ≠ l) (hjl : j ≠ l)
    (hx : X.env.scope.names.lookup x = some .local) (hy : X.env.scope.names.lookup y = some .local) (hz : X.env.scope.names.lookup z = some .local) (ha : GA cl X [a, b, c] (mCons ma (mTwo mb mc)))
    (hw : swappedStores [.Tuple [.Name x px, .Name y py, .Name z pz] kt pt] (.Tuple [a, b, c] k2 pt2) X.env = pure (some [x, y, z]))
    (hs : swapsWithSole [.Tuple [.Name x px, .Name y py, .Name z pz] kt pt] (.Tuple [a, b, c] k2 pt2) pos.line X.env = pure false := by rfl) :
    GS cl X (.Assign [.Tuple [.Name x px, .Name y py, .Name z pz] kt pt] (.Tuple [a, b, c] k2 pt2) pos) (sPar3 i j l ma mb mc) :=
  (ps_par3 hc hN hi hj hl hij hil hjl hx hy hz ha hw hs).imp fun De σ H q => by
    obtain ⟨ρ, lo, M, o, R, L, e, k⟩ := q
    unfold sPar3 at e
    split at e
    · rename_i d1 d2 d3 M1 h1
      cases e
      refine ⟨ρ, lo, M, _, M1, R, L, h1, fun vs H1 ρ1 g1 R1 r1 => ?_⟩
      cases r1 with
      | cons ra rr =>
        obtain ⟨u, w', rfl, rb, rc⟩ := rr.pair
        exact ⟨_, u, w', rfl, k _ H1 ρ1 g1 R1 ((((L.mono g1).set ra i).set rb j).set rc l)⟩
    · cases e
/-- a op b op' c -/
def mChain (f g : F1) (ma mb mc : ME) : ME := fun lo M => match mTwo ma mb lo M with
  | some ([d, e], M1) => match f [d, e] M1 with
    | some (.bl true, M2) => (match mc lo M2 with
      | some (h, M3) => (match g [e, h] M3 with
        | some (.bl b, M4) => some (.bl b, M4)
        | _ => none)
      | none => none)
    | some (.bl false, M2) => some (.bl false, M2)
    | _ => none
  | _ => none
end

/-! ### constants of the module -/
structure GlobD (K : PySem.W.Frag) (mg : Str → Option Value) (x : Str) (d : D) : Prop where
  ex : ∃ (v : V) (u : Value), mg x = some u ∧ RelV v u ∧ ∀ H ρ, DR K H ρ v d
theorem ge_globT {X : Cx} {cl : Nat → Addr} {pos : Pos} {x : Str} {d : D} (C : GlobD X.K X.mg x d) (hg : Gl X x) (hd : (x == ("__debug__" : Str)) = false := by decide) : GE cl X (.Name x pos) (mC d) := by
  obtain ⟨v, u, h1, h2, h3⟩ := C.ex
  exact ge_glob hg h1 h2 h3 hd
theorem GlobD.int {K : PySem.W.Frag} {mg : Str → Option Value} {x : Str} {i : Int} (h : ∃ t, mg x = some (.int i t)) : GlobD K mg x (.int i) := by
  obtain ⟨t, h⟩ := h
  exact ⟨.int i, _, h, ⟨t, rfl⟩, fun _ _ => .int i⟩
theorem GlobD.str {K : PySem.W.Frag} {mg : Str → Option Value} {x z : Str} (h : ∃ t, mg x = some (.str z t)) : GlobD K mg x (.str z) := by
  obtain ⟨t, h⟩ := h
  exact ⟨.str z, _, h, ⟨t, rfl⟩, fun _ _ => .str z⟩
/-- a tuple of the written part, read to any depth -/
def kTupD (K : PySem.W.Frag) : Nat → Value → D → Bool
  | _, .none, .non => true
  | _, .bool b, .bl c => b == c
  | _, .int i _, .int j => decide (i = j)
  | _, .str x _, .str y => decide (x = y)
  | n + 1, .ref a, .tup ds => (match K.lookup a with
    | some ⟨.type c, _, .seq its _, _⟩ => decide (c = "tuple") && decide (its.size ≤ sizeLine) && decide (its.size = ds.length) && ((its.toList.zip ds).all fun p => kTupD K n p.1 p.2)
    | _ => false)
  | _, _, _ => false
def absVD : Value → V
  | .none => .non
  | .bool b => .bl b
  | .int i _ => .int i
  | .str x _ => .str x
  | .ref a => .ref a
  | _ => .non
theorem kTupD_ok {K : PySem.W.Frag} : ∀ (n : Nat) (u : Value) (d : D), kTupD K n u d = true → RelV (absVD u) u ∧ ∀ H ρ, DR K H ρ (absVD u) d := by
  intro n
  induction n with
  | zero =>
    intro u d h
    unfold kTupD at h
    split at h
    · exact ⟨rfl, fun _ _ => .non⟩
    · simp at h; subst h; exact ⟨rfl, fun _ _ => .bl _⟩
    · simp at h; subst h; exact ⟨⟨_, rfl⟩, fun _ _ => .int _⟩
    · simp at h; subst h; exact ⟨⟨_, rfl⟩, fun _ _ => .str _⟩
    · rename_i hz; exact absurd hz (by simp)
    · cases h
  | succ n ih =>
    intro u d h
    unfold kTupD at h
    split at h
    · exact ⟨rfl, fun _ _ => .non⟩
    · simp at h; subst h; exact ⟨rfl, fun _ _ => .bl _⟩
    · simp at h; subst h; exact ⟨⟨_, rfl⟩, fun _ _ => .int _⟩
    · simp at h; subst h; exact ⟨⟨_, rfl⟩, fun _ _ => .str _⟩
    · rename_i a ds hz
      cases hz
      split at h
      · rename_i c dd its m sl hk
        simp only [Bool.and_eq_true, decide_eq_true_eq] at h
        obtain ⟨⟨⟨rfl, h2⟩, h3⟩, h4⟩ := h
        have key : ∀ (us : List Value) (ds : List D), us.length = ds.length → ((us.zip ds).all fun p => kTupD K n p.1 p.2) = true → Vals (us.map absVD) us ∧ ∀ H ρ, DRs K H ρ (us.map absVD) ds := by
          intro us
          induction us with
          | nil =>
            intro ds hl _
            cases ds with
            | nil => exact ⟨.nil, fun _ _ => .nil⟩
            | cons _ _ => simp at hl
          | cons u us ihu =>
            intro ds hl hall
            cases ds with
            | nil => simp at hl
            | cons e es =>
              rw [List.zip_cons_cons, List.all_cons, Bool.and_eq_true] at hall
              obtain ⟨a1, a2⟩ := ih u e hall.1
              obtain ⟨b1, b2⟩ := ihu es (by simpa using hl) hall.2
              exact ⟨.cons a1 b1, fun H ρ => .cons (a2 H ρ) (b2 H ρ)⟩
        obtain ⟨k1, k2⟩ := key its.toList ds (by rw [Array.length_toList]; exact h3) h4
        exact ⟨rfl, fun H ρ => .tup (.inr ⟨_, its, m, hk, rfl, rfl, h2, k1⟩) (k2 H ρ)⟩
      · cases h
    · cases h
/-- the module's name x is the datum d -/
def globB (K : PySem.W.Frag) (x : Str) (d : D) : Bool := match PySem.W.nsIn K mainGlobals x with
  | some (some u) => kTupD K 60 u d
  | _ => false
theorem globB_ok {K : PySem.W.Frag} {h : Heap} {mg : Str → Option Value} (X : K.In h) (G : h.Ns mainGlobals mg) {x : Str} {d : D} (c : globB K x d = true) : GlobD K mg x d := by
  unfold globB at c
  split at c
  · rename_i u e
    obtain ⟨h1, h2⟩ := kTupD_ok 60 u d c
    exact ⟨absVD u, u, PySem.W.mg_of X G e, h1, h2⟩
  · cases c

/-! ### all that a body leans on -/
structure Env (P : Program) (w : World) (K : PySem.W.Frag) (mg : Str → Option Value) (base : Heap) (A : Around) (cl : Nat → Addr) (F : Nat → F1) (tf : List (Str × Nat)) (tm : List (Nat × Str × Nat × Nat)) (tk : List (Str × Nat × Nat)) (tg : List (Str × D)) (te : List Str) (ta : List (Nat × Str)) (nc : Nat) : Prop where
  room : Room 1 A
  call : ∀ (i : Nat) {x : Str} {n : Nat}, tf[i]? = some (x, n) → Fnd P w K mg base A cl x n (F i)
  meth : ∀ (i : Nat) {c : Nat} {m : Str} {n j : Nat}, tm[i]? = some (c, m, n, j) → Mtd P w K mg base A cl c m n (F j)
  make : ∀ (c : Nat) {x : Str} {n j : Nat}, tk[c]? = some (x, n, j) → Mkd P w K mg base A cl x c n (F j)
  glob : ∀ (i : Nat) {x : Str} {d : D}, tg[i]? = some (x, d) → GlobD K mg x d
  free : ∀ (i : Nat) {x : Str}, te[i]? = some x → mg x = none
  cls : ∀ (c : Nat), c < nc → Cls K (cl c)
  noat : ∀ (i : Nat) {c : Nat} {f : Str}, ta[i]? = some (c, f) → NoAttr K (cl c) f
section
variable {P : Program} {w : World} {K : PySem.W.Frag} {mg : Str → Option Value} {base : Heap} {A : Around} {cl : Nat → Addr} {F : Nat → F1} {tf : List (Str × Nat)} {tm : List (Nat × Str × Nat × Nat)} {tk : List (Str × Nat × Nat)} {tg : List (Str × D)} {te : List Str} {ta : List (Nat × Str)} {nc : Nat}
theorem Env.hu (C : Env P w K mg base A cl F tf tm tk tg te ta nc) : A.units + 64 < cLine := by have := C.room.un; omega
theorem Env.hu1 (C : Env P w K mg base A cl F tf tm tk tg te ta nc) : A.units + 65 < cLine := by have := C.room.un; omega
theorem Env.hu2 (C : Env P w K mg base A cl F tf tm tk tg te ta nc) : A.units + 150 < cLine := by have := C.room.un; omega
end
end G

set_option Elab.async false
set_option linter.all false
set_option maxRecDepth 100000
set_option maxHeartbeats 4000000
/-! Sets of nested tuples (any shapes, depth to 8, fewer than 64), and of ints, out of a list or a tuple: set(x). Own work over TabOk (HandS.TupSets) and nestedKind (KE.KeyNested). -/
namespace G
open PySem PySem.Spec L2

section
variable {P : Program} {w : World} {A : Around} {E : Value → Shared → Prop} {s : Shared}

/-! ### what the set asks of its members besides hash and == -/
/-- m leaves s and answers something that ok allows -/
def Says (P : Program) (w : World) (s : Shared) (m : Sem Bool) (ok : Bool → Prop) : Prop := ∀ (A : Around) (E : Value → Shared → Prop) (Q : Bool → Shared → Prop), (∀ b, ok b → Q b s) → wpAny (model P w) A m Q E s
theorem Says.now {b : Bool} {ok : Bool → Prop} (h : ok b) : Says P w s (pure b) ok := fun _ _ _ q => wpAny_pure (q b h)
mutual
theorem key_noClass : ∀ (k : NestedKey) (v : Value) (n : Nat), NestedIs s.heap k v → k.depth ≤ n → Says P w s (ofAClassStatement n v) (· = false)
  | .none, _, n, x, _ => by cases x; cases n <;> exact .now rfl
  | .num _, _, n, x, _ => by cases x <;> cases n <;> exact .now rfl
  | .text _, _, n, x, _ => by cases x; cases n <;> exact .now rfl
  | .tup ks, _, 0, _, hn => absurd hn (by simp [NestedKey.depth])
  | .tup ks, _, n + 1, x, hn => by
    cases x with
    | @tup a o vs m _ g1 g2 g3 g4 =>
      intro A E Q q
      have ty : s.TypeIs (.ref a) "tuple" := ⟨o, g1, g2⟩
      have all := keys_noClass ks vs.toList n g4 (by simp only [NestedKey.depth] at hn; omega)
      unfold ofAClassStatement
      refine wpAny_bind (wpAny_typeOf ty ?_)
      have ee : (("tuple" : String) == "tuple") = true := rfl
      simp only [ee, if_true, Bool.not_true, Bool.false_eq_true, if_false]
      try refine wpAny_bind (wpAny_pure ?_)
      try simp only [Bool.not_true, Bool.false_eq_true, if_false]
      show wpAny _ _ (seqItems? (.ref a) >>= _) _ _ s
      refine wpAny_bind (wpAny_seqItems g1 g3 (wpAny_bind ?_))
      show wpAny _ _ (forIn vs _ _) _ _ s
      rw [← Array.forIn_toList]
      refine wpAny_forIn_list _ (fun rest r s' => (r.1 = none ∧ s' = s) ∧ ∀ v ∈ rest, v ∈ vs.toList) _ ?_ ?_ _ _ ⟨⟨rfl, rfl⟩, fun v h => h⟩
      · rintro v rest r s' ⟨⟨hr, rfl⟩, mem⟩
        refine wpAny_bind (all v (mem v List.mem_cons_self) _ _ _ fun b hb => ?_)
        subst hb
        exact wpAny_pure ⟨⟨rfl, rfl⟩, fun u h => mem u (List.mem_cons_of_mem _ h)⟩
      · rintro ⟨r1, r2⟩ s' ⟨⟨hr, rfl⟩, _⟩
        cases hr
        exact wpAny_pure (q _ rfl)
theorem keys_noClass : ∀ (ks : List NestedKey) (vs : List Value) (n : Nat), NestedAll s.heap ks vs → NestedKey.depthAll ks ≤ n → ∀ v ∈ vs, Says P w s (ofAClassStatement n v) (· = false)
  | [], _, _, x, _, v, hv => by cases x; cases hv
  | k :: ks, _, n, x, hn, v, hv => by
    cases x with
    | cons x1 x2 =>
      simp only [NestedKey.depthAll] at hn
      rcases List.mem_cons.mp hv with e | hv
      · subst e; exact key_noClass k _ n x1 (by omega)
      · exact keys_noClass ks _ n x2 (by omega) v hv
end
mutual
theorem key_byValue : ∀ (k : NestedKey) (v : Value) (n : Nat), NestedIs s.heap k v → Says P w s (hashByValue n v) fun _ => True
  | .none, _, n, x => by cases x; cases n <;> exact .now trivial
  | .num _, _, n, x => by cases x <;> cases n <;> exact .now trivial
  | .text _, _, n, x => by cases x; cases n <;> exact .now trivial
  | .tup ks, _, 0, x => by
    cases x with
    | tup g1 g2 g3 g4 => exact .now trivial
  | .tup ks, _, n + 1, x => by
    cases x with
    | @tup a o vs m _ g1 g2 g3 g4 =>
      intro A E Q q
      have ty : s.TypeIs (.ref a) "tuple" := ⟨o, g1, g2⟩
      have all := keys_byValue ks vs.toList n g4
      unfold hashByValue
      refine wpAny_bind (wpAny_specialOf ty F.slot_tuple_hash.lookup ?_)
      show wpAny _ _ (seqItems? (.ref a) >>= _) _ _ s
      refine wpAny_bind (wpAny_seqItems g1 g3 (wpAny_bind ?_))
      show wpAny _ _ (forIn vs _ _) _ _ s
      rw [← Array.forIn_toList]
      refine wpAny_forIn_list _ (fun rest r s' => (r.1 = none ∧ s' = s) ∧ ∀ v ∈ rest, v ∈ vs.toList) _ ?_ ?_ _ _ ⟨⟨rfl, rfl⟩, fun v h => h⟩
      · rintro v rest r s' ⟨⟨hr, rfl⟩, mem⟩
        refine wpAny_bind (all v (mem v List.mem_cons_self) _ _ _ fun b _ => ?_)
        cases b with
        | true => exact wpAny_pure ⟨⟨rfl, rfl⟩, fun u h => mem u (List.mem_cons_of_mem _ h)⟩
        | false => exact wpAny_pure (wpAny_pure (q _ trivial))
      · rintro ⟨r1, r2⟩ s' ⟨⟨hr, rfl⟩, _⟩
        cases hr
        exact wpAny_pure (q _ trivial)
theorem keys_byValue : ∀ (ks : List NestedKey) (vs : List Value) (n : Nat), NestedAll s.heap ks vs → ∀ v ∈ vs, Says P w s (hashByValue n v) fun _ => True
  | [], _, _, x, v, hv => by cases x; cases hv
  | k :: ks, _, n, x, v, hv => by
    cases x with
    | cons x1 x2 =>
      rcases List.mem_cons.mp hv with e | hv
      · subst e; exact key_byValue k _ n x1
      · exact keys_byValue ks _ n x2 v hv
end

/-- the tuple at b is the key k -/
abbrev IsN (h : Heap) (k : NestedKey) (b : Addr) : Prop := NestedIs h k (.ref b) ∧ k.depth ≤ 8
theorem nk_room {A : Around} (hu : A.units + 8 < cLine) : (nestedKind P w).room A := hu
/-- looking for a key among keys shows nothing -/
theorem keys_unseen {k : NestedKey} {b : Addr} (hb : IsN s.heap k b) {ys : List Value} (hy : ∀ y ∈ ys, ∃ k' c, y = Value.ref c ∧ IsN s.heap k' c) : Says P w s (searchCouldBeSeen (.ref b) ys) (· = false) := by
  intro A E Q q
  unfold searchCouldBeSeen
  refine wpAny_bind (wpAny_forIn_list _ (fun rest r s' => (r.1 = none ∧ s' = s) ∧ ∀ y ∈ rest, y ∈ ys) _ ?_ ?_ _ _ ⟨⟨rfl, rfl⟩, fun y h => h⟩)
  · rintro v rest r s' ⟨⟨hr, rfl⟩, mem⟩
    obtain ⟨k', c, rfl, hc⟩ := hy v (mem v List.mem_cons_self)
    have tl : ∀ y ∈ rest, y ∈ ys := fun u h => mem u (List.mem_cons_of_mem _ h)
    dsimp only
    by_cases same : (b == c || (carriedByValue (.ref b) && carriedByValue (.ref c))) = true
    · exact wp_if_pos same (wpAny_pure ⟨⟨rfl, rfl⟩, tl⟩)
    · refine wp_if_neg same ?_
      refine wpAny_bind ((nestedKind P w).quiet hb (wp_if_neg (by decide) ?_))
      try refine wpAny_bind (wpAny_pure ?_)
      refine wpAny_bind ((nestedKind P w).quiet hc (wp_if_neg (by decide) ?_))
      try refine wpAny_bind (wpAny_pure ?_)
      refine wpAny_bind (key_noClass k _ 8 hb.1 hb.2 _ _ _ fun b1 e1 => ?_)
      subst e1
      refine wp_if_neg (by decide) ?_
      try refine wpAny_bind (wpAny_pure ?_)
      refine wpAny_bind (key_noClass k' _ 8 hc.1 hc.2 _ _ _ fun b2 e2 => ?_)
      subst e2
      exact wp_if_neg (by decide) (wpAny_pure ⟨⟨rfl, rfl⟩, tl⟩)
  · rintro ⟨r1, r2⟩ s' ⟨⟨hr, rfl⟩, _⟩
    cases hr
    exact wpAny_pure (q _ rfl)

/-! ### the set -/
def rowK (w : World) (p : Addr × NestedKey) : Int × Value := (p.2.hash w, .ref p.1)
def hashK (w : World) (p : Addr × NestedKey) : Int := p.2.hash w
structure NSet (w : World) (h : Heap) (a : Addr) (L : List (Addr × NestedKey)) (es : Array (Int × Value)) (ep : Nat) (t : SetTable) : Prop where
  ob : ∃ o, h.get? a = some o ∧ o.ExactSet ∧ o.data = .set es ep t
  rows : es.toList = L.map (rowK w)
  tab : TabOk t (L.map (hashK w))
  nd : (L.map (·.2)).Nodup
  key : ∀ p ∈ L, IsN h p.2 p.1
  led : w.params.followText "set-order" = true ∨ t.led = true
  room : L.length * 5 < t.mask * 3
  few : L.length < 64
variable {a : Addr} {L : List (Addr × NestedKey)} {es : Array (Int × Value)} {ep : Nat} {t : SetTable}
theorem rows_size (e : es.toList = L.map (rowK w)) : es.size = L.length := by
  rw [← Array.length_toList, e, List.length_map]
theorem rows_at (e : es.toList = L.map (rowK w)) {i : Nat} {p : Addr × NestedKey} (h : L[i]? = some p) : es[i]? = some (rowK w p) := by
  rw [← Array.getElem?_toList, e, List.getElem?_map, h] <;> rfl
theorem table_fits {n : Nat} (T : t.place.size = n) (hd : t.dummies = #[]) (hm : n ≤ t.mask) : t.fits n = true := by
  unfold SetTable.fits SetTable.fill
  rw [hd, Bool.and_eq_true, beq_iff_eq, decide_eq_true_eq]
  exact ⟨T, by show t.place.size + 0 ≤ t.mask; omega⟩
theorem NSet.fits (R : NSet w s.heap a L es ep t) : t.fits es.size = true := by
  have h1 := R.tab.sz
  have h2 := rows_size R.rows
  have h3 := R.room
  rw [List.length_map] at h1
  exact table_fits (by omega) R.tab.dm (by omega)
theorem NSet.odd (R : NSet w s.heap a L es ep t) : ¬ t.gaveWay = true := by
  unfold SetTable.gaveWay
  rw [mask_odd R.tab.mok]
  decide

/-- the c-th state of the search for hash h -/
abbrev stepK (m : Nat) (h : Int) (c : Nat) : SetTable.Probe := nth m (runAt m (SetTable.bits h % (m + 1)) (SetTable.bits h)) c
theorem stepK_dummy (m : Nat) (h : Int) (c : Nat) : (stepK m h c).dummy = none := by
  have all : ∀ (n : Nat) (p : SetTable.Probe), p.dummy = none → (nth m p n).dummy = none := by
    intro n
    induction n with
    | zero => exact fun p e => e
    | succ n ih =>
      intro p e
      refine ih _ ?_
      unfold adv
      split <;> exact e
  exact all c _ rfl
theorem stepK_add (m : Nat) (h : Int) (c q : Nat) : nth m (stepK m h c) q = stepK m h (c + q) := (nth_add m c _ q).symm

/-- the search, from the c-th step on -/
theorem nset_seek (R : NSet w s.heap a L es ep t) {x : Addr} {k : NestedKey} (hx : IsN s.heap k x) (hu : A.units + 8 < cLine) {K : Nat} (hKf : K < 10 * SetTable.turns t.mask)
    (hK : way t.mask (k.hash w) K ∉ t.place.toList) (hKb : ∀ c, c < K → way t.mask (k.hash w) c ∈ t.place.toList) {Q : SetFound → Shared → Prop}
    (yes : k ∈ L.map (·.2) → Q (.there none) s) (no : k ∉ L.map (·.2) → Q (.free (way t.mask (k.hash w) K) false) s) :
    ∀ (f c : Nat) (stand : Option SetTable.Probe), stand.getD (t.probeStart (k.hash w)) = stepK t.mask (k.hash w) c → c ≤ K → K - c < f →
      (∀ (i : Nat) p, L[i]? = some p → p.2 = k → ∃ c', c ≤ c' ∧ c' < K ∧ t.place.toList[i]? = some (way t.mask (k.hash w) c')) →
      wpAny (model P w) A (setSearchFrom a (.ref x) (k.hash w) true f stand) Q E s := by
  intro f
  induction f with
  | zero => exact fun c stand _ _ hf => absurd hf (Nat.not_lt_zero _)
  | succ f ih =>
    intro c stand hst hc hf ahead
    obtain ⟨o, ho, hex, hd⟩ := R.ob
    generalize hh : k.hash w = h at *
    rw [setSearchFrom_succ]
    refine wpAny_bind (wpAny_setState_of ho hd R.fits (wp_if_neg R.odd ?_))
    try refine wpAny_bind (wpAny_pure ?_)
    have hjs : ∀ q, (nth t.mask (stepK t.mask h c) q).j = way t.mask h (c + q) := fun q => congrArg SetTable.Probe.j (stepK_add t.mask h c q)
    have ent : ∀ (i : Nat) p, L[i]? = some p → (fun i => (es[i]?.map (·.1)).getD 0) i = p.2.hash w := fun i p hp => by
      show (es[i]?.map (·.1)).getD 0 = _
      rw [rows_at R.rows hp] <;> rfl
    have notPassed : ∀ (q : Nat), (∀ (q' i' : Nat), q' < q → t.place.toList[i']? = some (nth t.mask (stepK t.mask h c) q').j → (fun i => (es[i]?.map (·.1)).getD 0) i' ≠ h) → ∀ (i : Nat) p c', L[i]? = some p → p.2 = k → c ≤ c' → t.place.toList[i]? = some (way t.mask h c') → c + q ≤ c' := by
      intro q fresh i p c' hp hk h1 h3
      rcases Nat.lt_or_ge c' (c + q) with z | z
      · refine absurd ((ent i p hp).trans (by rw [hk, hh])) (fresh (c' - c) i (by omega) ?_)
        rw [hjs, show c + (c' - c) = c' by omega]
        exact h3
      · exact z
    rcases go_spec t R.tab.ris R.tab.dm (fun i => (es[i]?.map (·.1)).getD 0) h (10 * SetTable.turns t.mask) (K - c) _ (stepK_dummy t.mask h c) (by omega) (fun q hq => by rw [hjs]; exact hKb (c + q) (by omega)) (by rw [hjs, show c + (K - c) = K by omega]; exact hK)
      with ⟨q, i, hq, hi, _, fresh, hpr⟩ | ⟨fresh, hpr⟩
    · have hpr2 : t.probe (fun i => (es[i]?.map (·.1)).getD 0) h (stand.getD (t.probeStart h)) = some (.candidate (way t.mask h (c + q)) i (stepK t.mask h (c + (q + 1)))) := by
        rw [hst, ← hjs, ← stepK_add]
        exact hpr
      rw [hpr2]
      rw [hjs] at hi
      have hil : i < L.length := by
        have z1 := (List.getElem?_eq_some_iff.mp hi).1
        have z2 := R.tab.sz
        rw [List.length_map] at z2
        rw [Array.length_toList] at z1
        omega
      obtain ⟨p, hp⟩ : ∃ p, L[i]? = some p := ⟨_, List.getElem?_eq_getElem hil⟩
      have pm : p ∈ L := List.mem_of_getElem? hp
      have slotIs : t.slot (way t.mask h (c + q)) = .live i := slot_live R.tab.ris hi
      have main : wpAny (model P w) A (searchRest a (.ref x) h true f es t (way t.mask h (c + q)) i (stepK t.mask h (c + (q + 1)))) Q E s := by
        unfold searchRest
        rw [rows_at R.rows hp]
        dsimp only [rowK]
        refine wpAny_bind (wpAny_holding ((nestedKind P w).eqBool hu (R.key p pm) hx ?_))
        refine wpAny_bind (wpAny_setState_of ho hd R.fits ?_)
        dsimp only
        by_cases eq : p.2 = k
        · exact wp_if_pos (by simp [eq]) (wpAny_pure (yes (List.mem_map.mpr ⟨p, pm, eq⟩)))
        · refine wp_if_neg (by simp [eq]) ?_
          try refine wpAny_bind (wpAny_pure ?_)
          rw [sameMem]
          simp only [if_true, slotIs, rows_at R.rows hp, rowK]
          refine wpAny_bind (wpAny_isSame_ref_self (wpAny_bind (wpAny_pure ?_)))
          simp only [if_true]
          refine wp_if_neg (by simp [eq]) ?_
          refine ih (c + (q + 1)) _ rfl (by omega) (by omega) fun i0 p0 h0 k0 => ?_
          obtain ⟨c', a1, a2, a3⟩ := ahead i0 p0 h0 k0
          have b1 := notPassed q fresh i0 p0 c' h0 k0 a1 a3
          refine ⟨c', ?_, a2, a3⟩
          rcases Nat.lt_or_eq_of_le b1 with b2 | b2
          · omega
          · subst b2
            have s0 := slot_live R.tab.ris a3
            rw [slotIs] at s0
            injection s0 with s0
            subst s0
            rw [hp] at h0
            exact absurd ((congrArg Prod.snd (Option.some.inj h0)).trans k0) eq
      dsimp only
      by_cases hl : t.led = true
      · refine wp_if_neg (by simp [hl]) ?_
        try refine wpAny_bind (wpAny_pure ?_)
        exact main
      · refine wp_if_pos (by simp [hl]) ?_
        refine wpAny_bind (keys_unseen hx (fun y hy => ?_) _ _ _ fun b hb => ?_)
        · obtain ⟨e, he, ee⟩ := List.mem_map.mp hy
          have he1 : e ∈ es ∧ e.1 = h := by simpa using he
          have he2 : e ∈ es.toList := by simpa using he1.1
          rw [R.rows] at he2
          obtain ⟨p2, m2, e2⟩ := List.mem_map.mp he2
          exact ⟨p2.2, p2.1, by rw [← ee, ← e2] <;> rfl, R.key p2 m2⟩
        · subst hb
          refine wp_if_neg (by decide) ?_
          try refine wpAny_bind (wpAny_pure ?_)
          exact main
    · have hpr2 : t.probe (fun i => (es[i]?.map (·.1)).getD 0) h (stand.getD (t.probeStart h)) = some (.empty (way t.mask h K) none) := by
        have e2 : way t.mask h K = (nth t.mask (stepK t.mask h c) (K - c)).j := by rw [hjs, show c + (K - c) = K by omega]
        rw [hst, e2]
        exact hpr
      rw [hpr2]
      refine wpAny_pure (no fun hm => ?_)
      obtain ⟨p0, m0, k0⟩ := List.mem_map.mp hm
      obtain ⟨i0, h0⟩ := List.getElem?_of_mem m0
      obtain ⟨c', a1, a2, a3⟩ := ahead i0 p0 h0 k0
      have := notPassed (K - c) fresh i0 p0 c' h0 k0 a1 a3
      omega
theorem nset_search (R : NSet w s.heap a L es ep t) {x : Addr} {k : NestedKey} (hx : IsN s.heap k x) (hu : A.units + 8 < cLine) {Q : SetFound → Shared → Prop} (yes : k ∈ L.map (·.2) → Q (.there none) s)
    (no : ∀ K, k ∉ L.map (·.2) → way t.mask (k.hash w) K ∉ t.place.toList → (∀ c, c < K → way t.mask (k.hash w) c ∈ t.place.toList) → Q (.free (way t.mask (k.hash w) K) false) s) :
    wpAny (model P w) A (setSearch a (.ref x) (k.hash w) true) Q E s := by
  have room := R.room
  obtain ⟨K, k1, k2, k3⟩ := R.tab.first (by rw [List.length_map]; omega) (k.hash w)
  have small : K < 100000 := by
    have : 10 * SetTable.turns t.mask ≤ 1420 := by
      unfold SetTable.turns
      rcases R.tab.mok with e | e | e <;> omega
    omega
  unfold setSearch
  refine nset_seek R hx hu k1 k2 k3 yes (fun hn => no K hn k2 k3) 100000 0 none rfl (Nat.zero_le _) (by omega) fun i p hp hk => ?_
  have hi : (L.map (hashK w))[i]? = some (k.hash w) := by rw [List.getElem?_map, hp, ← hk] <;> rfl
  have hlt : i < t.place.toList.length := by
    have z := (List.getElem?_eq_some_iff.mp hi).1
    rw [← R.tab.sz] at z
    rw [Array.length_toList]
    exact z
  obtain ⟨c, c1, c2⟩ := R.tab.before k2 hi (List.getElem?_eq_getElem hlt)
  exact ⟨c, Nat.zero_le _, c1, by rw [List.getElem?_eq_getElem hlt, c2]⟩

/-- a key isn't the set, so it stays when only the set changes -/
theorem isN_but {h h' : Heap} {k : NestedKey} {a b : Addr} {o : Obj} {es : Array (Int × Value)} {ep : Nat} {t : SetTable} (x : IsN h k b) (ho : h.get? a = some o) (hd : o.data = .set es ep t) (hs : Heap.SameBut a h h') : IsN h' k b := by
  refine ⟨NestedIs.at (fun c oc vs n hc hv => (hs.2 c fun e => ?_).trans hc) k _ x.1, x.2⟩
  subst e
  rw [ho] at hc
  cases hc
  rw [hd] at hv
  cases hv
theorem isN_keep {h h' : Heap} {k : NestedKey} {b : Addr} (x : IsN h k b) (hk : ∀ c o, h.get? c = some o → h'.get? c = some o) : IsN h' k b := ⟨NestedIs.at (fun c o _ _ hc _ => hk c o hc) k _ x.1, x.2⟩

/-- the rows, put into another order -/
theorem rows_order (hr : es.toList = L.map (rowK w)) {order : Array Nat} (hp : order.toList.Perm (List.range L.length)) :
    ∃ L2 : List (Addr × NestedKey), (order.filterMap (es[·]?)).toList = L2.map (rowK w) ∧ L2.Perm L ∧ L2.map (hashK w) = order.toList.map fun i => (es.map (·.1)).getD i 0 := by
  have upto : ∀ n, n ≤ L.length → (List.range n).filterMap (fun i => L[i]?) = L.take n := by
    intro n
    induction n with
    | zero => exact fun _ => rfl
    | succ n ih =>
      intro hn
      rw [List.range_succ, List.filterMap_append, ih (Nat.le_of_lt hn), List.take_succ, List.getElem?_eq_getElem hn, List.filterMap_cons_some (List.getElem?_eq_getElem hn)] <;> rfl
  have each : ∀ l : List Nat, (∀ i ∈ l, i < L.length) → (l.filterMap fun i => es[i]?) = (l.filterMap fun i => L[i]?).map (rowK w) ∧ (l.filterMap fun i => L[i]?).map (hashK w) = l.map fun i => (es.map (·.1)).getD i 0 := by
    intro l hl
    induction l with
    | nil => exact ⟨rfl, rfl⟩
    | cons i l ih =>
      obtain ⟨e1, e2⟩ := ih fun j hj => hl j (List.mem_cons_of_mem _ hj)
      obtain ⟨p0, hi⟩ : ∃ p, L[i]? = some p := ⟨_, List.getElem?_eq_getElem (hl i List.mem_cons_self)⟩
      have he := rows_at hr hi
      have hh : (es.map (·.1)).getD i 0 = hashK w p0 := by
        have z : (es.map (·.1))[i]? = some (hashK w p0) := by rw [Array.getElem?_map, he] <;> rfl
        simp [Array.getD_eq_getD_getElem?, z]
      refine ⟨by rw [List.filterMap_cons_some he, e1, List.filterMap_cons_some hi, List.map_cons], ?_⟩
      rw [List.filterMap_cons_some hi, List.map_cons, List.map_cons, e2, hh]
  obtain ⟨e1, e2⟩ := each order.toList fun i hi => List.mem_range.mp (hp.mem_iff.mp hi)
  refine ⟨order.toList.filterMap fun i => L[i]?, by first | (rw [Array.toList_filterMap]; exact e1) | simpa using e1, ?_, e2⟩
  have z := hp.filterMap fun i => L[i]?
  rwa [upto _ (Nat.le_refl _), List.take_length] at z

/-- the table laid anew -/
theorem nset_relay {o : Obj} (ho : s.heap.get? a = some o) (hex : o.ExactSet) (hd : o.data = .set es ep t) (hr : es.toList = L.map (rowK w)) (T : t.place.size = L.length) (hdm : t.dummies = #[]) (hm : L.length ≤ t.mask)
    (nd : (L.map (·.2)).Nodup) (key : ∀ p ∈ L, IsN s.heap p.2 p.1) (ld : w.params.followText "set-order" = true ∨ t.led = true) (few : L.length < 64) {wanted M : Nat}
    (hw : SetTable.sizeAbove wanted = M + 1) (hM : MaskOk M) (hn : L.length * 5 < M * 3) {Q : Unit → Shared → Prop}
    (q : ∀ h' L' es' ep' t', Heap.SameBut a s.heap h' → NSet w h' a L' es' ep' t' → L'.Perm L → Q () { s with heap := h' }) : wpAny (model P w) A (setRelay a wanted) Q E s := by
  have sz := rows_size hr
  have hM2 : M ≤ 127 := by rcases hM with e | e | e <;> omega
  obtain ⟨t', order, e, hp, T', em, el, ep2, ed⟩ := relaid_ok t (hs := es.map (·.1)) (wanted := wanted) (M := M) (by rw [hw]; rfl) hM (by rw [Array.size_map, sz]; omega)
  rw [Array.size_map, sz] at hp
  obtain ⟨L2, r1, r2, r3⟩ := rows_order hr hp
  rw [← r3] at T'
  have sz2 : (order.filterMap (es[·]?)).size = L.length := by rw [rows_size r1, r2.length_eq]
  rw [setRelay_eq]
  refine wpAny_bind (wpAny_setState_of ho hd (by rw [sz]; exact table_fits T hdm hm) ?_)
  refine wp_if_neg (by rw [hw, sizeLine_eq]; omega) ?_
  try refine wpAny_bind (wpAny_pure ?_)
  rw [e]
  refine wpAny_bind (wp_if_neg (by rw [sz2, sz]; simp) ?_)
  try refine wpAny_bind (wpAny_pure ?_)
  refine wpAny_pure (wpAny_storeSet_of ho hd ?_ (by rw [sz2, sizeLine_eq]; omega))
  have sb : Heap.SameBut a s.heap (s.heap.update a (Obj.putSet (order.filterMap (es[·]?)) t')) := Heap.SameBut.update ..
  exact q _ L2 _ (ep + 1) t' sb ⟨⟨_, store_at ho hd, ⟨hex.1, hex.2.1, hex.2.2⟩, rfl⟩, r1, T', (r2.map (·.2)).nodup_iff.mpr nd, fun p hm2 => isN_but (key p (r2.mem_iff.mp hm2)) ho hd sb, by rw [el]; exact ld, by rw [r2.length_eq, em]; exact hn, by rw [r2.length_eq]; exact few⟩ r2

/-- one more -/
theorem nset_add (R : NSet w s.heap a L es ep t) {x : Addr} {k : NestedKey} (hx : IsN s.heap k x) (hu : A.units + 8 < cLine) (hfew : L.length + 1 < 64) {Q : Bool → Shared → Prop}
    (q : ∀ b h' L' es' ep' t', Heap.SameBut a s.heap h' → NSet w h' a L' es' ep' t' → (k ∈ L.map (·.2) → L' = L) → (k ∉ L.map (·.2) → L'.Perm ((x, k) :: L)) → Q b { s with heap := h' }) :
    wpAny (model P w) A (setAddHashed a (.ref x) (k.hash w)) Q E s := by
  obtain ⟨o, ho, hex, hd⟩ := R.ob
  have sz := rows_size R.rows
  have room := R.room
  unfold setAddHashed
  refine wpAny_holding ?_
  rw [show (100000 : Nat) = 99999 + 1 from rfl, setAddHashedIn_succ]
  refine wpAny_bind (wpAny_setState_of ho hd R.fits (wp_if_neg (by simp [byScan, Value.scannable]) ?_))
  try refine wpAny_bind (wpAny_pure ?_)
  refine wpAny_bind (nset_search R hx hu (fun hm => ?_) fun K hm hK hb => ?_)
  · exact wpAny_pure (q false s.heap L es ep t (Heap.SameBut.refl a s.heap) R (fun _ => rfl) fun z => absurd hm z)
  · dsimp only
    refine wpAny_bind (wpAny_setState_of ho hd R.fits ?_)
    dsimp only
    obtain ⟨q1, q2, q3, q4, q5, q6, q7, q8, q9⟩ := R.tab.put hK hb
    generalize hpt : t.put (way t.mask (k.hash w) K) = pt at q1 q3 q4 q5 q6 q7 q8 q9 ⊢
    obtain ⟨t1, p⟩ := pt
    dsimp only at q1 q3 q4 q5 q6 q7 q8 q9 ⊢
    subst q1
    have fin : ∀ t2 : SetTable, (∀ hs, TabOk t1 hs → TabOk t2 hs) → t2.mask = t1.mask → t2.led = t1.led → t2.tooFull = t1.tooFull → t2.fill = t1.fill → t2.place = t1.place → t2.dummies = t1.dummies →
        wpAny (model P w) A (do
          storeSet a (SetTable.insertAt es (SetTable.below t.place (way t.mask (k.hash w) K)) (k.hash w, .ref x)) t2
          if !false && t2.tooFull then setRelay a (SetTable.grown (es.size + 1))
          return true) Q E s := by
      intro t2 c1 c2 c3 c4 c5 c6 c7
      have rows1 : (SetTable.insertAt es (SetTable.below t.place (way t.mask (k.hash w) K)) (k.hash w, Value.ref x)).toList = (L.take (SetTable.below t.place (way t.mask (k.hash w) K)) ++ (x, k) :: L.drop (SetTable.below t.place (way t.mask (k.hash w) K))).map (rowK w) := by
        rw [SetTable.toList_insertAt, R.rows, List.map_append, List.map_cons, List.map_take, List.map_drop] <;> rfl
      have T2 := c1 _ q3
      generalize hpp : SetTable.below t.place (way t.mask (k.hash w) K) = p at q2 T2 rows1 ⊢
      have pm := put_perm L p (x, k)
      have he : (L.map (hashK w)).take p ++ k.hash w :: (L.map (hashK w)).drop p = (L.take p ++ (x, k) :: L.drop p).map (hashK w) := by
        rw [List.map_append, List.map_cons, List.map_take, List.map_drop] <;> rfl
      rw [he] at T2
      have len1 : (L.take p ++ (x, k) :: L.drop p).length = L.length + 1 := pm.length_eq
      have sz1 := rows_size rows1
      generalize SetTable.insertAt es p (k.hash w, Value.ref x) = es1 at rows1 sz1 ⊢
      generalize L.take p ++ (x, k) :: L.drop p = L1 at pm len1 T2 rows1 sz1
      have nd1 : (L1.map (·.2)).Nodup := by
        refine (pm.map (·.2)).nodup_iff.mpr ?_
        rw [List.map_cons]
        exact List.nodup_cons.mpr ⟨hm, R.nd⟩
      refine wpAny_bind (wpAny_storeSet_of ho hd ?_ (by rw [sz1, len1, sizeLine_eq]; omega))
      have sb : Heap.SameBut a s.heap (s.heap.update a (Obj.putSet es1 t2)) := Heap.SameBut.update ..
      have ho1 := store_at (es' := es1) (t' := t2) ho hd
      generalize s.heap.update a (Obj.putSet es1 t2) = h1 at sb ho1 ⊢
      have key1 : ∀ p ∈ L1, IsN h1 p.2 p.1 := fun p hp => by
        rcases List.mem_cons.mp (pm.mem_iff.mp hp) with e | hp
        · subst e; exact isN_but hx ho hd sb
        · exact isN_but (R.key p hp) ho hd sb
      have ld1 : w.params.followText "set-order" = true ∨ t2.led = true := by rw [c3, q5]; exact R.led
      have full_iff : t2.tooFull = decide ((L.length + 1) * 5 ≥ t2.mask * 3) := by
        unfold SetTable.tooFull
        rw [c5, q9, List.length_map]
      by_cases hf : t2.tooFull = true
      · have big : (L.length + 1) * 5 ≥ t.mask * 3 := by
          rw [full_iff, decide_eq_true_eq, c2, q4] at hf
          exact hf
        rw [sz]
        have go : ∀ M, SetTable.sizeAbove (SetTable.grown (L.length + 1)) = M + 1 → MaskOk M → (L.length + 1) * 5 < M * 3 → L1.length ≤ t2.mask →
            wpAny (model P w) A (setRelay a (SetTable.grown (L.length + 1))) (fun _ s' => wpAny (model P w) A (pure true) Q E s') E { s with heap := h1 } := fun M e1 e2 e3 e4 =>
          nset_relay (s := { s with heap := h1 }) ho1 ⟨hex.1, hex.2.1, hex.2.2⟩ rfl rows1 (by have := T2.sz; rwa [List.length_map] at this) T2.dm e4 nd1 key1 ld1 (by omega) e1 e2 (by rw [len1]; exact e3)
            fun h2 L2 es2 ep2 t3 sb2 R2 pm2 => wpAny_pure (q true h2 L2 es2 ep2 t3 (sb.trans sb2) R2 (fun z => absurd z hm) fun _ => pm2.trans pm)
        have two : (t.mask = 7 ∧ L.length = 4) ∨ (t.mask = 31 ∧ L.length = 18) := by
          rcases R.tab.mok with e | e | e
          · left; exact ⟨e, by omega⟩
          · right; exact ⟨e, by omega⟩
          · omega
        have run : wpAny (model P w) A (setRelay a (SetTable.grown (L.length + 1))) (fun _ s' => wpAny (model P w) A (pure true) Q E s') E { s with heap := h1 } := by
          rcases two with ⟨e1, e2⟩ | ⟨e1, e2⟩
          · exact go 31 (by rw [e2]; exact size_20) (.inr (.inl rfl)) (by omega) (by rw [len1, c2, q4]; omega)
          · exact go 127 (by rw [e2]; exact size_76) (.inr (.inr rfl)) (by omega) (by rw [len1, c2, q4]; omega)
        first
          | exact wpAny_bind (wp_if_pos (by simp [hf]) run)
          | exact wp_if_pos (by simp [hf]) (wpAny_bind run)
      · have sp : L1.length * 5 < t2.mask * 3 := by
          rw [full_iff, decide_eq_true_eq] at hf
          omega
        have last : wpAny (model P w) A (pure true) Q E { s with heap := h1 } := wpAny_pure (q true h1 L1 es1 (ep + 1) t2 sb ⟨⟨_, ho1, ⟨hex.1, hex.2.1, hex.2.2⟩, rfl⟩, rows1, T2, nd1, key1, ld1, sp, by omega⟩ (fun z => absurd z hm) fun _ => pm)
        first
          | exact wp_if_neg (by simp [hf]) last
          | exact wpAny_bind (wp_if_neg (by simp [hf]) (wpAny_pure last))
    have asIs := fin t1 (fun _ T => T) rfl rfl rfl rfl rfl rfl
    have notPlain := fin { t1 with plain := false } (fun _ T => ⟨T.ris, T.dm, T.sz, T.mok, T.bd, T.reach⟩) rfl rfl rfl rfl rfl rfl
    by_cases pl : t1.plain = true
    · refine wp_if_pos pl (wpAny_bind (key_byValue k _ 8 hx.1 _ _ _ fun b _ => ?_))
      cases b with
      | true => exact asIs
      | false => exact notPlain
    · exact wp_if_neg pl asIs

/-! ### the loop of set(x) -/
/-- L: the first i of ks, each key once -/
def Has (ks : List (Addr × NestedKey)) (i : Nat) (L : List (Addr × NestedKey)) : Prop := (∀ p ∈ L, p ∈ ks.take i) ∧ (∀ p ∈ ks.take i, p.2 ∈ L.map (·.2)) ∧ L.length ≤ i
theorem Has.next {ks L L' : List (Addr × NestedKey)} {i : Nat} {x : Addr × NestedKey} (g : Has ks i L) (h : ks[i]? = some x) (c : (x.2 ∈ L.map (·.2) ∧ L' = L) ∨ L'.Perm (x :: L)) : Has ks (i + 1) L' := by
  have tk : ks.take (i + 1) = ks.take i ++ [x] := by rw [List.take_succ, h] <;> rfl
  obtain ⟨g1, g2, g3⟩ := g
  unfold Has
  rw [tk]
  rcases c with ⟨c, rfl⟩ | c
  · refine ⟨fun p hp => List.mem_append_left _ (g1 p hp), fun p hp => ?_, by omega⟩
    rcases List.mem_append.mp hp with z | z
    · exact g2 p z
    · rw [List.mem_singleton.mp z]; exact c
  · refine ⟨fun p hp => ?_, fun p hp => (c.map (·.2)).mem_iff.mpr ?_, by rw [c.length_eq]; exact Nat.succ_le_succ g3⟩
    · rcases List.mem_cons.mp (c.mem_iff.mp hp) with z | z
      · rw [z]; exact List.mem_append_right _ (List.mem_singleton.mpr rfl)
      · exact List.mem_append_left _ (g1 p z)
    · rcases List.mem_append.mp hp with z | z
      · exact List.mem_cons_of_mem _ (g2 p z)
      · rw [List.mem_singleton.mp z]; exact List.mem_cons_self
theorem NSet.moved {h h' : Heap} {a : Addr} {L : List (Addr × NestedKey)} {es : Array (Int × Value)} {ep : Nat} {t : SetTable} (R : NSet w h a L es ep t) (ha : ∀ o, h.get? a = some o → h'.get? a = some o) (key : ∀ p ∈ L, IsN h' p.2 p.1) : NSet w h' a L es ep t :=
  have ⟨o, ho, r⟩ := R.ob
  ⟨⟨o, ha o ho, r⟩, R.rows, R.tab, R.nd, key, R.led, R.room, R.few⟩
/-- the object of a new set -/
def freshSet (w : World) : Obj := { cls := .type "set", dict := none, data := .set #[] 0 (.fresh 0 0 (!w.params.followText "set-order")) }
theorem nset_fresh {h : Heap} {a : Addr} (ho : h.get? a = some (freshSet w)) : NSet w h a [] #[] 0 (.fresh 0 0 (!w.params.followText "set-order")) :=
  { ob := ⟨_, ho, ⟨rfl, rfl, rfl⟩, rfl⟩
    rows := rfl
    tab := { ris := List.Pairwise.nil, dm := rfl, sz := rfl, mok := .inl rfl, bd := fun x hx => (by cases hx), reach := fun i h j hi => (by simp at hi) }
    nd := List.nodup_nil
    key := fun p hp => (by cases hp)
    led := by
      show _ ∨ (!w.params.followText "set-order") = true
      cases w.params.followText "set-order"
      · exact .inr rfl
      · exact .inl rfl
    room := by show 0 * 5 < 7 * 3; decide
    few := by show 0 < 64; decide }
theorem nset_loop {I : Addr} {fp wr : List Addr} {n : Nat} {Pv : Nat → Value → Prop} {St : Nat → Shared → Prop} {R : Result → Shared → Prop} (W : WalksS P w A.in1 I fp wr (fun a b => b = a) n Pv St) (S : Addr) (hSf : S ∉ fp) (ks : List (Addr × NestedKey)) (hn : ks.length = n) (few : n < 64)
    (val : ∀ i v, Pv i v → ∃ p, ks[i]? = some p ∧ v = .ref p.1) (h0 : Heap) (hk : ∀ p ∈ ks, IsN h0 p.2 p.1) (away : ∀ b ∈ S :: wr, h0.get? b = none) (hu : A.in1.units + 8 < cLine) :
    ∀ (m i : Nat) (s : Shared), i + m = n → St i s → (∀ b o, h0.get? b = some o → s.heap.get? b = some o) → (∃ L es ep t, NSet w s.heap S L es ep t ∧ Has ks i L) →
      (∀ s', Moved (S :: wr) (fun a b => b = a) s s' → (∃ L es ep t, NSet w s'.heap S L es ep t ∧ Has ks n L) → R (.ok (.ret .none)) s') →
      codeAny (model P w) A (.builtin "set.update.loop" ⟨[.ref S, .ref I], []⟩) R s := by
  have Sw : S ∉ wr := fun h => hSf (W.sub _ h)
  have wider : ∀ b ∈ wr, b ∈ S :: wr := fun b hb => List.mem_cons_of_mem _ hb
  have stay : ∀ {s s' : Shared}, Moved wr (fun a b => b = a) s s' → (∀ b o, h0.get? b = some o → s.heap.get? b = some o) → ∀ b o, h0.get? b = some o → s'.heap.get? b = some o := fun hm k b o e => by
    refine hm.heap b o (fun hb => ?_) (k b o e)
    rw [away b (wider b hb)] at e
    cases e
  intro m
  induction m with
  | zero =>
    intro i s hi hst keep ⟨L, es, ep, t, hS, g⟩ fin
    obtain rfl : i = n := by omega
    refine codeAny_builtin PyProof.Rows.F.entry_set_update_loop ?_
    rw [Around.under_plainId PyProof.Rows.F.plain_set_update_loop _]
    show wpAny _ A.in1 (pyNext (.ref I) >>= _) _ _ s
    refine wpAny_bind (W.done s _ _ hst fun s' hm => ?_)
    have keep' := stay hm keep
    exact wpAny_pure (fin s' (hm.mono wider) ⟨L, es, ep, t, hS.moved (fun o e => hm.heap S o Sw e) fun p hp => isN_keep (hk p (List.mem_of_mem_take (g.1 p hp))) keep', g⟩)
  | succ m ih =>
    intro i s hi hst keep ⟨L, es, ep, t, hS, g⟩ fin
    refine codeAny_builtin PyProof.Rows.F.entry_set_update_loop ?_
    rw [Around.under_plainId PyProof.Rows.F.plain_set_update_loop _]
    show wpAny _ A.in1 (pyNext (.ref I) >>= _) _ _ s
    refine wpAny_bind (W.item i s _ _ (by omega) hst fun v s' hP hst' hm => ?_)
    obtain ⟨p, hp, rfl⟩ := val i v hP
    have keep' := stay hm keep
    have hx : IsN s'.heap p.2 p.1 := isN_keep (hk p (List.mem_of_getElem? hp)) keep'
    show wpAny _ A.in1 (holding [Value.ref p.1] (setAdd S (.ref p.1)) >>= _) _ _ s'
    refine wpAny_bind (wpAny_holding ?_)
    unfold setAdd
    refine wpAny_holding (wpAny_bind ((nestedKind P w).pyHash hu hx ?_))
    have R' : NSet w s'.heap S L es ep t := hS.moved (fun o e => hm.heap S o Sw e) fun q hq => isN_keep (hk q (List.mem_of_mem_take (g.1 q hq))) keep'
    refine nset_add (s := { s' with toks := s'.toks + (nestedKind P w).draws p.2 }) R' hx hu (by have := g.2.2; omega) fun b h' L' es' ep' t' sb R2 c1 c2 => ?_
    have g' : Has ks (i + 1) L' := g.next hp (by
      rcases Classical.em (p.2 ∈ L.map (·.2)) with c | c
      · exact .inl ⟨c, c1 c⟩
      · exact .inr (c2 c))
    refine wpAny_pure ⟨plainId_quiet PyProof.Rows.F.plain_set_update_loop _, ih (i + 1) _ (by omega) (W.frame _ s' _ _ hst' (Nat.le_add_right _ _) fun b hb o e => ?_) (fun b o e => (sb.2 b fun z => ?_).trans (keep' b o e)) ⟨L', es', ep', t', R2, g'⟩ fun s2 hm2 R3 => ?_⟩
    · rw [sb.2 b fun z => hSf (by rw [← z]; exact hb)]
      exact e
    · rw [z, away S List.mem_cons_self] at e
      cases e
    · refine fin s2 (Moved.trans W.gtrans ((hm.mono wider).then_heap (Nat.le_add_right _ _) fun b o hb e => ?_) hm2) R3
      rw [sb.2 b fun z => hb (by rw [z]; exact List.mem_cons_self)]
      exact e
end
end G

set_option Elab.async false
set_option linter.all false
set_option maxRecDepth 100000
set_option maxHeartbeats 4000000
/-! set(x) of a list or a tuple. -/
namespace G
open PySem PySem.Spec L2

section
variable {P : Program} {w : World} {A : Around} {E : Value → Shared → Prop} {s : Shared}
/-- the thing at l is walked through its items -/
structure Walked (P : Program) (w : World) (h : Heap) (l : Addr) (items : Array Value) : Prop where
  cls : ∃ (c : String) (o : Obj), h.get? l = some o ∧ o.cls = .type c ∧ (isSubtype (.type c) (.type "set") = pure false ∧ isSubtype (.type c) (.type "frozenset") = pure false) ∧ (Value.type c == Value.type "dict") = false
  it : ∀ (A : Around) (s1 : Shared) (E : Value → Shared → Prop) (Q : Value → Shared → Prop), A.handled = none → (∀ o, h.get? l = some o → s1.heap.get? l = some o) →
    (∀ (io : Obj) (Pv : Nat → Value → Prop) (St : Nat → Heap → Prop), (∀ A' : Around, A'.handled = none → Walks P w A' s1.heap.objs.size [s1.heap.objs.size, l] [s1.heap.objs.size] items.size Pv St) → (∀ i v, Pv i v → items[i]? = some v) →
      St 0 (s1.heap.push io) → Q (.ref s1.heap.objs.size) { s1 with heap := s1.heap.push io }) → wpAny (model P w) A (pyIter (.ref l)) Q E s1
theorem Walked.list {h : Heap} {l : Addr} {items : Array Value} (hl : h.IsList l items) : Walked P w h l items := by
  obtain ⟨o, ho, hc, n, hd⟩ := hl
  refine ⟨⟨"list", o, ho, hc, ⟨F.sub_list_set, F.sub_list_frozenset⟩, by decide⟩, fun A s1 E Q hh k q => ?_⟩
  have h1 : s1.heap.IsList l items := ⟨o, k o ho, hc, n, hd⟩
  refine wpAny_pyIter_list h1 (q _ _ _ (fun A' hA' => Walks.list hA' _ l (Nat.ne_of_lt (Heap.lt_size (k o ho))) items) (fun i v e => e) ⟨⟨_, Heap.get?_push_size _ rfl, rfl, rfl⟩, h1.push _⟩)
theorem Walked.tuple {h : Heap} {l : Addr} {items : Array Value} (hl : h.IsTuple l items) : Walked P w h l items := by
  obtain ⟨o, ho, hc, n, hd⟩ := hl
  refine ⟨⟨"tuple", o, ho, hc, ⟨F.sub_tuple_set, F.sub_tuple_frozenset⟩, by decide⟩, fun A s1 E Q hh k q => ?_⟩
  have h1 : s1.heap.IsTuple l items := ⟨o, k o ho, hc, n, hd⟩
  refine wpAny_pyIter_tuple h1 (q _ _ _ (fun A' hA' => Walks.tuple hA' _ l (Nat.ne_of_lt (Heap.lt_size (k o ho))) items) (fun i v e => e) ⟨⟨_, Heap.get?_push_size _ rfl, rfl, rfl⟩, h1.push _⟩)

/-- what the loop of set(x) brings about, Post of the heap -/
structure Fills (P : Program) (w : World) (h : Heap) (n : Nat) (A : Around) (items : Array Value) (Post : Heap → Prop) : Prop where
  run : ∀ {I l : Addr} {Pv : Nat → Value → Prop} {St : Nat → Heap → Prop} {s1 : Shared} {R : Result → Shared → Prop}, Walks P w A.in1 I [I, l] [I] items.size Pv St → (∀ i v, Pv i v → items[i]? = some v) → St 0 s1.heap → l < n → I = n + 1 →
    s1.heap.get? n = some (freshSet w) → (∀ b o, h.get? b = some o → s1.heap.get? b = some o) →
    (∀ s', Moved [n, I] (fun a b => b = a) s1 s' → Post s'.heap → R (.ok (.ret .none)) s') → codeAny (model P w) A (.builtin "set.update.loop" ⟨[.ref n, .ref I], []⟩) R s1

set_option maxHeartbeats 8000000 in
/-- set(x) -/
theorem set_of_walked {l : Addr} {items : Array Value} {Q : Value → Shared → Prop} {Post : Heap → Prop} (hh : A.handled = none) (W : Walked P w s.heap l items) (fill : Fills P w s.heap s.heap.objs.size A.in1.in1 items Post)
    (q : ∀ (h' : Heap) (tk : Nat), Post h' → (∀ b o, s.heap.get? b = some o → h'.get? b = some o) → Q (.ref s.heap.objs.size) { s with heap := h', toks := tk }) : wpAny (model P w) A (call (.type "set") [.ref l]) Q E s := by
  obtain ⟨c0, tl, hmro⟩ := F.called_set.mro
  have hmade := F.called_set.made
  have hsub := F.called_set.sub
  refine wpAny_call (codeAny_of_tree ?_)
  show wpAny _ _ (callAny (.type "set") _) _ _ _
  refine wpAny_pure ⟨Code.quiet_builtin _ (by decide +kernel), codeAny_builtin F.entry_type_call ?_⟩
  rw [Around.under_plain (weight_type_call_type "set" [.ref l] []) rfl]
  have k1 := F.called_set.notType
  have k2 := F.called_set.canCreate
  have k3 := F.typeCall_set_1 (.ref l)
  repeat (any_goals (first | assumption | wp_step))

  refine codeAny_mono (code_set_led1 (.ref l) (E := E) (Q₁ := fun v s1 => v = .ref s.heap.objs.size ∧ s1 = { s with heap := s.heap.push (freshSet w) }) ⟨rfl, rfl⟩) fun r s1 hr => ?_
  cases r with
  | error e => exact hr
  | ok fl =>
    cases fl with
    | ret v =>
      obtain ⟨rfl, rfl⟩ := hr
      have hS : (s.heap.push (freshSet w)).get? s.heap.objs.size = some (freshSet w) := Heap.get?_push_size _ rfl
      have ty : Shared.TypeIs { s with heap := s.heap.push (freshSet w) } (.ref s.heap.objs.size) "set" := ⟨_, hS, rfl⟩
      have m1 := F.called_set.init.lookup
      have m2 := F.called_set.init.bind (.ref s.heap.objs.size)
      repeat (any_goals (first | assumption | wp_step))
      refine codeAny_mono (codeAny_call_builtin (R := wants (fun r s2 => r = .none ∧ ∃ h' tk, s2 = { s with heap := h', toks := tk } ∧ Post h' ∧ ∀ b o, s.heap.get? b = some o → h'.get? b = some o) E) F.called_set.init.plain F.entry_set_init (check_set_init_1 ty ?_)) fun r2 s2 hr2 => ?_
      · obtain ⟨c, ol, ol1, ol2, ⟨ol3, ol4⟩, ol5⟩ := W.cls
        obtain ⟨ocls, odict, odata, oslots⟩ := ol
        obtain rfl : ocls = .type c := ol2
        have ol1' : (s.heap.push (freshSet w)).get? l = some { cls := .type c, dict := odict, data := odata, slots := oslots } := Heap.get?_push_of_some _ ol1
        have lt : l < s.heap.objs.size := Heap.lt_size ol1
        unfold Builtin.«set.__init__» noKeywords Builtin.Frozenset.updateFrom
        generalize hPI : pyIter = PI
        wp_walk
        subst hPI
        refine W.it A.in1.in1 _ _ _ (by simp [hh]) (fun o e => Heap.get?_push_of_some _ e) fun io Pv St wk val st0 => ?_
        have sz : (s.heap.push (freshSet w)).objs.size = s.heap.objs.size + 1 := Heap.size_push ..
        refine wpAny_bind (wpAny_runValue (fill.run (wk A.in1.in1.in1 (by simp [hh])) val st0 lt sz (Heap.get?_push_of_some _ hS) (fun b o e => Heap.get?_push_of_some _ (Heap.get?_push_of_some _ e)) fun s' hm hp => ?_))
        obtain ⟨h', g2, d', tk', os'⟩ := s'
        have e1 : g2 = s.gens := hm.gens
        have e2 : d' = s.drawn := hm.drawn
        have e3 : os' = s.os := hm.os
        subst e1 e2 e3
        refine wpAny_pure ?_
        show wpAny _ _ (ret Value.none) _ _ _
        refine wpAny_pure ⟨rfl, h', tk', rfl, hp, fun b o e => hm.heap b o (fun z => ?_) (Heap.get?_push_of_some _ (Heap.get?_push_of_some _ e))⟩
        have lb : b < s.heap.objs.size := Heap.lt_size e
        rcases List.mem_cons.mp z with z | z
        · exact absurd lb (by rw [z]; exact Nat.lt_irrefl _)
        · have z3 : b = s.heap.objs.size + 1 := (List.mem_singleton.mp z).trans sz
          exact absurd lb (by rw [z3]; exact Nat.not_lt.mpr (Nat.le_succ _))
      · cases r2 with
        | error e => exact hr2
        | ok fl2 =>
          cases fl2 with
          | ret r =>
            obtain ⟨rfl, h', tk, rfl, p1, p2⟩ := hr2
            repeat (any_goals (first | assumption | wp_step))
            exact q _ _ p1 p2
          | _ => exact hr2.elim
    | _ => exact hr.elim

theorem fills_keys {h : Heap} {n : Nat} {items : Array Value} (hn : n = h.objs.size) (ks : List (Addr × NestedKey)) (hi : items.toList = ks.map fun p => Value.ref p.1) (few : ks.length < 64) (hk : ∀ p ∈ ks, IsN h p.2 p.1) (hu : A.in1.units + 8 < cLine) :
    Fills P w h n A items fun h' => ∃ L es ep t, NSet w h' n L es ep t ∧ Has ks ks.length L := by
  constructor
  intro I l Pv St s1 R W val st0 hl hI hS keep fin
  subst hn
  have sz : items.size = ks.length := by rw [← Array.length_toList, hi, List.length_map]
  have none : ∀ b, h.objs.size ≤ b → h.get? b = none := fun b hb => by
    cases e : h.get? b with
    | none => rfl
    | some o => exact absurd (Heap.lt_size e) (Nat.not_lt.mpr hb)
  rw [sz] at W
  refine nset_loop W.toS h.objs.size (fun hm => ?_) ks rfl few (fun i v hv => ?_) h hk (fun b hb => none b ?_) hu ks.length 0 s1 (by omega) st0 keep ⟨[], #[], 0, _, nset_fresh hS, fun p hp => (by cases hp), fun p hp => (by simp at hp), Nat.le_refl _⟩ fun s' hm ⟨L, es, ep, t, a1, a2⟩ => fin s' hm ⟨L, es, ep, t, a1, a2⟩
  · rcases List.mem_cons.mp hm with e | e
    · exact absurd (e.trans hI) (Nat.ne_of_lt (Nat.lt_succ_self _))
    · exact absurd hl (by rw [← List.mem_singleton.mp e]; exact Nat.lt_irrefl _)
  · have e : items.toList[i]? = some v := by rw [Array.getElem?_toList]; exact val i v hv
    rw [hi, List.getElem?_map] at e
    obtain ⟨p, hp, e⟩ := Option.map_eq_some_iff.mp e
    exact ⟨p, hp, e.symm⟩
  · rcases List.mem_cons.mp hb with e | e
    · exact Nat.le_of_eq e.symm
    · rw [List.mem_singleton.mp e, hI]; exact Nat.le_succ _
theorem fills_ints {h : Heap} {n : Nat} {items : Array Value} (ns : List Int) (hi : PyProof.Rows.IntsAre items.toList ns) (hb : ns.length + 1 < scanBound) :
    Fills P w h n A items fun h' => ∃ c, c ≤ ns.length ∧ SetR w h' n (fun j => decide (j ∈ ns)) c := by
  constructor
  intro I l Pv St s1 R W val st0 hl hI hS keep fin
  have sz : items.size = ns.length := by
    have z := PyProof.Rows.IntsAre.length hi
    rwa [Array.length_toList] at z
  refine set_update_ints W.toS n (fun hm => ?_) ns sz hb (fun i v hv => ?_) (items.size - 0) 0 s1 (by omega) (Nat.zero_le _) st0 ⟨0, Nat.le_refl 0, setR_new_at hS⟩ fun s' c hm hc R2 => fin s' hm ⟨c, by omega, R2⟩
  · rcases List.mem_cons.mp hm with e | e
    · exact absurd (e.trans hI) (Nat.ne_of_lt (Nat.lt_succ_self _))
    · exact absurd hl (by rw [← List.mem_singleton.mp e]; exact Nat.lt_irrefl _)
  · have hi2 : i < ns.length := by rw [← sz]; exact (Array.getElem?_eq_some_iff.mp (val i v hv)).1
    obtain ⟨t, e⟩ := PyProof.Rows.IntsAre.int_at hi i v (by rw [Array.getElem?_toList]; exact val i v hv)
    refine ⟨ns[i], t, List.getElem?_eq_getElem hi2, ?_⟩
    rw [e, List.getD_eq_getElem?_getD, List.getElem?_eq_getElem hi2] <;> rfl
end
end G

set_option Elab.async false
set_option linter.all false
set_option maxRecDepth 100000
set_option maxHeartbeats 4000000
/-! The order of nested data (ints, texts, tuples of any shapes): compared up to the first place that differs. -/
namespace G
open PySem PySem.Spec

open PyProof.Rows (lexLt itemOrd itemLt lex_self lex_diff lex_cons lex_irrefl)
open PySem.W (lex_atom lex_pre lex_one str_of_cps)

/-! ### a key as a row of signs -/
mutual
def toks : NestedKey → List (Int ⊕ List Nat)
  | .none => [.inl 0]
  | .num i => [.inl 1, .inl i]
  | .text x => [.inl 2, .inr x.cps.toList]
  | .tup ks => .inl 3 :: toksAll ks
def toksAll : List NestedKey → List (Int ⊕ List Nat)
  | [] => [.inl 0]
  | k :: ks => .inl 1 :: (toks k ++ toksAll ks)
end
def klt (x y : NestedKey) : Bool := lexLt itemOrd (toks x) (toks y)
def kltAll (x y : List NestedKey) : Bool := lexLt itemOrd (toksAll x) (toksAll y)
theorem lex_two {p q : Int ⊕ List Nat} (h : p ≠ q) (a b c d : List (Int ⊕ List Nat)) : lexLt itemOrd (p :: a) (q :: b) = lexLt itemOrd (p :: c) (q :: d) := (lex_diff (O := itemOrd) h).trans (lex_diff (O := itemOrd) h).symm
theorem lex_in {p : Int ⊕ List Nat} {a b c d : List (Int ⊕ List Nat)} (h : lexLt itemOrd a b = lexLt itemOrd c d) : lexLt itemOrd (p :: a) (p :: b) = lexLt itemOrd (p :: c) (p :: d) := (lex_self (O := itemOrd) _ _ _).trans (h.trans (lex_self (O := itemOrd) _ _ _).symm)
mutual
theorem toks_apart : ∀ (x y : NestedKey), NestedKey.beq x y = false → ∀ l m, lexLt itemOrd (toks x ++ l) (toks y ++ m) = lexLt itemOrd (toks x) (toks y)
  | .none, .none, h, _, _ => absurd h (by simp [NestedKey.beq])
  | .none, .num _, _, _, _ | .none, .text _, _, _, _ | .none, .tup _, _, _, _ => lex_two (by simp) _ _ _ _
  | .num _, .none, _, _, _ | .num _, .text _, _, _, _ | .num _, .tup _, _, _, _ => lex_two (by simp) _ _ _ _
  | .text _, .none, _, _, _ | .text _, .num _, _, _, _ | .text _, .tup _, _, _, _ => lex_two (by simp) _ _ _ _
  | .tup _, .none, _, _, _ | .tup _, .num _, _, _, _ | .tup _, .text _, _, _, _ => lex_two (by simp) _ _ _ _
  | .num a, .num b, h, l, m => by
    have ne : (Sum.inl a : Int ⊕ List Nat) ≠ .inl b := fun e => by rw [Sum.inl.inj e] at h; simp [NestedKey.beq] at h
    exact lex_in (lex_two ne _ _ _ _)
  | .text a, .text b, h, l, m => by
    have ne : (Sum.inr a.cps.toList : Int ⊕ List Nat) ≠ .inr b.cps.toList := fun e => by
      rw [str_of_cps (Sum.inr.inj e)] at h
      simp [NestedKey.beq] at h
    exact lex_in (lex_two ne _ _ _ _)
  | .tup xs, .tup ys, h, l, m => by
    rw [NestedKey.beq] at h
    simp only [toks, List.cons_append]
    exact lex_in (toksAll_apart xs ys h l m)
theorem toksAll_apart : ∀ (xs ys : List NestedKey), NestedKey.beqAll xs ys = false → ∀ l m, lexLt itemOrd (toksAll xs ++ l) (toksAll ys ++ m) = lexLt itemOrd (toksAll xs) (toksAll ys)
  | [], [], h, _, _ => absurd h (by simp [NestedKey.beqAll])
  | [], _ :: _, _, _, _ => by simp only [toksAll, List.cons_append]; exact lex_two (by simp) _ _ _ _
  | _ :: _, [], _, _, _ => by simp only [toksAll, List.cons_append]; exact lex_two (by simp) _ _ _ _
  | x :: xs, y :: ys, h, l, m => by
    rw [NestedKey.beqAll] at h
    simp only [toksAll, List.cons_append, List.append_assoc]
    refine lex_in ?_
    cases hx : NestedKey.beq x y with
    | false => exact (toks_apart x y hx _ _).trans (toks_apart x y hx _ _).symm
    | true =>
      rw [hx, Bool.true_and] at h
      rw [NestedKey.eq_of_beq x y hx]
      exact (lex_pre _ _ _).trans ((toksAll_apart xs ys h l m).trans (lex_pre _ _ _).symm)
end
theorem klt_tup (xs ys : List NestedKey) : klt (.tup xs) (.tup ys) = kltAll xs ys := by
  unfold klt kltAll
  simp only [toks]
  exact lex_self (O := itemOrd) _ _ _
theorem kltAll_cons (x y : NestedKey) (xs ys : List NestedKey) : kltAll (x :: xs) (y :: ys) = if NestedKey.beq x y = true then kltAll xs ys else klt x y := by
  unfold kltAll klt
  simp only [toksAll]
  rw [lex_self (O := itemOrd)]
  cases h : NestedKey.beq x y with
  | true => rw [if_pos rfl, NestedKey.eq_of_beq x y h]; exact lex_pre _ _ _
  | false => rw [if_neg (by simp)]; exact toks_apart x y h _ _
theorem kltAll_nil : kltAll [] [] = false := lex_irrefl _
theorem kltAll_nc (y : NestedKey) (ys : List NestedKey) : kltAll [] (y :: ys) = true := by
  unfold kltAll
  simp only [toksAll]
  rw [lex_diff (O := itemOrd) (by simp)]
  rfl
theorem kltAll_cn (x : NestedKey) (xs : List NestedKey) : kltAll (x :: xs) [] = false := by
  unfold kltAll
  simp only [toksAll]
  rw [lex_diff (O := itemOrd) (by simp)]
  rfl
theorem klt_num (a b : Int) : klt (.num a) (.num b) = decide (a < b) := by
  unfold klt
  simp only [toks]
  rw [lex_self (O := itemOrd), lex_one]
  rfl
theorem klt_text (a b : Str) : klt (.text a) (.text b) = decide (a.cps.toList < b.cps.toList) := by
  unfold klt
  simp only [toks]
  rw [lex_self (O := itemOrd), lex_one]
  rfl
/-- the signs tell the key -/
theorem toks_ne {x y : NestedKey} (h : NestedKey.beq x y = false) : toks x ≠ toks y := fun e => by
  have h1 := toks_apart x y h [] [.inl 0]
  have h2 := lex_irrefl (O := itemOrd) (toks x)
  rw [e, List.append_nil] at h1
  rw [lex_irrefl] at h1
  have h3 : ∀ l : List (Int ⊕ List Nat), lexLt itemOrd l (l ++ [.inl 0]) = true := by
    intro l
    induction l with
    | nil => rfl
    | cons a l ih => rw [List.cons_append, lex_self (O := itemOrd)]; exact ih
  rw [h3] at h1
  cases h1
theorem toks_inj {x y : NestedKey} (e : toks x = toks y) : x = y := by
  cases h : NestedKey.beq x y with
  | true => exact NestedKey.eq_of_beq x y h
  | false => exact absurd e (toks_ne h)

/-! ### data that can be compared -/
mutual
def kcomp : NestedKey → NestedKey → Bool
  | .num _, .num _ => true
  | .text _, .text _ => true
  | .tup xs, .tup ys => kcompAll xs ys
  | _, _ => false
def kcompAll : List NestedKey → List NestedKey → Bool
  | x :: xs, y :: ys => if NestedKey.beq x y = true then kcompAll xs ys else kcomp x y
  | [], _ => true
  | _ :: _, [] => true
end
mutual
/-- v is the key k; no truth values, no None -/
inductive NV (h : Heap) : NestedKey → Value → Prop
  | int (i t) : NV h (.num i) (.int i t)
  | text (x t) : NV h (.text x) (.str x t)
  | tup {a o vs n ks} : h.get? a = some o → o.cls = .type "tuple" → o.data = .seq vs n → NVs h ks vs.toList → NV h (.tup ks) (.ref a)
inductive NVs (h : Heap) : List NestedKey → List Value → Prop
  | nil : NVs h [] []
  | cons {k v ks vs} : NV h k v → NVs h ks vs → NVs h (k :: ks) (v :: vs)
end
mutual
theorem NV.nested {h : Heap} : ∀ {k : NestedKey} {v : Value}, NV h k v → NestedIs h k v
  | _, _, .int i t => .int i t
  | _, _, .text x t => .text x t
  | _, _, .tup a b c d => .tup a b c (NVs.nested d)
theorem NVs.nested {h : Heap} : ∀ {k : List NestedKey} {v : List Value}, NVs h k v → NestedAll h k v
  | _, _, .nil => .nil
  | _, _, .cons a b => .cons (NV.nested a) (NVs.nested b)
end

/-! ### x < y of the values -/
/-- what the first place that differs answers: k -/
inductive FirstR (A : Around) (s : Shared) (fin : Bool) : List (Value × Value) → Bool → Prop
  | nil : FirstR A s fin [] fin
  | yes {p q r k} : PySem.SeqAt.EqAt A s p q true → FirstR A s fin r k → FirstR A s fin ((p, q) :: r) k
  | no {p q r k} : PySem.SeqAt.EqAt A s p q false → PySem.SeqAt.RcLt A s p q k → FirstR A s fin ((p, q) :: r) k
section
open PySem.SeqAt
open AutoSeq1 (wpAny_loadPart')
theorem tuple_lt_first (l b : Addr) (items items2 : Array Value) (n n2 : Nat) (dd dd2 : Option Addr) (sl sl2 : Array (Option Value)) (k : Bool) :
    Meets (Builtin.«tuple.__lt__» ⟨[.ref l, .ref b], []⟩) (fun A R s => s.heap.get? l = some { cls := .type "tuple", dict := dd, data := .seq items n, slots := sl } ∧ s.heap.get? b = some { cls := .type "tuple", dict := dd2, data := .seq items2 n2, slots := sl2 } ∧
      FirstR A.in1 s (decide (items.size < items2.size)) (items.toList.zip items2.toList) k ∧ R (.ok (.ret (.bool k))) s) :=
  .of_wp fun prog w A R s h => by
    obtain ⟨hp, g, d, tk, os⟩ := s
    obtain ⟨hl, hb, hF, h⟩ := h
    have f2 := AutoSeq1.sub_tuple_tuple
    wp_walk using wpAny_loadPart' hl, wpAny_loadPart' hb, wpAny_forIn_list _ (fun rest r s' => (r.1 = none ∧ s' = ⟨hp, g, d, tk, os⟩) ∧ FirstR A.in1 ⟨hp, g, d, tk, os⟩ (decide (items.size < items2.size)) rest k) _
    case turn =>
      rintro ⟨y, x⟩ rest r s' ⟨⟨hr, rfl⟩, hG⟩
      cases hG with
      | yes e1 e2 =>
        refine wpAny_bind (e1 prog w _ _ ?_)
        wp_walk
        exact ⟨⟨rfl, rfl⟩, e2⟩
      | no e1 e2 =>
        have e3 := e2 prog w
        refine wpAny_bind (e1 prog w _ _ ?_)
        generalize richCompare .Lt y x = m at e3 ⊢
        wp_walk
        refine e3 _ _ ?_
        wp_walk
        exact ⟨_, rfl, h⟩
    case fin =>
      rintro ⟨r1, r2⟩ s' ⟨⟨hr, rfl⟩, hG⟩
      cases hr
      cases hG
      wp_walk
      exact ⟨_, rfl, by simpa [Builtin.Tuple.tupleCompareSizes] using h⟩
    case h => exact ⟨⟨rfl, rfl⟩, hF⟩
theorem RcLt.tuples_first {A : Around} {s : Shared} {l b : Addr} {items items2 : Array Value} {k : Bool} (hl : s.heap.IsTuple l items) (hb : s.heap.IsTuple b items2) (hu : A.units < cLine)
    (h : FirstR A.in1 s (decide (items.size < items2.size)) (items.toList.zip items2.toList) k) : RcLt A s (.ref l) (.ref b) k := fun prog w E Q q => by
  obtain ⟨⟨c1, d1, t1, z1⟩, o1, hc1, n1, hd1⟩ := id hl
  obtain ⟨⟨c2, d2, t2, z2⟩, o2, hc2, n2, hd2⟩ := id hb
  simp only at hc1 hd1 hc2 hd2
  subst hc1 hd1 hc2 hd2
  exact richCompare_meets_room (op := .Lt) ⟨_, o1, rfl⟩ ⟨_, o2, rfl⟩ F.slot_tuple_lt F.entry_tuple_lt (F.args_tuple_lt_2 _ _) (tuple_lt_first l b items items2 n1 n2 d1 d2 z1 z2 k) ⟨o1, o2, h, show Value.bool k ≠ Value.notImplemented ∧ Q (.bool k) s from ⟨(fun x => nomatch x), q⟩⟩ hu
end
end G

set_option Elab.async false
set_option linter.all false
set_option maxRecDepth 100000
set_option maxHeartbeats 4000000
/-! Sorting lists of nested tuples of any shapes. -/
namespace G
open PySem PySem.Spec
open PyProof.Rows (lexLt itemOrd itemLt lex_self lex_diff lex_cons lex_irrefl listOrd keyKind' keyLt' oneLt' firstOfTuple' oneTypeOnly' general' oneType' tuples' oneLt'_eq keyLt'_oneType keyKind'_eq oneTypeOnly'_eq)
open PySem.W (KatLex kat_nil kat_cons kat_yes kat_no kat_lt kas_first_eq)

theorem NVs.len {h : Heap} : ∀ {ks : List NestedKey} {vs : List Value}, NVs h ks vs → vs.length = ks.length
  | _, _, .nil => rfl
  | _, _, .cons _ t => by rw [List.length_cons, List.length_cons, t.len]
section
variable {prog : Program} {w : World} {A : Around} {E : Value → Shared → Prop} {s : Shared}
mutual
theorem rcLt_key : ∀ (x y : NestedKey) (A : Around) (s : Shared) (a b : Value), NV s.heap x a → NV s.heap y b → kcomp x y = true → A.units + min x.depth y.depth < cLine → PySem.SeqAt.RcLt A s a b (klt x y)
  | .num i, y, A, s, _, _, ra, rb, c, _ => by
    cases ra
    cases rb with
    | int j u =>
      intro prog w E Q q
      rw [klt_num] at q
      exact P.lt_int q
    | _ => simp [kcomp] at c
  | .text i, y, A, s, _, _, ra, rb, c, _ => by
    cases ra
    cases rb with
    | text j u =>
      intro prog w E Q q
      rw [klt_text] at q
      exact P.lt_str q
    | _ => simp [kcomp] at c
  | .tup xs, y, A, s, _, _, ra, rb, c, hu => by
    cases ra with
    | @tup l o vs n _ h1 h2 h3 h4 =>
      cases rb with
      | @tup l' o' vs' n' ys k1 k2 k3 k4 =>
        rw [klt_tup]
        refine RcLt.tuples_first ⟨_, h1, h2, _, h3⟩ ⟨_, k1, k2, _, k3⟩ (PySem.SeqAt.room_here hu) (firstR_keys xs ys A.in1 s vs.toList vs'.toList h4 k4 (by simpa [kcomp] using c) (PySem.SeqAt.room_in hu) _ ?_)
        have e1 := h4.len
        have e2 := k4.len
        rw [Array.length_toList] at e1 e2
        rw [e1, e2]
      | _ => simp [kcomp] at c
  | .none, _, _, _, _, _, ra, _, _, _ => by cases ra
theorem firstR_keys : ∀ (xs ys : List NestedKey) (A : Around) (s : Shared) (vs ws : List Value), NVs s.heap xs vs → NVs s.heap ys ws → kcompAll xs ys = true → A.units + min (NestedKey.depthAll xs) (NestedKey.depthAll ys) < cLine →
    ∀ fin : Bool, fin = decide (xs.length < ys.length) → FirstR A s fin (vs.zip ws) (kltAll xs ys)
  | [], [], _, _, _, _, ra, rb, _, _, fin, hf => by
    cases ra; cases rb
    rw [kltAll_nil]
    have e : fin = false := by simpa using hf
    subst e
    exact .nil
  | [], y :: ys, _, _, _, _, ra, rb, _, _, fin, hf => by
    cases ra
    rw [kltAll_nc]
    have e : fin = true := by simpa using hf
    subst e
    rw [List.zip_nil_left]
    exact .nil
  | x :: xs, [], _, _, _, _, ra, rb, _, _, fin, hf => by
    cases rb
    rw [kltAll_cn]
    have e : fin = false := by simpa using hf
    subst e
    rw [List.zip_nil_right]
    exact .nil
  | x :: xs, y :: ys, A, s, _, _, ra, rb, c, hu, fin, hf => by
    cases ra with
    | cons r rs =>
      cases rb with
      | cons t ts =>
        rw [kltAll_cons, List.zip_cons_cons]
        rw [kcompAll] at c
        have eq := eqAt_key x y A s _ _ r.nested t.nested (PySem.SeqAt.room_head hu)
        cases h : NestedKey.beq x y with
        | true =>
          rw [h] at eq
          rw [h, if_pos rfl] at c
          rw [if_pos rfl]
          exact .yes eq (firstR_keys xs ys A s _ _ rs ts c (PySem.SeqAt.room_tail hu) fin (by rw [hf]; simp))
        | false =>
          rw [h] at eq
          rw [h, if_neg (by simp)] at c
          rw [if_neg (by simp)]
          exact .no eq (rcLt_key x y A s _ _ r t c (PySem.SeqAt.room_head hu))
end

/-- one key against another, whatever the kind -/
theorem oneLt_key {f : Bool} {x y : NestedKey} {a b : Value} {Q : Bool → Shared → Prop} (ra : NV s.heap x a) (rb : NV s.heap y b) (c : kcomp x y = true) (hu : A.units + min x.depth y.depth < cLine) (q : Q (klt x y) s) : wpAny (model prog w) A (oneLt' f a b) Q E s := by
  cases f with
  | false =>
    rw [oneLt'_eq]
    simp only [Bool.false_eq_true, if_false]
    exact wpAny_bind (rcLt_key x y A s a b ra rb c hu prog w E _ (wpAny_truthy_bool q))
  | true =>
    cases ra with
    | int i t =>
      cases rb with
      | int j u =>
        rw [klt_num] at q
        exact PyProof.Rows.oneLt_int q
      | _ => simp [kcomp] at c
    | text i t =>
      cases rb with
      | text j u =>
        rw [klt_text] at q
        exact PyProof.Rows.oneLt_str q
      | _ => simp [kcomp] at c
    | @tup l o vs n xs h1 h2 h3 h4 =>
      cases rb with
      | @tup l' o' vs' n' ys k1 k2 k3 k4 =>
        rw [klt_tup] at q
        rw [oneLt'_eq]
        simp only [if_true]
        obtain ⟨c1, d1, t1, z1⟩ := o
        obtain ⟨c2, d2, t2, z2⟩ := o'
        simp only at h2 h3 k2 k3
        subst h2 h3 k2 k3
        refine wpAny_bind (wpAny_cRoomFor (PySem.SeqAt.room_here hu) ?_)
        refine wpAny_bind (wpAny_callSpecialIfBound?_slot (T := "tuple") ⟨_, h1, rfl⟩ F.slot_tuple_lt (call_meets F.slot_tuple_lt ⟨_, h1, rfl⟩ F.entry_tuple_lt (F.args_tuple_lt_2 _ _) (tuple_lt_first l l' vs vs' n n' d1 d2 z1 z2 (kltAll xs ys)) ⟨h1, k1, ?_, ?_⟩))
        · refine firstR_keys xs ys A.in1 s vs.toList vs'.toList h4 k4 (by simpa [kcomp] using c) (PySem.SeqAt.room_in hu) _ ?_
          have e1 := h4.len
          have e2 := k4.len
          rw [Array.length_toList] at e1 e2
          rw [e1, e2]
        · exact wpAny_truthy_bool q
      | _ => simp [kcomp] at c

theorem katLex_keys {b fin : Bool} {Q : Bool → Shared → Prop} : ∀ (xs ys : List NestedKey) (i : Nat) (vs ws : List Value), NVs s.heap xs vs → NVs s.heap ys ws → kcompAll xs ys = true → A.units + min (NestedKey.depthAll xs) (NestedKey.depthAll ys) < cLine →
    fin = decide (xs.length < ys.length) → Q (kltAll xs ys) s → KatLex prog w A b fin Q (vs.zip ws) i s
  | [], [], _, _, _, ra, rb, _, _, hf, q => by
    cases ra; cases rb
    rw [kltAll_nil] at q
    have e : fin = false := by simpa using hf
    subst e
    exact kat_nil q
  | [], y :: ys, _, _, _, ra, rb, _, _, hf, q => by
    cases ra
    rw [kltAll_nc] at q
    have e : fin = true := by simpa using hf
    subst e
    rw [List.zip_nil_left]
    exact kat_nil q
  | x :: xs, [], _, _, _, ra, rb, _, _, hf, q => by
    cases rb
    rw [kltAll_cn] at q
    have e : fin = false := by simpa using hf
    subst e
    rw [List.zip_nil_right]
    exact kat_nil q
  | x :: xs, y :: ys, i, _, _, ra, rb, c, hu, hf, q => by
    cases ra with
    | cons r rs =>
      cases rb with
      | cons t ts =>
        rw [kltAll_cons] at q
        rw [kcompAll] at c
        rw [List.zip_cons_cons]
        refine kat_cons (eqAt_key x y A s _ _ r.nested t.nested (PySem.SeqAt.room_head hu) prog w _ _ ?_)
        cases h : NestedKey.beq x y with
        | true =>
          rw [h, if_pos rfl] at c q
          exact kat_yes (katLex_keys xs ys (i + 1) _ _ rs ts c (PySem.SeqAt.room_tail hu) (by rw [hf]; simp) q)
        | false =>
          rw [h, if_neg (by simp)] at c q
          exact kat_no (oneLt_key r t c (PySem.SeqAt.room_head hu) q)

/-- the kinds of sorting that lists of tuples may get -/
def TupKd (kd : PyProof.Rows.SortKind) : Prop := kd = general' ∨ kd = oneType' ∨ ∃ b, kd = tuples' b
theorem keyLt_tup {kd : PyProof.Rows.SortKind} (hk : TupKd kd) {xs ys : List NestedKey} {a b : Addr} {Q : Bool → Shared → Prop} (ra : NV s.heap (.tup xs) (.ref a)) (rb : NV s.heap (.tup ys) (.ref b)) (c : kcomp (.tup xs) (.tup ys) = true)
    (hu : A.units + min (NestedKey.depth (.tup xs)) (NestedKey.depth (.tup ys)) < cLine) (q : Q (klt (.tup xs) (.tup ys)) s) : wpAny (model prog w) A (keyLt' kd (.ref a) (.ref b)) Q E s := by
  rcases hk with e | e | ⟨f, e⟩
  · subst e
    exact (show wpAny (model prog w) A (oneLt' false (.ref a) (.ref b)) Q E s from oneLt_key ra rb c hu q)
  · subst e
    rw [keyLt'_oneType]
    exact oneLt_key ra rb c hu q
  · subst e
    cases ra with
    | @tup _ o vs n _ h1 h2 h3 h4 =>
      cases rb with
      | @tup _ o' vs' n' _ k1 k2 k3 k4 =>
        rw [klt_tup] at q
        have e1 := h4.len
        have e2 := k4.len
        rw [Array.length_toList] at e1 e2
        have hu2 : A.units + min (NestedKey.depthAll xs) (NestedKey.depthAll ys) < cLine := by
          have := PySem.SeqAt.room_in hu
          omega
        exact kat_lt h1 h3 k1 k3 (katLex_keys xs ys 0 vs.toList vs'.toList h4 k4 (by simpa [kcomp] using c) hu2 (by rw [e1, e2]) q)

theorem mapM_each {α β : Type} {M : Model} {A : Around} {E : Value → Shared → Prop} {s : Shared} {f : α → Sem β} {r : α → β} : ∀ (l : List α) {Q : List β → Shared → Prop}, (∀ v ∈ l, ∀ Q' : β → Shared → Prop, Q' (r v) s → wpAny M A (f v) Q' E s) → Q (l.map r) s → wpAny M A (l.mapM f) Q E s
  | [], _, _, h => by rw [List.mapM_nil]; exact wpAny_pure h
  | x :: l, Q, hf, h => by
    rw [List.mapM_cons]
    exact wpAny_bind (hf x List.mem_cons_self _ (wpAny_bind (mapM_each l (Q := fun bs s' => wpAny M A (pure (r x :: bs)) Q E s') (fun v hv => hf v (List.mem_cons_of_mem _ hv)) (wpAny_pure h))))
/-- the type's name, looked up -/
def tyIn (h : Heap) : Value → String
  | .int _ _ => "int"
  | .str _ _ => "str"
  | .ref a => match h.get? a with
    | some ⟨.type c, _, _, _⟩ => c
    | _ => ""
  | _ => ""
def fstIn (h : Heap) : Value → Option Value
  | .ref a => match h.get? a with
    | some ⟨_, _, .seq xs _, _⟩ => xs[0]?
    | _ => none
  | _ => none
theorem nv_type {k : NestedKey} {v : Value} (r : NV s.heap k v) : s.TypeIs v (tyIn s.heap v) := by
  cases r with
  | int i t => exact rfl
  | text x t => exact rfl
  | @tup a o vs n ks h1 h2 h3 h4 =>
    obtain ⟨c, d, t, z⟩ := o
    simp only at h2
    subst h2
    refine ⟨_, h1, ?_⟩
    show Value.type "tuple" = Value.type (tyIn s.heap (.ref a))
    unfold tyIn
    simp only [h1]
theorem oneType_some (ws : List Value) (h : ∀ v ∈ ws, s.TypeIs v (tyIn s.heap v)) : ∃ r : Option Value, ∀ {M : Model} (A : Around) (E : Value → Shared → Prop) (Q : Option Value → Shared → Prop), Q r s → wpAny M A (oneTypeOnly' ws.toArray) Q E s := by
  refine ⟨match (ws.map fun v => Value.type (tyIn s.heap v)).toArray[0]? with
    | some t => if (ws.map fun v => Value.type (tyIn s.heap v)).toArray.all (· == t) = true then some t else none
    | none => none, fun A E Q q => ?_⟩
  rw [oneTypeOnly'_eq, List.mapM_toArray, map_eq_pure_bind]
  refine wpAny_bind (wpAny_bind (mapM_each (r := fun v => Value.type (tyIn s.heap v)) ws (fun v hv Q' q' => wpAny_typeOf (h v hv) q') (wpAny_pure ?_)))
  generalize (ws.map fun v => Value.type (tyIn s.heap v)).toArray = arr at q ⊢
  revert q
  cases arr[0]? with
  | none => exact fun q => wpAny_pure q
  | some t => exact fun q => wpAny_pure q
theorem nv_first {ks : List NestedKey} {a : Addr} (r : NV s.heap (.tup ks) (.ref a)) {M : Model} {A : Around} {E : Value → Shared → Prop} {Q : Option Value → Shared → Prop} (q : Q (fstIn s.heap (.ref a)) s) : wpAny M A (firstOfTuple' (.ref a)) Q E s := by
  have ty := nv_type r
  cases r with
  | @tup _ o vs n _ h1 h2 h3 h4 =>
    obtain ⟨c, d, t, z⟩ := o
    simp only at h2 h3
    subst h2 h3
    have e : fstIn s.heap (.ref a) = vs[0]? := by
      unfold fstIn
      simp only [h1]
    rw [e] at q
    rw [kas_first_eq]
    have e2 : tyIn s.heap (.ref a) = "tuple" := by
      unfold tyIn
      simp only [h1]
    rw [e2] at ty
    refine wpAny_bind (wpAny_typeOf ty ?_)
    rw [if_neg (by decide)]
    exact wpAny_bind (PyProof.Rows.listItems_at h1 rfl (wpAny_pure q))
/-- the kind of a list of tuples -/
theorem keyKind_tups (vs : List Value) (h : ∀ v ∈ vs, ∃ a ks, v = .ref a ∧ NV s.heap (.tup ks) (.ref a)) : ∃ kd, TupKd kd ∧ ∀ {M : Model} (A : Around) (E : Value → Shared → Prop) (Q : PyProof.Rows.SortKind → Shared → Prop), Q kd s → wpAny M A (keyKind' vs.toArray) Q E s := by
  have firsts : ∀ x ∈ (vs.map (fstIn s.heap)).filterMap id, s.TypeIs x (tyIn s.heap x) := by
    intro x hx
    obtain ⟨y, hy, e⟩ := List.mem_filterMap.mp hx
    obtain ⟨v, hv, e2⟩ := List.mem_map.mp hy
    obtain ⟨a, ks, rfl, r⟩ := h v hv
    have e3 : fstIn s.heap (.ref a) = some x := e2.trans e
    cases r with
    | @tup _ o xs n _ h1 h2 h3 h4 =>
      obtain ⟨c, d, t, z⟩ := o
      simp only at h3
      subst h3
      unfold fstIn at e3
      simp only [h1] at e3
      have e4 : xs.toList[0]? = some x := by rw [Array.getElem?_toList]; exact e3
      cases h5 : xs.toList with
      | nil => rw [h5] at e4; cases e4
      | cons y ys =>
        rw [h5] at e4 h4
        cases e4
        cases h4 with
        | cons r1 _ => exact nv_type r1
  obtain ⟨r1, w1⟩ := oneType_some _ firsts
  obtain ⟨r2, w2⟩ := oneType_some vs fun v hv => by
    obtain ⟨a, ks, rfl, r⟩ := h v hv
    exact nv_type r
  refine ⟨if ((vs.map (fstIn s.heap)).toArray.all (·.isSome)) = true then tuples' (r1.any (· != .type "tuple")) else if ((vs.map (fstIn s.heap)).toArray[0]?.bind id).isSome = true then general' else if r2.isSome = true then oneType' else general', ?_, fun A E Q q => ?_⟩
  · split
    · exact .inr (.inr ⟨_, rfl⟩)
    · split
      · exact .inl rfl
      · split
        · exact .inr (.inl rfl)
        · exact .inl rfl
  · rw [keyKind'_eq, List.mapM_toArray, map_eq_pure_bind]
    refine wpAny_bind (wpAny_bind (mapM_each (r := fstIn s.heap) vs (fun v hv Q' q' => ?_) (wpAny_pure ?_)))
    · obtain ⟨a, ks, rfl, r⟩ := h v hv
      exact nv_first r q'
    · by_cases c1 : ((vs.map (fstIn s.heap)).toArray.all (·.isSome)) = true
      · rw [if_pos c1] at q
        rw [if_pos c1]
        refine wpAny_bind (wpAny_rule ?_)
        have e : (vs.map (fstIn s.heap)).toArray.filterMap id = ((vs.map (fstIn s.heap)).filterMap id).toArray := by simp
        rw [e]
        exact wpAny_bind (w1 _ _ _ (wpAny_pure q))
      · rw [if_neg c1] at q
        refine L2.wp_if_neg c1 ?_
        by_cases c2 : ((vs.map (fstIn s.heap)).toArray[0]?.bind id).isSome = true
        · rw [if_pos c2] at q
          exact L2.wp_if_pos c2 (wpAny_pure q)
        · rw [if_neg c2] at q
          refine L2.wp_if_neg c2 (wpAny_bind (w2 _ _ _ (wpAny_pure ?_)))
          revert q
          cases r2.isSome <;> exact fun q => q
end
end G

set_option Elab.async false
set_option linter.all false
set_option maxRecDepth 100000
set_option maxHeartbeats 4000000
/-! sorted(xs), sorted(set(xs)) over the data. -/
namespace G
open PySem PySem.Spec L2
open PySem.W (EachIs sortVals sortLe sortVals_each SortsAt)
open PyProof.Rows (lexLt itemOrd listOrd)

/-! ### data as keys -/
mutual
def D.nk : D → NestedKey
  | .int i => .num i
  | .str x => .text x
  | .tup ds => .tup (D.nks ds)
  | _ => .none
def D.nks : List D → List NestedKey
  | [] => []
  | d :: ds => D.nk d :: D.nks ds
end
mutual
def D.plain : D → Bool
  | .int _ => true
  | .str _ => true
  | .tup ds => D.plains ds
  | _ => false
def D.plains : List D → Bool
  | [] => true
  | d :: ds => D.plain d && D.plains ds
end
mutual
theorem D.nk_inj : ∀ (d e : D), d.plain = true → e.plain = true → d.nk = e.nk → d = e
  | .int _, .int _, _, _, h => by simp only [D.nk, NestedKey.num.injEq] at h; rw [h]
  | .str _, .str _, _, _, h => by simp only [D.nk, NestedKey.text.injEq] at h; rw [h]
  | .tup ds, .tup es, h1, h2, h => by
    simp only [D.nk, NestedKey.tup.injEq] at h
    rw [D.nks_inj ds es (by simpa [D.plain] using h1) (by simpa [D.plain] using h2) h]
  | .int _, .str _, _, _, h | .int _, .tup _, _, _, h | .str _, .int _, _, _, h | .str _, .tup _, _, _, h | .tup _, .int _, _, _, h | .tup _, .str _, _, _, h => by simp [D.nk] at h
  | .non, _, h, _, _ | .bl _, _, h, _, _ | .lst _, _, h, _, _ | .rol _, _, h, _, _ | .ref _, _, h, _, _ => by simp [D.plain] at h
  | .int _, .non, _, h, _ | .int _, .bl _, _, h, _ | .int _, .lst _, _, h, _ | .int _, .rol _, _, h, _ | .int _, .ref _, _, h, _ => by simp [D.plain] at h
  | .str _, .non, _, h, _ | .str _, .bl _, _, h, _ | .str _, .lst _, _, h, _ | .str _, .rol _, _, h, _ | .str _, .ref _, _, h, _ => by simp [D.plain] at h
  | .tup _, .non, _, h, _ | .tup _, .bl _, _, h, _ | .tup _, .lst _, _, h, _ | .tup _, .rol _, _, h, _ | .tup _, .ref _, _, h, _ => by simp [D.plain] at h
theorem D.nks_inj : ∀ (d e : List D), D.plains d = true → D.plains e = true → D.nks d = D.nks e → d = e
  | [], [], _, _, _ => rfl
  | [], _ :: _, _, _, h => by simp [D.nks] at h
  | _ :: _, [], _, _, h => by simp [D.nks] at h
  | d :: ds, e :: es, h1, h2, h => by
    simp only [D.nks, List.cons.injEq] at h
    simp only [D.plains, Bool.and_eq_true] at h1 h2
    rw [D.nk_inj d e h1.1 h2.1 h.1, D.nks_inj ds es h1.2 h2.2 h.2]
end
section
variable {X : Cx} {pins : List (Addr × Obj)} {σ : L2.St} {H : Hp} {s : Shared} {ρ : Rh}
mutual
theorem dr_nv (I : Inv X pins σ H s) : ∀ {d : D} {v : V} {u : Value}, DR X.K H ρ v d → RelV v u → d.plain = true → NV s.heap d.nk u
  | _, _, _, .int i, r, _ => by
    obtain ⟨t, rfl⟩ := r
    exact .int i t
  | _, _, _, .str x, r, _ => by
    obtain ⟨t, rfl⟩ := r
    exact .text x t
  | _, _, _, .tup (ds := ds) h hs, r, p => by
    cases r
    obtain ⟨its, rv, ⟨o, ho, hc, n, hd⟩, _⟩ := I.tuple h.sq
    rw [D.nk]
    exact .tup ho hc hd (by simpa using drs_nv I hs rv (by simpa [D.plain] using p))
  | _, _, _, .non, _, p | _, _, _, .bl _, _, p | _, _, _, .lst _ _, _, p | _, _, _, .rol _ _, _, p | _, _, _, .ref _, _, p => by simp [D.plain] at p
theorem drs_nv (I : Inv X pins σ H s) : ∀ {ds : List D} {vs : List V} {us : List Value}, DRs X.K H ρ vs ds → Vals vs us → D.plains ds = true → NVs s.heap (D.nks ds) us
  | _, _, _, .nil, r, _ => by cases r; exact .nil
  | _, _, _, .cons h hs, r, p => by
    cases r with
    | cons r rs =>
      simp only [D.plains, Bool.and_eq_true] at p
      exact .cons (dr_nv I h r p.1) (drs_nv I hs rs p.2)
end
end
def isTup : D → Bool
  | .tup _ => true
  | _ => false
/-- tuples that can be sorted -/
def tupsOk (ds : List D) : Bool := ds.all (fun d => isTup d && d.plain && decide (d.nk.depth ≤ 8)) && ds.all fun d => ds.all fun e => kcomp d.nk e.nk
def leD (a b : D) : Bool := !klt b.nk a.nk
def sortD (ds : List D) : List D := sortBy leD ds
/-- each once -/
def dedupD : List D → List D
  | [] => []
  | d :: ds => if (ds.any fun e => NestedKey.beq d.nk e.nk) = true then dedupD ds else d :: dedupD ds
theorem leD_total (a b : D) : leD a b = true ∨ leD b a = true := by
  unfold leD klt
  cases h : lexLt itemOrd (toks b.nk) (toks a.nk) with
  | false => exact .inl rfl
  | true =>
    right
    cases h2 : lexLt itemOrd (toks a.nk) (toks b.nk) with
    | false => rfl
    | true =>
      have := (listOrd itemOrd).trans _ _ _ h h2
      rw [(listOrd itemOrd).irrefl] at this
      cases this
theorem leD_trans (a b c : D) (h1 : leD a b = true) (h2 : leD b c = true) : leD a c = true := by
  have := (PySem.W.sortLe_total (α := D) (listOrd itemOrd) false (fun d => toks d.nk)).trans a b c h1 h2
  exact this
theorem leD_antisymm {a b : D} (ha : a.plain = true) (hb : b.plain = true) (h1 : leD a b = true) (h2 : leD b a = true) : a = b := by
  unfold leD klt at h1 h2
  exact D.nk_inj a b ha hb (toks_inj ((listOrd itemOrd).total _ _ (by simpa using h2) (by simpa using h1)))
theorem sortD_of {ds out : List D} (hp : ∀ d ∈ ds, d.plain = true) (p : out.Perm ds) (s : out.Pairwise (fun a b => leD a b = true)) : out = sortD ds :=
  (p.trans (sortBy_perm _ ds).symm).eq_of_pairwise (fun a b ha hb h1 h2 => leD_antisymm (hp a (p.mem_iff.mp ha)) (hp b ((sortBy_perm _ ds).mem_iff.mp hb)) h1 h2) s (sortBy_sorted leD_total leD_trans ds)
theorem mem_dedupD {x : D} : ∀ {ds : List D}, x ∈ dedupD ds → x ∈ ds
  | d :: ds, h => by
    rw [dedupD] at h
    split at h
    · exact List.mem_cons_of_mem _ (mem_dedupD h)
    · rcases List.mem_cons.mp h with e | h
      · rw [e]; exact List.mem_cons_self
      · exact List.mem_cons_of_mem _ (mem_dedupD h)
theorem dedupD_has : ∀ {ds : List D} {k : NestedKey}, k ∈ ds.map D.nk → k ∈ (dedupD ds).map D.nk
  | d :: ds, k, h => by
    rw [dedupD]
    rw [List.map_cons] at h
    split
    · rename_i c
      rcases List.mem_cons.mp h with e | h
      · obtain ⟨e2, m, c2⟩ := List.any_eq_true.mp c
        rw [e, NestedKey.eq_of_beq _ _ c2]
        exact dedupD_has (List.mem_map.mpr ⟨e2, m, rfl⟩)
      · exact dedupD_has h
    · rw [List.map_cons]
      rcases List.mem_cons.mp h with e | h
      · rw [e]; exact List.mem_cons_self
      · exact List.mem_cons_of_mem _ (dedupD_has h)
theorem dedupD_nodup : ∀ (ds : List D), ((dedupD ds).map D.nk).Nodup
  | [] => List.nodup_nil
  | d :: ds => by
    rw [dedupD]
    split
    · exact dedupD_nodup ds
    · rename_i c
      rw [List.map_cons]
      refine List.nodup_cons.mpr ⟨fun h => c ?_, dedupD_nodup ds⟩
      obtain ⟨e, m, h2⟩ := List.mem_map.mp h
      exact List.any_eq_true.mpr ⟨e, mem_dedupD m, by rw [h2]; exact NestedKey.beq_self _⟩
/-- the sorted list of the set -/
theorem sortSet_of {ds es out : List D} (hp : ∀ d ∈ ds, d.plain = true) (sub : ∀ d ∈ es, d ∈ ds) (all : ∀ d ∈ ds, d.nk ∈ es.map D.nk) (nd : (es.map D.nk).Nodup) (p : out.Perm es) (s : out.Pairwise (fun a b => leD a b = true)) : out = sortD (dedupD ds) := by
  have pe : ∀ d ∈ es, d.plain = true := fun d h => hp d (sub d h)
  have pd : ∀ d ∈ dedupD ds, d.plain = true := fun d h => hp d (mem_dedupD h)
  have n1 : es.Nodup := List.Pairwise.of_map D.nk (fun _ _ hne e => hne (congrArg _ e)) nd
  have n2 : (dedupD ds).Nodup := List.Pairwise.of_map D.nk (fun _ _ hne e => hne (congrArg _ e)) (dedupD_nodup ds)
  refine sortD_of pd (p.trans ((List.perm_ext_iff_of_nodup n1 n2).mpr fun d => ⟨fun h => ?_, fun h => ?_⟩)) s
  · obtain ⟨e, m, h2⟩ := List.mem_map.mp (dedupD_has (List.mem_map.mpr ⟨d, sub d h, rfl⟩))
    rw [← D.nk_inj e d (pd e m) (pe d h) h2]
    exact m
  · obtain ⟨e, m, h2⟩ := List.mem_map.mp (all d (mem_dedupD h))
    rw [← D.nk_inj e d (pe e m) (pd d h) h2]
    exact m

/-! ### the model's sort, by keys -/
/-- the kind of keys that the tuples ks make in h -/
noncomputable def keysKind (h : Heap) (ks : List NestedKey) : PyProof.Rows.KeyKind where
  toKeyOrd := listOrd itemOrd
  keyOf v := open Classical in if q : ∃ k, k ∈ ks ∧ NV h k v then some (toks q.choose) else none
  dflt := ([] : List (Int ⊕ List Nat))
theorem keysKind_some {h : Heap} {ks : List NestedKey} {v : Value} {k : NestedKey} (hk : k ∈ ks) (r : NV h k v) : (keysKind h ks).keyOf v = some (toks k) := by
  have q : ∃ k, k ∈ ks ∧ NV h k v := ⟨k, hk, r⟩
  have e : (keysKind h ks).keyOf v = some (toks q.choose) := by
    show (open Classical in if q : ∃ k, k ∈ ks ∧ NV h k v then some (toks q.choose) else none) = _
    rw [dif_pos q]
  rw [e, NestedIs.inj _ _ _ q.choose_spec.2.nested r.nested]
theorem keysKind_inv {h : Heap} {ks : List NestedKey} {v : Value} {t : List (Int ⊕ List Nat)} (e : (keysKind h ks).keyOf v = some t) : ∃ k, k ∈ ks ∧ NV h k v ∧ t = toks k := by
  by_cases q : ∃ k, k ∈ ks ∧ NV h k v
  · have e' : (keysKind h ks).keyOf v = some (toks q.choose) := by
      show (open Classical in if q : ∃ k, k ∈ ks ∧ NV h k v then some (toks q.choose) else none) = _
      rw [dif_pos q]
    rw [e'] at e
    exact ⟨_, q.choose_spec.1, q.choose_spec.2, (Option.some.inj e).symm⟩
  · have e' : (keysKind h ks).keyOf v = none := by
      show (open Classical in if q : ∃ k, k ∈ ks ∧ NV h k v then some (toks q.choose) else none) = _
      rw [dif_neg q] <;> rfl
    rw [e'] at e
    cases e
mutual
theorem NV.at {h h' : Heap} (kp : ∀ a o vs n, h.get? a = some o → o.data = .seq vs n → o.cls = .type "tuple" → h'.get? a = some o) : ∀ {k : NestedKey} {v : Value}, NV h k v → NV h' k v
  | _, _, .int i t => .int i t
  | _, _, .text x t => .text x t
  | _, _, .tup a b c d => .tup (kp _ _ _ _ a c b) b c (NVs.at kp d)
theorem NVs.at {h h' : Heap} (kp : ∀ a o vs n, h.get? a = some o → o.data = .seq vs n → o.cls = .type "tuple" → h'.get? a = some o) : ∀ {k : List NestedKey} {v : List Value}, NVs h k v → NVs h' k v
  | _, _, .nil => .nil
  | _, _, .cons a b => .cons (NV.at kp a) (NVs.at kp b)
end
/-- the keys of tuples that can be sorted -/
structure KeysOk (ks : List NestedKey) : Prop where
  tup : ∀ k ∈ ks, ∃ xs, k = .tup xs
  dep : ∀ k ∈ ks, k.depth ≤ 8
  cmp : ∀ x ∈ ks, ∀ y ∈ ks, kcomp x y = true
theorem sortsAt_keys {prog : Program} {w : World} {A : Around} {s : Shared} {vs : List Value} {ks : List NestedKey} (ok : KeysOk ks) (e : ∀ v ∈ vs, ∃ k ∈ ks, NV s.heap k v) (hu : A.units + 8 < cLine) : SortsAt prog w A s (keysKind s.heap ks) vs := by
  have sh : ∀ v ∈ vs, ∃ a xs, v = .ref a ∧ NV s.heap (.tup xs) (.ref a) := fun v hv => by
    obtain ⟨k, hk, r⟩ := e v hv
    obtain ⟨xs, rfl⟩ := ok.tup k hk
    cases r with
    | tup h1 h2 h3 h4 => exact ⟨_, _, rfl, .tup h1 h2 h3 h4⟩
  obtain ⟨kd, h1, h2⟩ := keyKind_tups vs sh
  refine ⟨fun v hv => ?_, kd, fun E x y a b Q ha hb q => ?_, fun _ E Q q => h2 _ _ _ q⟩
  · obtain ⟨k, hk, r⟩ := e v hv
    exact ⟨_, keysKind_some hk r⟩
  · obtain ⟨k1, m1, r1, rfl⟩ := keysKind_inv ha
    obtain ⟨k2, m2, r2, rfl⟩ := keysKind_inv hb
    have d1 := ok.dep _ m1
    obtain ⟨xs, rfl⟩ := ok.tup k1 m1
    obtain ⟨ys, rfl⟩ := ok.tup k2 m2
    cases r1 with
    | tup z1 z2 z3 z4 =>
      cases r2 with
      | tup y1 y2 y3 y4 =>
        exact keyLt_tup h1 (.tup z1 z2 z3 z4) (.tup y1 y2 y3 y4) (ok.cmp _ m1 _ m2) (by
          have := Nat.min_le_left (NestedKey.depth (.tup xs)) (NestedKey.depth (.tup ys))
          omega) q
/-- what stands in sorted order, with whatever goes with the values -/
theorem sorted_goes {h : Heap} {ks : List NestedKey} {R : Value → D → Prop} {vs : List Value} {ds : List D} (e : EachIs R vs ds) (hk : EachIs (fun v d => d.nk ∈ ks ∧ NV h d.nk v) vs ds) : ∃ es : List D, EachIs R (sortVals (keysKind h ks) false vs vs) es ∧ es.Perm ds ∧ es.Pairwise (fun a b => leD a b = true) := by
  have h1 := sortVals_each (κ := keysKind h ks) (rev := false) (ks := vs) (fun d : D => toks d.nk) e (hk.mono fun v d q => keysKind_some q.1 q.2)
  refine ⟨_, h1, List.mergeSort_perm _ _, ?_⟩
  exact (PySem.W.sort_pairwise (PySem.W.sortLe_total (listOrd itemOrd) false fun d : D => toks d.nk) ds).imp fun q => q
end G

set_option Elab.async false
set_option linter.all false
set_option maxRecDepth 100000
set_option maxHeartbeats 4000000
/-! sorted(xs), sorted(set(xs)) as rules. -/
namespace G
open PySem PySem.Spec L2
open PySem.W (EachIs sortVals sortLe sortVals_each SortsAt sorted_vals sortingHeap copyHeap sorting_copy_old list_sort_vals)
open PyProof.Rows (lexLt itemOrd listOrd sortedAll sortedAll_at sortedAll_old)

section
variable {X : Cx} {pins : List (Addr × Obj)} {σ : L2.St} {H : Hp} {s : Shared} {ρ : Rh} {cl : Nat → Addr}
/-- u is the datum d -/
def UD (X : Cx) (H : Hp) (ρ : Rh) (u : Value) (d : D) : Prop := ∃ v, RelV v u ∧ DR X.K H ρ v d
theorem ud_of : ∀ {vs : List V} {us : List Value} {ds : List D}, Vals vs us → DRs X.K H ρ vs ds → EachIs (UD X H ρ) us ds
  | _, _, _, .nil, .nil => .nil
  | _, _, _, .cons r rs, .cons h hs => .cons ⟨_, r, h⟩ (ud_of rs hs)
theorem ud_back : ∀ {us : List Value} {ds : List D}, EachIs (UD X H ρ) us ds → ∃ vs, Vals vs us ∧ DRs X.K H ρ vs ds
  | _, _, .nil => ⟨[], .nil, .nil⟩
  | _, _, .cons ⟨v, r, h⟩ t => by
    obtain ⟨vs, h1, h2⟩ := ud_back t
    exact ⟨v :: vs, .cons r h1, .cons h h2⟩
theorem each_with {α β : Type} {R S : α → β → Prop} {as : List α} {bs : List β} (e : EachIs R as bs) (h : ∀ a b, b ∈ bs → R a b → S a b) : EachIs S as bs := by
  induction e with
  | nil => exact .nil
  | cons r t ih => exact .cons (h _ _ List.mem_cons_self r) (ih fun a b hb q => h a b (List.mem_cons_of_mem _ hb) q)
theorem tupsOk_keys {ds : List D} (h : tupsOk ds = true) : KeysOk (ds.map D.nk) ∧ ∀ d ∈ ds, d.plain = true := by
  unfold tupsOk at h
  rw [Bool.and_eq_true] at h
  obtain ⟨h1, h2⟩ := h
  have each : ∀ d ∈ ds, (∃ xs, d = .tup xs) ∧ d.plain = true ∧ d.nk.depth ≤ 8 := fun d hd => by
    have z := List.all_eq_true.mp h1 d hd
    simp only [Bool.and_eq_true, decide_eq_true_eq] at z
    refine ⟨?_, z.1.2, z.2⟩
    cases d with
    | tup xs => exact ⟨xs, rfl⟩
    | _ => simp [isTup] at z
  refine ⟨⟨fun k hk => ?_, fun k hk => ?_, fun x hx y hy => ?_⟩, fun d hd => (each d hd).2.1⟩
  · obtain ⟨d, hd, rfl⟩ := List.mem_map.mp hk
    obtain ⟨xs, rfl⟩ := (each d hd).1
    exact ⟨D.nks xs, by rw [D.nk]⟩
  · obtain ⟨d, hd, rfl⟩ := List.mem_map.mp hk
    exact (each d hd).2.2
  · obtain ⟨d, hd, rfl⟩ := List.mem_map.mp hx
    obtain ⟨e, he, rfl⟩ := List.mem_map.mp hy
    exact List.all_eq_true.mp (List.all_eq_true.mp h2 d hd) e he
/-- sorted(xs): ints, or tuples that can be compared -/
def sortF : F1 := fun ds M => match ds with
  | [d] => match seqOf M d with
    | some (false, es) => match intsOf es with
      | some ns => if ns.length ≤ sizeLine then some (.lst ((sortI ns).map D.int), M) else none
      | none => if tupsOk es = true then some (.lst (sortD es), M) else none
    | _ => none
  | _ => none
theorem c_sort (hu : X.A.units + 150 < cLine) : CallR X (.builtin "sorted") (rM ⟨X.K, cl⟩ sortF) := by
  intro pins s σ H xs us Q I rv q
  obtain ⟨ρ, M, ds, d, M', R, r, e, k⟩ := q
  unfold sortF at e
  split at e
  · split at e
    · rename_i es hq
      split at e
      · rename_i ns hb
        split at e
        · rename_i hz
          refine c_sortedI pins s σ H xs us Q I rv ⟨ρ, M, _, d, M', R, r, ?_, k⟩
          unfold sortedIF
          simp only [hq, hb, if_pos hz]
          exact e
        · cases e
      · split at e
        · rename_i hok
          cases e
          obtain ⟨ok, pl⟩ := tupsOk_keys hok
          obtain ⟨v, rfl, ra⟩ := r.one
          obtain ⟨a, ys, rfl, hr, ⟨hf, _⟩ | ⟨_, h⟩⟩ := seqOf_ok R ra hq
          · cases hf
          · obtain ⟨its, rl, pl2, hz⟩ := I.list h
            rw [Vals.ref1 rv]
            have hl := pl2.isList
            have hlen : its.length ≤ sizeLine := by rw [← rl.length]; exact hz
            have kp : ∀ b o vs n, s.heap.get? b = some o → o.data = .seq vs n → o.cls = .type "tuple" → (sortingHeap (copyHeap s.heap its) (s.heap.objs.size + 1) its).get? b = some o := fun b o _ _ e _ _ => sorting_copy_old e
            have eu := ud_of rl hr
            have ek : EachIs (fun u d => d.nk ∈ es.map D.nk ∧ NV (sortingHeap (copyHeap s.heap its) (s.heap.objs.size + 1) its) d.nk u) its es :=
              each_with eu fun u d hd ⟨v, z1, z2⟩ => ⟨List.mem_map.mpr ⟨d, hd, rfl⟩, (dr_nv I z2 z1 (pl d hd)).at kp⟩
            refine sorted_vals (κ := keysKind (sortingHeap (copyHeap s.heap its) (s.heap.objs.size + 1) its) (es.map D.nk)) hl (sortsAt_keys ok (fun u hu => ?_) (by simp only [Around.in1_units]; omega)) hlen ?_
            · obtain ⟨d, _, z⟩ := ek.left u hu
              exact ⟨_, z.1, z.2⟩
            · obtain ⟨out, o1, o2, o3⟩ := sorted_goes eu ek
              obtain rfl := sortD_of pl o2 o3
              obtain ⟨zs, w1, w2⟩ := ud_back o1
              obtain ⟨c, hc⟩ := sortedAll_at s.heap its (sortVals (keysKind (sortingHeap (copyHeap s.heap its) (s.heap.objs.size + 1) its) (es.map D.nk)) false its its).toArray
              have hn : H (s.heap.objs.size + 1) = none := I.hok.fresh (Nat.le_succ _)
              have hzl : zs.length ≤ sizeLine := by rw [w1.length, PySem.W.sortVals_length false rfl]; exact hlen
              refine ⟨.ref (s.heap.objs.size + 1), upd H (s.heap.objs.size + 1) (.lst zs), I.laid (t' := s.toks) (fun _ _ => sortedAll_old) (Nat.le_succ _) ⟨hzl, _, c, w1, hc⟩, rfl, ?_⟩
              exact k _ _ ρ (.new hn) (R.new hn) (.newLst hn (R.fresh hn) w2)
        · cases e
    · cases e
  · cases e
end
end G

set_option Elab.async false
set_option linter.all false
set_option maxRecDepth 100000
set_option maxHeartbeats 4000000
/-! sorted(set(xs)). -/
namespace G
open PySem PySem.Spec L2
open PySem.W (EachIs sortVals SortsAt sortingHeap list_sort_vals)

section
variable {X : Cx} {pins : List (Addr × Obj)} {σ : L2.St} {H : Hp} {s : Shared} {ρ : Rh} {cl : Nat → Addr}
/-- the set of nested tuples at a, without the tuples themselves -/
def SetN0 (w : World) (h : Heap) (a : Addr) (L : List (Addr × NestedKey)) : Prop := ∃ (es : Array (Int × Value)) (ep : Nat) (t : SetTable), (∃ o, h.get? a = some o ∧ o.ExactSet ∧ o.data = .set es ep t) ∧ es.toList = L.map (rowK w) ∧ TabOk t (L.map (hashK w)) ∧
  (L.map (·.2)).Nodup ∧ (w.params.followText "set-order" = true ∨ t.led = true) ∧ L.length * 5 < t.mask * 3 ∧ L.length < 64
def NSetO (w : World) (a : Addr) (L : List (Addr × NestedKey)) : HO := .ext fun h => SetN0 w h a L
theorem nsetO_ok {w : World} {P : Program} {H : Hp} {h : Heap} {a : Addr} {L : List (Addr × NestedKey)} (R : SetN0 w h a L) : ObjOk P w H h a (NSetO w a L) := by
  have ⟨es, ep, t, ⟨o, ho, r⟩, q⟩ := R
  refine ⟨R, ⟨o, ho⟩, fun h1 h2 p k => ?_⟩
  have ⟨es', ep', t', ⟨o', ho', r'⟩, q'⟩ := (show SetN0 w h1 a L from p)
  exact ⟨es', ep', t', ⟨o', k o' ho', r'⟩, q'⟩
/-- the member at p's address is the datum d of es -/
def Goes (X : Cx) (H : Hp) (ρ : Rh) (es : List D) (p : Addr × NestedKey) : Prop := ∃ d ∈ es, d.nk = p.2 ∧ DR X.K H ρ (.ref p.1) d
def rSetG (X : Cx) (cl : Nat → Addr) : List V → Hp → VK → Prop := fun vs H Q => ∃ ρ M d t es, Rep ⟨X.K, cl⟩ H ρ M ∧ (∃ v, vs = [v] ∧ DR X.K H ρ v d) ∧ seqOf M d = some (t, es) ∧
  ((∃ ns, intsOf es = some ns ∧ ns.length < 64 ∧ ∀ a c, H a = none → c ≤ ns.length → Q (.ref a) (upd H a (SetO X.w a (fun j => decide (j ∈ ns)) c))) ∨
   (tupsOk es = true ∧ es.length < 64 ∧ ∀ a L, H a = none → (∀ p ∈ L, Goes X H ρ es p) → (∀ d ∈ es, d.nk ∈ L.map (·.2)) → (L.map (·.2)).Nodup → Q (.ref a) (upd H a (NSetO X.w a L))))
theorem walked_of (I : Inv X pins σ H s) {l : Addr} {xs : List V} {t : Bool} (h : (t = true ∧ SqT X.K H l xs) ∨ (t = false ∧ SqL X.K H l xs)) : ∃ its : List Value, Vals xs its ∧ Walked X.prog X.w s.heap l its.toArray := by
  rcases h with ⟨_, h⟩ | ⟨_, h⟩
  · obtain ⟨its, r, hT, _⟩ := I.tuple h
    exact ⟨its, r, .tuple hT⟩
  · obtain ⟨its, r, hL, _⟩ := I.list h
    exact ⟨its, r, .list hL.isList⟩
/-- the tuples' addresses and keys -/
theorem keyed_of (I : Inv X pins σ H s) (es0 : List D) : ∀ {xs : List V} {us : List Value} {es : List D}, Vals xs us → DRs X.K H ρ xs es → (∀ d ∈ es, d ∈ es0 ∧ isTup d = true ∧ d.plain = true ∧ d.nk.depth ≤ 8) →
    ∃ ks : List (Addr × NestedKey), us = ks.map (fun p => Value.ref p.1) ∧ ks.map (·.2) = es.map D.nk ∧ (∀ p ∈ ks, IsN s.heap p.2 p.1 ∧ Goes X H ρ es0 p) ∧ ks.length = es.length
  | _, _, _, .nil, .nil, _ => ⟨[], rfl, rfl, fun p h => absurd h (by simp), rfl⟩
  | _, _, _, .cons r rs, .cons (d := d) h hs, q => by
    obtain ⟨ks, e1, e2, e3, e4⟩ := keyed_of I es0 rs hs fun d hd => q d (List.mem_cons_of_mem _ hd)
    obtain ⟨q0, q1, q2, q3⟩ := q d List.mem_cons_self
    have nv := dr_nv I h r q2
    cases h with
    | tup g gs =>
      cases r
      refine ⟨(_, D.nk (.tup _)) :: ks, by rw [List.map_cons, e1], by rw [List.map_cons, e2, List.map_cons], fun p hp => ?_, by rw [List.length_cons, List.length_cons, e4]⟩
      rcases List.mem_cons.mp hp with e | hp
      · subst e
        exact ⟨⟨nv.nested, q3⟩, _, q0, rfl, .tup g gs⟩
      · exact e3 p hp
    | _ => simp [isTup] at q1
theorem tupsOk_each {ds : List D} (h : tupsOk ds = true) : ∀ d ∈ ds, d ∈ ds ∧ isTup d = true ∧ d.plain = true ∧ d.nk.depth ≤ 8 := fun d hd => by
  unfold tupsOk at h
  rw [Bool.and_eq_true] at h
  have z := List.all_eq_true.mp h.1 d hd
  simp only [Bool.and_eq_true, decide_eq_true_eq] at z
  exact ⟨hd, z.1.1, z.1.2, z.2⟩
theorem c_setG (hc : X.calm = true) (hu : X.A.units + 150 < cLine) : CallR X (.type "set") (rSetG X cl) := by
  intro pins s σ H vs us Q I rv q
  obtain ⟨ρ, M, d, t, es, R, ⟨v, rfl, ra⟩, hq, q⟩ := q
  obtain ⟨a, ys, rfl, hr, hs⟩ := seqOf_ok R ra hq
  rw [Vals.ref1 rv]
  obtain ⟨its, rl, wk⟩ := walked_of I hs
  have hn : H s.heap.objs.size = none := I.hok.fresh (Nat.le_refl _)
  rcases q with ⟨ns, hb, hl, k⟩ | ⟨ok, hl, k⟩
  · rw [intsOf_ok hr hb] at rl
    refine set_of_walked (I.ok.hd hc) wk (fills_ints ns (by simpa using ints_of_vals rl) (by unfold scanBound; omega)) fun h' tk ⟨c, hcn, R2⟩ kp => ?_
    exact ⟨.ref s.heap.objs.size, upd H s.heap.objs.size (SetO X.w s.heap.objs.size (fun j => decide (j ∈ ns)) c), I.laid (t' := tk) kp (Nat.le_refl _) (setO_new R2), rfl, k _ c hn hcn⟩
  · obtain ⟨ks, e1, e2, e3, e4⟩ := keyed_of (s := s) I es rl hr (tupsOk_each ok)
    refine set_of_walked (I.ok.hd hc) wk (fills_keys rfl ks (by simpa using e1) (by omega) (fun p hp => (e3 p hp).1) (by simp only [Around.in1_units]; omega)) fun h' tk ⟨L, es', ep, tb, R2, g⟩ kp => ?_
    refine ⟨.ref s.heap.objs.size, upd H s.heap.objs.size (NSetO X.w s.heap.objs.size L), I.laid (t' := tk) kp (Nat.le_refl _) (nsetO_ok ⟨es', ep, tb, R2.ob, R2.rows, R2.tab, R2.nd, R2.led, R2.room, R2.few⟩), rfl, k _ L hn (fun p hp => ?_) (fun d hd => ?_) R2.nd⟩
    · exact (e3 p (List.mem_of_mem_take (g.1 p hp))).2
    · have : d.nk ∈ ks.map (·.2) := by rw [e2]; exact List.mem_map.mpr ⟨d, hd, rfl⟩
      obtain ⟨p, hp, e⟩ := List.mem_map.mp this
      rw [← e]
      exact g.2.1 p (by rw [List.take_length]; exact hp)

/-- sorted(set) -/
def rSortN (X : Cx) : List V → Hp → VK → Prop := fun vs H Q => ∃ ρ a L es, vs = [V.ref a] ∧ H a = some (NSetO X.w a L) ∧ tupsOk es = true ∧ (∀ p ∈ L, Goes X H ρ es p) ∧
  ∀ xs out es1 p, DRs X.K H ρ xs out → out.Perm es1 → (∀ d ∈ es1, d ∈ es) → (es1.map D.nk).Perm (L.map (·.2)) → out.Pairwise (fun a b => leD a b = true) → out.length < 64 → H p = none → Q (.ref p) (upd H p (.lst xs))
theorem perm_map_back {α β : Type} (f : α → β) : ∀ {bs : List β} {as : List α}, bs.Perm (as.map f) → ∃ as' : List α, as'.Perm as ∧ bs = as'.map f := by
  intro bs as h
  generalize e : as.map f = cs at h
  induction h generalizing as with
  | nil => exact ⟨[], by rw [List.map_eq_nil_iff.mp e], rfl⟩
  | cons x _ ih =>
    cases as with
    | nil => cases e
    | cons a as =>
      rw [List.map_cons, List.cons.injEq] at e
      obtain ⟨as', p, e2⟩ := ih e.2
      exact ⟨a :: as', p.cons a, by rw [List.map_cons, e.1, e2]⟩
  | swap x y l =>
    match as, e with
    | a :: b :: as, e =>
      simp only [List.map_cons, List.cons.injEq] at e
      exact ⟨b :: a :: as, .swap .., by simp [e.1, e.2.1, e.2.2]⟩
  | trans _ _ ih1 ih2 =>
    obtain ⟨a1, p1, e1⟩ := ih2 e
    obtain ⟨a2, p2, e2⟩ := ih1 e1.symm
    exact ⟨a2, p2.trans p1, e2⟩
theorem goes_each {es : List D} : ∀ {L1 : List (Addr × NestedKey)}, (∀ p ∈ L1, Goes X H ρ es p) → ∃ ds, EachIs (UD X H ρ) (L1.map fun p => Value.ref p.1) ds ∧ (∀ d ∈ ds, d ∈ es) ∧ ds.map D.nk = L1.map (·.2)
  | [], _ => ⟨[], .nil, fun d h => absurd h (by simp), rfl⟩
  | p :: L1, h => by
    obtain ⟨ds, h1, h2, h3⟩ := goes_each fun q hq => h q (List.mem_cons_of_mem _ hq)
    obtain ⟨d, m, e, r⟩ := h p List.mem_cons_self
    refine ⟨d :: ds, .cons ⟨V.ref p.1, show RelV (V.ref p.1) (Value.ref p.1) from rfl, r⟩ h1, fun x hx => ?_, by rw [List.map_cons, List.map_cons, h3, e]⟩
    rcases List.mem_cons.mp hx with z | z
    · rw [z]; exact m
    · exact h2 x z
theorem c_sortN (hc : X.calm = true) (hu : X.A.units + 150 < cLine) : CallR X (.builtin "sorted") (rSortN X) := by
  intro pins s σ H vs us Q I rv q
  obtain ⟨ρ, a, L, es, rfl, ha, ok, goes, k⟩ := q
  rw [Vals.ref1 rv]
  obtain ⟨R0, _, _⟩ := I.hok a _ ha
  obtain ⟨et, ep, t, ⟨o, ho, hex, hd⟩, rows, tab, nd, led, room, few⟩ := (show SetN0 X.w s.heap a L from R0)
  obtain ⟨keys, pl⟩ := tupsOk_keys ok
  have sz := rows_size rows
  have fits : t.fits et.size = true := by
    have h1 := tab.sz
    rw [List.length_map] at h1
    exact table_fits (by omega) tab.dm (by omega)
  refine Calls.call_function_entry PyProof.Rows.kind_sorted PyProof.Rows.plain_sorted PyProof.Rows.entry_sorted (PyProof.Rows.args_sorted1 _) ?_
  unfold Builtin.«sorted»
  refine wpAny_bind (m := checkCount "sorted" 1 1 _) (wpAny_pure ?_)
  refine wpAny_bind (collect_set (A := X.A.in1) (I.ok.hd hc) ⟨o, ho, hex.1, hd⟩ fits (by unfold scanBound; omega) tab.ris led fun s1 ws k1 hz g1 o1 pm => ?_)
  have hv : et.toList.map (·.2) = L.map fun p => Value.ref p.1 := by
    rw [rows, List.map_map] <;> rfl
  rw [hv] at pm
  obtain ⟨L1, pL, rfl⟩ := perm_map_back (fun p : Addr × NestedKey => Value.ref p.1) pm
  obtain ⟨ds, eu, sub, nks⟩ := goes_each fun p hp => goes p (pL.mem_iff.mp hp)
  have hlen : (L1.map fun p => Value.ref p.1).length ≤ sizeLine := by rw [List.length_map, pL.length_eq, sizeLine_eq]; omega
  refine wpAny_bind (wpAny_newList ?_ hlen)
  have hL : (s1.heap.push (PyProof.Rows.seqObj "list" (L1.map fun p => Value.ref p.1).toArray 0)).get? s1.heap.objs.size = some (PyProof.Rows.seqObj "list" (L1.map fun p => Value.ref p.1).toArray 0) := Heap.get?_push_size _ rfl
  generalize hus : (L1.map fun p => Value.ref p.1) = us at *
  generalize hh2 : s1.heap.push (PyProof.Rows.seqObj "list" us.toArray 0) = h2 at *
  have kp : ∀ b o, s.heap.get? b = some o → h2.get? b = some o := fun b o e => by rw [← hh2]; exact Heap.get?_push_of_some _ (k1 b o e)
  have kp3 : ∀ b o vs n, s.heap.get? b = some o → o.data = .seq vs n → o.cls = .type "tuple" → (sortingHeap h2 s1.heap.objs.size us).get? b = some o := fun b o _ _ e _ _ => by
    refine PySem.W.sortingHeap_old (fun z => ?_) (kp b o e)
    exact absurd (Heap.lt_size (k1 b o e)) (by rw [z]; exact Nat.lt_irrefl _)
  have ek : EachIs (fun u d => d.nk ∈ es.map D.nk ∧ NV (sortingHeap h2 s1.heap.objs.size us) d.nk u) us ds :=
    each_with eu fun u d hd ⟨v, z1, z2⟩ => ⟨List.mem_map.mpr ⟨d, sub d hd, rfl⟩, (dr_nv I z2 z1 (pl d (sub d hd))).at kp3⟩
  obtain ⟨out, w1, w2, w3⟩ := sorted_goes eu ek
  refine wpAny_bind (wpAny_holding (wpAny_call_entry PyProof.Rows.slot_list_sort ⟨_, hL, rfl⟩ PyProof.Rows.entry_list_sort
    (list_sort_vals (s := { s1 with heap := h2 }) (κ := keysKind (sortingHeap h2 s1.heap.objs.size us) (es.map D.nk)) hL (sortsAt_keys keys (fun u hu2 => ?_) (by simp only [Around.in1_units]; omega)) hlen ⟨_, rfl, ?_⟩) (PyProof.Rows.args_list_sort _)))
  · obtain ⟨d, _, z⟩ := ek.left u hu2
    exact ⟨_, z.1, z.2⟩
  · obtain ⟨c, hc2⟩ := PyProof.Rows.sortedHeap_at (vs := us) (out := (sortVals (keysKind (sortingHeap h2 s1.heap.objs.size us) (es.map D.nk)) false us us).toArray) hL
    obtain ⟨xs, v1, v2⟩ := ud_back w1
    have hn : H s1.heap.objs.size = none := I.hok.fresh hz
    have l1 : xs.length = us.length := by rw [v1.length, PySem.W.sortVals_length false rfl]
    have old : ∀ b u, s.heap.get? b = some u → (PyProof.Rows.sortedHeap h2 s1.heap.objs.size us (sortVals (keysKind (sortingHeap h2 s1.heap.objs.size us) (es.map D.nk)) false us us).toArray).get? b = some u := fun b u e => by
      have lt := Heap.lt_size (k1 b u e)
      rw [PyProof.Rows.sortedHeap_old (Nat.ne_of_lt lt) (by rw [← hh2, Heap.size_push]; exact Nat.lt_succ_of_lt lt)]
      exact kp b u e
    refine wpAny_pure ⟨_, rfl, ?_⟩
    generalize PyProof.Rows.sortedHeap h2 s1.heap.objs.size us (sortVals (keysKind (sortingHeap h2 s1.heap.objs.size us) (es.map D.nk)) false us us).toArray = h3 at hc2 old ⊢
    have J : Inv X pins σ (upd H s1.heap.objs.size (.lst xs)) { s with heap := h3, gens := s1.gens, drawn := s1.drawn, toks := s1.toks } :=
      I.call (ch := []) (Un.laid old hz hn) (I.hok.laid old hz ⟨by rw [l1]; exact hlen, _, c, v1, hc2⟩) (by rw [g1]; exact I.bare) (fun _ z => nomatch z)
    have e2 : ({ s1 with heap := h3 } : Shared) = { s with heap := h3, gens := s1.gens, drawn := s1.drawn, toks := s1.toks } := by
      cases s1
      cases s
      cases o1
      rfl
    rw [e2]
    refine ⟨.ref s1.heap.objs.size, _, J, rfl, ?_⟩
    refine k xs out ds _ v2 w2 sub (by rw [nks]; exact pL.map _) w3 ?_ hn
    have l2 := eu.length
    rw [w2.length_eq, ← l2, ← hus, List.length_map, pL.length_eq]
    exact few

def dedupI : List Int → List Int
  | [] => []
  | n :: ns => if (ns.any fun m => decide (m = n)) = true then dedupI ns else n :: dedupI ns
theorem mem_dedupI {x : Int} : ∀ {ns : List Int}, x ∈ dedupI ns ↔ x ∈ ns
  | [] => Iff.rfl
  | n :: ns => by
    have ih := mem_dedupI (x := x) (ns := ns)
    rw [dedupI, List.mem_cons]
    split
    · rename_i c
      obtain ⟨m, hm, e⟩ := List.any_eq_true.mp c
      rw [ih]
      refine ⟨.inr, fun h => h.elim (fun z => ?_) id⟩
      rw [z, ← of_decide_eq_true e]
      exact hm
    · rw [List.mem_cons, ih]
theorem dedupI_nodup : ∀ ns : List Int, (dedupI ns).Nodup
  | [] => List.nodup_nil
  | n :: ns => by
    rw [dedupI]
    split
    · exact dedupI_nodup ns
    · rename_i c
      refine List.nodup_cons.mpr ⟨fun h => c (List.any_eq_true.mpr ⟨n, mem_dedupI.mp h, by simp⟩), dedupI_nodup ns⟩
theorem sortDedup_of {ns out : List Int} (s : out.Pairwise (· < ·)) (m : ∀ k, k ∈ out ↔ k ∈ ns) : out = sortI (dedupI ns) := by
  refine sortI_of ?_ (s.imp fun h => Int.le_of_lt h)
  exact (List.perm_ext_iff_of_nodup (s.imp fun h e => by omega) (dedupI_nodup ns)).mpr fun k => (m k).trans mem_dedupI.symm
/-- sorted(set(xs)) -/
def sortSetF : F1 := fun ds M => match ds with
  | [d] => match seqOf M d with
    | some (_, es) => if es.length < 64 then (match intsOf es with
      | some ns => some (.lst ((sortI (dedupI ns)).map D.int), M)
      | none => if tupsOk es = true then some (.lst (sortD (dedupD es)), M) else none) else none
    | _ => none
  | _ => none
theorem intsOf_len : ∀ {es : List D} {ns : List Int}, intsOf es = some ns → ns.length = es.length := by
  intro es
  induction es with
  | nil => intro ns h; simp [intsOf] at h; subst h; rfl
  | cons d es ih =>
    intro ns h
    cases d with
    | int i =>
      simp only [intsOf] at h
      cases h2 : intsOf es with
      | none => rw [h2] at h; cases h
      | some ms =>
        rw [h2] at h
        cases h
        rw [List.length_cons, List.length_cons, ih h2]
    | _ => simp [intsOf] at h
theorem ge_sortset {e : Expr} {me : ME} {p p2 q pos : Pos} (hu : X.A.units + 150 < cLine) (hc : X.calm = true) (hg : Gl X "sorted") (hm : X.mg "sorted" = none) (hg2 : Gl X "set") (hm2 : X.mg "set" = none) (he : GE cl X e me)
    (n1 : starEach [e] X.env = (false, eval e X.env) :: starEach [] X.env := by rfl) (n2 : starEach [.Call (.Name "set" p2) [e] [] q] X.env = (false, eval (.Call (.Name "set" p2) [e] [] q) X.env) :: starEach [] X.env := by rfl) :
    GE cl X (.Call (.Name "sorted" p) [.Call (.Name "set" p2) [e] [] q] [] pos) (mUn sortSetF me) := by
  have inner := pe_callTy (pos := q) (p := p2) (c_setG (cl := cl) hc hu) hg2 hm2 PyProof.Rows.boot_set (pa_cons he pa_nil n1) (by decide) (by decide) n1
  have tups := pe_callB (pos := pos) (p := p) (r := fun vs H Q => rSortN X vs H Q ∨ rSortedSet X.w vs H Q) (fun pins s σ H xs us Q I r h => h.elim (fun h => c_sortN hc hu pins s σ H xs us Q I r h) fun h => cr_sortedSet hc pins s σ H xs us Q I r h)
    hg hm PyProof.Rows.boot_sorted (pa_cons inner pa_nil n2) (by decide) (by decide) n2
  refine tups.imp fun σ H Q q => ?_
  obtain ⟨ρ, lo, M, d, M', R, L, e, k⟩ := q
  unfold mUn mCall at e
  split at e
  · rename_i ds M1 h1
    unfold mOne at h1
    obtain ⟨d0, M2, ds', e1, e2, rfl⟩ := mCons_some h1
    cases e2
    refine ⟨ρ, lo, M, d0, _, R, L, e1, fun v H1 ρ1 g1 R1 r1 => ?_⟩
    unfold sortSetF at e
    simp only at e
    split at e
    · rename_i t es hq
      split at e
      · rename_i few
        refine ⟨ρ1, _, d0, t, es, R1, ⟨v, rfl, r1⟩, hq, ?_⟩
        split at e
        · rename_i ns hb
          cases e
          have hl := intsOf_len hb
          refine .inl ⟨ns, hb, by omega, fun a c hn hcn => .inr ⟨a, _, c, rfl, upd_same, by omega, fun out p2 o1 o2 o3 hp => ?_⟩⟩
          have eo : out = sortI (dedupI ns) := sortDedup_of o1 fun k => by rw [o2]; simp
          subst eo
          exact k _ _ ρ1 (g1.trans ((Gr.new hn).trans (.new hp))) ((R1.new hn).new hp) (.newLst hp ((R1.new hn).fresh hp) (.ints _))
        · split at e
          · rename_i hok
            cases e
            have pl := (tupsOk_keys hok).2
            refine .inr ⟨hok, few, fun a L2 hn goes all nd => .inl ⟨ρ1, a, L2, es, rfl, upd_same, hok, fun p hp => ?_, fun xs out es1 p2 o1 o2 o3 o4 o5 o6 hp => ?_⟩⟩
            · obtain ⟨d1, m1, z1, z2⟩ := goes p hp
              exact ⟨d1, m1, z1, z2.mono (.new hn)⟩
            · have eo : out = sortD (dedupD es) := sortSet_of pl o3 (fun d hd => by rw [o4.mem_iff]; exact all d hd) (o4.nodup_iff.mpr nd) o2 o5
              subst eo
              exact k _ _ ρ1 (g1.trans ((Gr.new hn).trans (.new hp))) ((R1.new hn).new hp) (.newLst hp ((R1.new hn).fresh hp) o1)
          · cases e
      · cases e
    · cases e
  · cases e
end
end G

set_option Elab.async false
set_option linter.all false
set_option maxRecDepth 100000
/-! All defs of a text at once: level by level. -/
namespace G
open PySem PySem.Spec L2
open PyProof.Rows (envOfC)

theorem gw_pt {X : Cx} {cl : Nat → Addr} {e : Expr} {m : MT} (h : GW cl X e m) : GT cl X e m := h.pt
/-- a def whose things are kept -/
def fnFK (nl : Nat) (body : MS) : F1 := fun ds M => match body (ds.map some ++ List.replicate (nl - ds.length) none) M with
  | some (.rt d M') => some (d, M')
  | some (.nx _ M') => some (.non, M')
  | _ => none
section
variable {P : Program} {w : World} {K : PySem.W.Frag} {mg : Str → Option Value} {base : Heap} {x qual : Str} {params : Arguments} {body : List Stmt} {scope : Scope} {f : Addr} {fd : FuncData} {cl : Nat → Addr}
theorem fn_okK {N ps : List Str} {k : Nat} {m : MS} (F : FunD K x qual params body scope [] [] f fd) (S : FnScope N ps scope)
    (hb : ∀ (cdv : Value) (A : Around) (outer : List PySem.Env) (s : Shared) (H : Hp) (E : XK), Room k (A.deeper (envOfC qual scope s.heap.objs.size f cdv)) → GB cl (cxOf CX0 P w K mg base N qual scope f cdv A outer s H E).nox body m) :
    FnOk P w K mg base CX0 (k + 1) f fd ps (spG cl K ps.length (fnFK N.length m)) := by
  refine F.ok S (fun vs H Q E h => h.1) (fun cdv A outer s H vs Q E hr h => ⟨tS ⟨K, cl⟩ m, PSs.nox (hb cdv A outer s H E hr), ?_⟩)
  obtain ⟨hl, ρ, M, ds, d, M', R, r, e, k⟩ := h
  unfold fnFK at e
  split at e
  · rename_i d1 M1 h1
    cases e
    exact ⟨ρ, _, M, _, R, .start N r, h1, fun v H' ρ' g R' r' => k v H' ρ' g R' r'⟩
  · rename_i lo1 M1 h1
    cases e
    exact ⟨ρ, _, M, _, R, .start N r, h1, fun σ' H' ρ' g R' _ => k .non H' ρ' g R' .non⟩
  · cases e
end

/-- a def of the text: where it stands, what it says, what it means -/
structure FnI where
  at_ : Str × Option Str
  name : Str
  qual : Str
  st : Stmt
  N : List Str
  ps : List Str
  keep : Bool
  m : (Nat → F1) → MS
def FnI.dd (I : FnI) : He.DefD := ⟨I.at_, I.name, I.qual, defArgs I.st, defBody I.st, defScope I.st, [], []⟩
def FnI.fn (I : FnI) (F : Nat → F1) : F1 := if I.keep = true then fnFK I.N.length (I.m F) else fnF I.N.length (I.m F)
/-- what the defs are, n levels deep -/
def Fk (fns : List FnI) : Nat → Nat → F1
  | 0 => fun _ _ _ => none
  | k + 1 => fun i => match fns[i]? with
    | some I => I.fn (Fk fns k)
    | none => fun _ _ => none
/-- what the text names -/
structure Tabs where
  tf : List (Str × Nat)
  tm : List (Nat × Str × Nat × Nat)
  tk : List (Str × Nat × Nat)
  tg : List (Str × D)
  te : List Str
  ta : List (Nat × Str)
abbrev EnvT (T : Tabs) (P : Program) (w : World) (K : PySem.W.Frag) (mg : Str → Option Value) (base : Heap) (A : Around) (cl : Nat → Addr) (F : Nat → F1) : Prop := Env P w K mg base A cl F T.tf T.tm T.tk T.tg T.te T.ta T.tk.length
/-- a def's body means what it says -/
structure Good (T : Tabs) (I : FnI) : Prop where
  sc : FnScope I.N I.ps (defScope I.st)
  bd : ∀ {K : PySem.W.Frag} {f : Addr} {fd : FuncData}, FunD K I.name I.qual (defArgs I.st) (defBody I.st) (defScope I.st) [] [] f fd → Binds K fd I.ps []
  der : ∀ {P : Program} {w : World} {K : PySem.W.Frag} {mg : Str → Option Value} {base : Heap} {cl : Nat → Addr} {F : Nat → F1} {f : Addr} {cdv : Value} {A : Around} {outer : List PySem.Env} {s : Shared} {H : Hp} {E : XK},
    EnvT T P w K mg base (A.deeper (envOfC I.qual (defScope I.st) s.heap.objs.size f cdv)) cl F → GB cl (cxOf CX0 P w K mg base I.N I.qual (defScope I.st) f cdv A outer s H E).nox (defBody I.st) (I.m F)
/-- the classes' addresses -/
def clK (T : Tabs) (K : PySem.W.Frag) (c : Nat) : Addr := He.ga K ((T.tk[c]?.map (·.1)).getD "")
/-- the facts that the head is asked for -/
def Tabs.fas (T : Tabs) : List He.Fa := T.tf.map (fun p => .glo p.1) ++ T.tk.map (fun p => .glo p.1) ++ T.te.map .free ++ T.tk.map (fun p => .cls p.1) ++ T.tk.map (fun p => .mkr p.1) ++
  T.tm.map (fun p => .meth ((T.tk[p.1]?.map (·.1)).getD "") p.2.1) ++ T.ta.map fun p => .noat ((T.tk[p.1]?.map (·.1)).getD "") p.2
def Tabs.ex (T : Tabs) (K : PySem.W.Frag) : Bool := T.tg.all fun p => globB K p.1 p.2
/-- the tables speak of the defs -/
def Tabs.okB (T : Tabs) (fns : List FnI) : Bool :=
  ((List.range T.tf.length).all fun i => match T.tf[i]?, fns[i]? with
    | some p, some I => decide (I.at_ = (p.1, none)) && decide (I.ps.length = p.2)
    | _, _ => false) &&
  (T.tm.all fun p => match T.tk[p.1]?, fns[p.2.2.2]? with
    | some q, some I => decide (I.at_ = (q.1, some p.2.1)) && decide (I.ps.length = p.2.2.1)
    | _, _ => false) &&
  (T.tk.all fun q => match fns[q.2.2]? with
    | some I => decide (I.at_ = (q.1, some ("__init__" : Str))) && decide (I.ps.length = q.2.1)
    | _ => false)
section
variable {T : Tabs} {fns : List FnI} {P : Program} {w : World} {K : PySem.W.Frag} {mg : Str → Option Value} {base h : Heap}
/-- what the head says -/
structure Said (T : Tabs) (fns : List FnI) (K : PySem.W.Frag) (mg : Str → Option Value) : Prop where
  fn : ∀ (i : Nat) (I : FnI), fns[i]? = some I → ∃ fd, FunD K I.name I.qual (defArgs I.st) (defBody I.st) (defScope I.st) [] [] (He.fAd K I.at_) fd
  glo : ∀ p ∈ T.tf, mg p.1 = some (.ref (He.ga K p.1))
  gloK : ∀ p ∈ T.tk, mg p.1 = some (.ref (He.ga K p.1))
  free : ∀ x ∈ T.te, mg x = none
  cls : ∀ p ∈ T.tk, Cls K (He.ga K p.1)
  mkr : ∀ p ∈ T.tk, Mk K (He.ga K p.1) (He.ma K (He.ga K p.1) "__init__")
  meth : ∀ p ∈ T.tm, Meth K (He.ga K ((T.tk[p.1]?.map (·.1)).getD "")) p.2.1 (He.ma K (He.ga K ((T.tk[p.1]?.map (·.1)).getD "")) p.2.1)
  noat : ∀ p ∈ T.ta, NoAttr K (He.ga K ((T.tk[p.1]?.map (·.1)).getD "")) p.2
  glob : ∀ p ∈ T.tg, GlobD K mg p.1 p.2
theorem said_of (X : K.In h) (N : h.Ns mainGlobals mg) (c : He.SaysX T.fas (fns.map FnI.dd) [] [] T.ex w h K) : Said T fns K mg := by
  have d := c.t.d
  have fact : ∀ f ∈ T.fas, f.ok K = true := fun f hf => He.SaysD.facts d hf
  have mem := @List.mem_append He.Fa
  refine ⟨fun i I hI => ?_, fun p hp => ?_, fun p hp => ?_, fun x hx => ?_, fun p hp => ?_, fun p hp => ?_, fun p hp => ?_, fun p hp => ?_, fun p hp => ?_⟩
  · exact d.def_ i (d := I.dd) (by rw [List.getElem?_map, hI] <;> rfl)
  · exact He.glo_ok X N (fact (.glo p.1) (by unfold Tabs.fas; simp only [List.mem_append, List.mem_map]; simp; exact .inl ⟨_, hp⟩))
  · exact He.glo_ok X N (fact (.glo p.1) (by unfold Tabs.fas; simp only [List.mem_append, List.mem_map]; simp; exact .inr ⟨_, _, hp⟩))
  · exact He.free_ok X N (fact (.free x) (by unfold Tabs.fas; simp only [List.mem_append, List.mem_map]; simp; exact hx))
  · exact He.cls_ok (fact (.cls p.1) (by unfold Tabs.fas; simp only [List.mem_append, List.mem_map]; simp; exact ⟨_, _, hp⟩))
  · exact He.mkr_ok (fact (.mkr p.1) (by unfold Tabs.fas; simp only [List.mem_append, List.mem_map]; simp; exact ⟨_, _, hp⟩))
  · exact He.meth_ok (fact (.meth _ p.2.1) (by unfold Tabs.fas; simp only [List.mem_append, List.mem_map]; exact .inl (.inr ⟨p, hp, rfl⟩)))
  · exact He.noat_ok (fact (.noat _ p.2) (by unfold Tabs.fas; simp only [List.mem_append, List.mem_map]; exact .inr ⟨p, hp, rfl⟩))
  · exact globB_ok X N (List.all_eq_true.mp c.more p hp)
/-- THE LEVELS -/
theorem levels (S : Said T fns K mg) (ok : T.okB fns = true) (good : ∀ (i : Nat) (I : FnI), fns[i]? = some I → Good T I) :
    ∀ (k i : Nat) (I : FnI) (fd : FuncData), fns[i]? = some I → FunD K I.name I.qual (defArgs I.st) (defBody I.st) (defScope I.st) [] [] (He.fAd K I.at_) fd →
      FnOk P w K mg base CX0 (2 * k) (He.fAd K I.at_) fd I.ps (spG (clK T K) K I.ps.length (Fk fns k i)) := by
  unfold Tabs.okB at ok
  simp only [Bool.and_eq_true] at ok
  obtain ⟨⟨ok1, ok2⟩, ok3⟩ := ok
  intro k
  induction k with
  | zero => exact fun i I fd hI F => fn_zero
  | succ k ih =>
    intro i I fd hI F
    have g := good i I hI
    have env : ∀ {A : Around}, Room (2 * k + 1) A → EnvT T P w K mg base A (clK T K) (Fk fns k) := fun {A} hr => by
      refine ⟨hr.mono (by omega), fun j x n hj => ?_, fun j c m n l hj => ?_, fun c x n l hj => ?_, fun j x d hj => S.glob _ (List.mem_of_getElem? hj), fun j x hj => S.free _ (List.mem_of_getElem? hj), fun c hc => ?_, fun j c f hj => S.noat _ (List.mem_of_getElem? hj)⟩
      · have z := List.all_eq_true.mp ok1 j (List.mem_range.mpr (List.getElem?_eq_some_iff.mp hj).1)
        rw [hj] at z
        cases h1 : fns[j]? with
        | none => rw [h1] at z; cases z
        | some J =>
          rw [h1] at z
          simp only [Bool.and_eq_true, decide_eq_true_eq] at z
          obtain ⟨fd2, F2⟩ := S.fn j J h1
          have a1 := ih j J fd2 h1 F2
          have b1 := (good j J h1).bd F2
          have kp := F2.kp
          rw [z.1] at a1 kp
          rw [z.2] at a1
          exact ⟨2 * k, He.ga K x, fd2, J.ps, z.2, a1, hr, S.glo _ (List.mem_of_getElem? hj), kp, b1⟩
      · have z := List.all_eq_true.mp ok2 _ (List.mem_of_getElem? hj)
        simp only at z
        have hm := S.meth _ (List.mem_of_getElem? hj)
        simp only at hm
        cases h0 : T.tk[c]? with
        | none => rw [h0] at z; cases z
        | some q =>
          rw [h0] at z hm
          cases h1 : fns[l]? with
          | none => rw [h1] at z; cases z
          | some J =>
            rw [h1] at z
            simp only [Bool.and_eq_true, decide_eq_true_eq] at z
            obtain ⟨fd2, F2⟩ := S.fn l J h1
            have a1 := ih l J fd2 h1 F2
            have b1 := (good l J h1).bd F2
            rw [z.1] at a1
            rw [z.2] at a1
            have ec : clK T K c = He.ga K q.1 := by unfold clK; rw [h0] <;> rfl
            exact ⟨2 * k, He.ma K (He.ga K q.1) m, fd2, J.ps, z.2, a1, hr, by rw [ec]; exact S.cls _ (List.mem_of_getElem? h0), by rw [ec]; exact hm, b1⟩
      · have z := List.all_eq_true.mp ok3 _ (List.mem_of_getElem? hj)
        simp only at z
        cases h1 : fns[l]? with
        | none => rw [h1] at z; cases z
        | some J =>
          rw [h1] at z
          simp only [Bool.and_eq_true, decide_eq_true_eq] at z
          obtain ⟨fd2, F2⟩ := S.fn l J h1
          have a1 := ih l J fd2 h1 F2
          have b1 := (good l J h1).bd F2
          rw [z.1] at a1
          rw [z.2] at a1
          have ec : clK T K c = He.ga K x := by unfold clK; rw [hj] <;> rfl
          exact ⟨2 * k, He.ma K (He.ga K x) "__init__", fd2, J.ps, z.2, a1, hr, by rw [ec]; exact S.gloK _ (List.mem_of_getElem? hj), by rw [ec]; exact S.mkr _ (List.mem_of_getElem? hj), b1⟩
      · obtain ⟨q, hq⟩ : ∃ q, T.tk[c]? = some q := ⟨_, List.getElem?_eq_getElem hc⟩
        have ec : clK T K c = He.ga K q.1 := by unfold clK; rw [hq] <;> rfl
        rw [ec]
        exact S.cls _ (List.mem_of_getElem? hq)
    show FnOk P w K mg base CX0 (2 * k + 1 + 1) _ fd I.ps (spG (clK T K) K I.ps.length (Fk fns (k + 1) i))
    have e : Fk fns (k + 1) i = I.fn (Fk fns k) := by
      show (match fns[i]? with | some I => I.fn (Fk fns k) | none => fun _ _ => none) = _
      rw [hI]
    rw [e]
    unfold FnI.fn
    split
    · exact fn_okK F g.sc fun cdv A outer s H E hr => g.der (env hr)
    · exact fn_ok F g.sc fun cdv A outer s H E hr => g.der (env hr)
end

/-! ### the law's own promise -/
theorem sp_law {K : PySem.W.Frag} {cl : Nat → Addr} {f : F1} {H : Hp} {a : Addr} {ns : List Int} {E : XK} (hO : Only H) (hS : SqL K H a (ns.map V.int)) (h : ∃ M, f [.rol (ns.map D.int)] [] = some (.bl true, M)) : spG cl K 1 f [.ref a] H (fun v _ => v = .bl true) E := by
  obtain ⟨M, h⟩ := h
  refine ⟨rfl, ⟨[], []⟩, [], _, _, M, ⟨List.nodup_nil, rfl, fun a h => (by cases h), fun i a o h => (by simp at h)⟩, .cons (.rol ?_ (.ints ns)) .nil, h, fun v H' ρ' g R r => by cases r; rfl⟩
  rcases hS with (h | ⟨o, h⟩) | h
  · rcases hO a with z | ⟨o, xs, z⟩
    · rw [h] at z; cases z
    · rw [h] at z; cases z
  · exact .inl ⟨o, h, Rh.not_mem (by simp) (by simp)⟩
  · exact .inr h
/-- is of two truth values -/
def isBF : F1 := fun ds M => match ds with
  | [.bl a, .bl b] => some (.bl (decide (a = b)), M)
  | _ => none
def notBF : F1 := fun ds M => match ds with
  | [.bl a, .bl b] => some (.bl (!decide (a = b)), M)
  | _ => none
theorem isBF_some {ds : List D} {M M' : Mo} {d : D} (e : isBF ds M = some (d, M')) : ∃ a b, ds = [.bl a, .bl b] ∧ d = .bl (decide (a = b)) ∧ M' = M := by
  unfold isBF at e
  split at e
  · cases e
    exact ⟨_, _, rfl, rfl, rfl⟩
  · cases e
theorem notBF_some {ds : List D} {M M' : Mo} {d : D} (e : notBF ds M = some (d, M')) : ∃ a b, ds = [.bl a, .bl b] ∧ d = .bl (!decide (a = b)) ∧ M' = M := by
  unfold notBF at e
  split at e
  · cases e
    exact ⟨_, _, rfl, rfl, rfl⟩
  · cases e
theorem o_isB {X : Cx} {cl : Nat → Addr} : OpR X (compareOp .Is) (r2 ⟨X.K, cl⟩ isBF) := by
  intro pins s σ H x y v u Q I rx ry q
  obtain ⟨ρ, M, ds, d, M', R, r, e, k⟩ := q
  obtain ⟨a, b, rfl, rfl, rfl⟩ := isBF_some e
  obtain ⟨v1, u1, e1, ra, rb⟩ := r.pair
  cases e1
  cases ra
  cases rb
  exact op_is_bl pins s σ H _ _ v u Q I rx ry ⟨a, b, rfl, rfl, k _ H ρ (.refl H ρ) R (.bl _)⟩
theorem o_notB {X : Cx} {cl : Nat → Addr} : OpR X (compareOp .IsNot) (r2 ⟨X.K, cl⟩ notBF) := by
  intro pins s σ H x y v u Q I rx ry q
  obtain ⟨ρ, M, ds, d, M', R, r, e, k⟩ := q
  obtain ⟨a, b, rfl, rfl, rfl⟩ := notBF_some e
  obtain ⟨v1, u1, e1, ra, rb⟩ := r.pair
  cases e1
  cases ra
  cases rb
  exact op_isnot_bl pins s σ H _ _ v u Q I rx ry ⟨a, b, rfl, rfl, k _ H ρ (.refl H ρ) R (.bl _)⟩
end G

set_option Elab.async false
set_option linter.all false
set_option maxRecDepth 100000
set_option maxHeartbeats 4000000
namespace Law
open PySem PySem.Spec L2 G
def top (i : Nat) : Stmt := PySem.Challenge.pw_everyproof_k83_whole_formulas_between_tu.main.body.getD i (.Pass ⟨0, 0, 0, 0⟩)
def inn (i j : Nat) : Stmt := (C8.clsBody (top i)).getD j (.Pass ⟨0, 0, 0, 0⟩)
def g_FALSE : D := (.tup [(.str "false")])
def g_LETTERS : D := .int 4
def g_PAIRS : D := (.tup [(.str "if"), (.str "and"), (.str "or")])
def g_TRUE : D := (.tup [(.str "if"), (.tup [(.str "false")]), (.tup [(.str "false")])])
def b_contrary : MS := (sRet (mTup (mCons (mC (.str "if")) (mCons (mVar 0) (mCons (mC g_FALSE) mNil)))))
def b_letters_in (f_letters_in : F1) : MS := (sSeq (sIf (tru (mBin eqF (mBin atF (mVar 0) (mC (.int 0))) (mC (.str "letter")))) (sRet (mLst (mCons (mBin atF (mVar 0) (mC (.int 1))) mNil))) sNext) (sSeq (sIf (tru (mBin eqF (mBin atF (mVar 0) (mC (.int 0))) (mC (.str "false")))) (sRet (mLst mNil)) sNext) (sRet (mUn sortSetF (mBin addF (mCallN 1 f_letters_in (mCons (mBin atF (mVar 0) (mC (.int 1))) mNil)) (mCallN 1 f_letters_in (mCons (mBin atF (mVar 0) (mC (.int 2))) mNil)))))))
def b_joined_value : MS := (sSeq (sIf (tru (mBin eqF (mVar 0) (mC (.str "and")))) (sRet (mCall min2F (mCons (mVar 1) (mCons (mVar 2) mNil)))) sNext) (sRet (mIf (tru (mBin eqF (mVar 0) (mC (.str "or")))) (mCall max2F (mCons (mVar 1) (mCons (mVar 2) mNil))) (mCall max2F (mCons (mBin subF (mC (.int 1)) (mVar 1)) (mCons (mVar 2) mNil))))))
def b_value_of (f_joined_value : F1) (f_value_of : F1) : MS := (sSeq (sIf (tru (mBin eqF (mBin atF (mVar 0) (mC (.int 0))) (mC (.str "letter")))) (sRet (mBin atF (mVar 1) (mBin atF (mVar 0) (mC (.int 1))))) sNext) (sSeq (sIf (tru (mBin eqF (mBin atF (mVar 0) (mC (.int 0))) (mC (.str "false")))) (sRet (mC (.int 0))) sNext) (sRet (mCallN 3 f_joined_value (mCons (mBin atF (mVar 0) (mC (.int 0))) (mCons (mCallN 2 f_value_of (mCons (mBin atF (mVar 0) (mC (.int 1))) (mCons (mVar 1) mNil))) (mCons (mCallN 2 f_value_of (mCons (mBin atF (mVar 0) (mC (.int 2))) (mCons (mVar 1) mNil))) mNil)))))))
def b_rows_of : MS := (sSeq (sSet (mLst (mCons (mBin mulF (mTup (mCons (mC (.int 0)) mNil)) (mC g_LETTERS)) mNil)) (gName 1)) (sSeq (sFor (iSeqM (mUn revF (mCall sortF (mCons (mVar 0) mNil)))) (gName 2) (sSet (mBin addF (mVar 1) (mComp (iSeqM (mVar 1)) (gName 3) tTrue (mBin addF (mBin addF (mSl (mVar 3) pNone (pSome (mVar 2))) (mTup (mCons (mC (.int 1)) mNil))) (mSl (mVar 3) (pSome (mBin addF (mVar 2) (mC (.int 1)))) pNone)) [3])) (gName 1))) (sRet (mCall sortF (mCons (mVar 1) mNil)))))
def b_against (f_letters_in : F1) (f_rows_of : F1) (f_value_of : F1) : MS := (sSeq (sFor (iSeqM (mCallN 1 f_rows_of (mCons (mCallN 1 f_letters_in (mCons (mVar 0) mNil)) mNil))) (gName 1) (sIf (tru (mBin eqF (mCallN 2 f_value_of (mCons (mVar 0) (mCons (mVar 1) mNil))) (mC (.int 0)))) (sRet (mVar 1)) sNext)) (sRet (mC .non)))
def b_is_theorem (f_against : F1) : MS := (sRet (mUn isNF (mCallN 1 f_against (mCons (mVar 0) mNil))))
def b_are_equal (f_rows_of : F1) (f_value_of : F1) : MS := (sRet (mCall allF (mCons (mComp (iSeqM (mCallN 1 f_rows_of (mCons (mLst (mCons (mC (.int 0)) (mCons (mC (.int 1)) (mCons (mC (.int 2)) (mCons (mC (.int 3)) mNil))))) mNil))) (gName 2) tTrue (mBin eqF (mCallN 2 f_value_of (mCons (mVar 0) (mCons (mVar 2) mNil))) (mCallN 2 f_value_of (mCons (mVar 1) (mCons (mVar 2) mNil)))) [2]) mNil)))
def b_with_one : MS := (sRet (mCall tupleF (mCons (mUn sortSetF (mBin addF (mVar 0) (mTup (mCons (mVar 1) mNil)))) mNil)))
def b_premises (f_with_one : F1) : MS := (sSeq (sSet (mVar 0) (gTup 2 (gsCons (gName 2) (gsCons (gName 3) gsNil)))) (sSeq (sSet (mBin atF (mVar 1) (mC (.int 0))) (gName 4)) (sSeq (sIf (tru (mBin eqF (mVar 4) (mC (.str "false")))) (sRet (mIf (tru (mBin inF (mC g_FALSE) (mVar 2))) (mLst mNil) (mC .non))) sNext) (sSeq (sSet (mBin atF (mVar 1) (mC (.int 1))) (gName 5)) (sSeq (sIf (tru (mBin eqF (mVar 4) (mC (.str "axiom")))) (sRet (mIf (tAndM (tru (mBin inF (mVar 5) (mVar 2))) (tru (mBin inF (mVar 5) (mVar 3)))) (mLst mNil) (mC .non))) sNext) (sSeq (sIf (tru (mBin eqF (mVar 4) (mC (.str "cut")))) (sRet (mLst (mCons (mTup (mCons (mVar 2) (mCons (mCallN 2 f_with_one (mCons (mVar 3) (mCons (mVar 5) mNil))) mNil))) (mCons (mTup (mCons (mCallN 2 f_with_one (mCons (mVar 2) (mCons (mVar 5) mNil))) (mCons (mVar 3) mNil))) mNil)))) sNext) (sSeq (sIf (tOrM (tru (mBin ninF (mBin atF (mVar 5) (mC (.int 0))) (mC g_PAIRS))) (tru (mBin ninF (mVar 4) (mTup (mCons (mBin addF (mBin atF (mVar 5) (mC (.int 0))) (mC (.str "left"))) (mCons (mBin addF (mBin atF (mVar 5) (mC (.int 0))) (mC (.str "right"))) mNil)))))) (sRet (mC .non)) sNext) (sSeq (sIf (tru (mBin ninF (mVar 5) (mIf (tru (mMetS (fun a b => .bl (Txt.endswith a b)) (mVar 4) (mC (.str "left")))) (mVar 2) (mVar 3)))) (sRet (mC .non)) sNext) (sSeq (sPar 6 7 (mBin atF (mVar 5) (mC (.int 1))) (mBin atF (mVar 5) (mC (.int 2)))) (sSeq (sIf (tru (mBin eqF (mVar 4) (mC (.str "andleft")))) (sRet (mLst (mCons (mTup (mCons (mCallN 2 f_with_one (mCons (mCallN 2 f_with_one (mCons (mVar 2) (mCons (mVar 6) mNil))) (mCons (mVar 7) mNil))) (mCons (mVar 3) mNil))) mNil))) sNext) (sSeq (sIf (tru (mBin eqF (mVar 4) (mC (.str "orleft")))) (sRet (mLst (mCons (mTup (mCons (mCallN 2 f_with_one (mCons (mVar 2) (mCons (mVar 6) mNil))) (mCons (mVar 3) mNil))) (mCons (mTup (mCons (mCallN 2 f_with_one (mCons (mVar 2) (mCons (mVar 7) mNil))) (mCons (mVar 3) mNil))) mNil)))) sNext) (sSeq (sIf (tru (mBin eqF (mVar 4) (mC (.str "ifleft")))) (sRet (mLst (mCons (mTup (mCons (mVar 2) (mCons (mCallN 2 f_with_one (mCons (mVar 3) (mCons (mVar 6) mNil))) mNil))) (mCons (mTup (mCons (mCallN 2 f_with_one (mCons (mVar 2) (mCons (mVar 7) mNil))) (mCons (mVar 3) mNil))) mNil)))) sNext) (sSeq (sIf (tru (mBin eqF (mVar 4) (mC (.str "andright")))) (sRet (mLst (mCons (mTup (mCons (mVar 2) (mCons (mCallN 2 f_with_one (mCons (mVar 3) (mCons (mVar 6) mNil))) mNil))) (mCons (mTup (mCons (mVar 2) (mCons (mCallN 2 f_with_one (mCons (mVar 3) (mCons (mVar 7) mNil))) mNil))) mNil)))) sNext) (sSeq (sIf (tru (mBin eqF (mVar 4) (mC (.str "orright")))) (sRet (mLst (mCons (mTup (mCons (mVar 2) (mCons (mCallN 2 f_with_one (mCons (mCallN 2 f_with_one (mCons (mVar 3) (mCons (mVar 6) mNil))) (mCons (mVar 7) mNil))) mNil))) mNil))) sNext) (sRet (mLst (mCons (mTup (mCons (mCallN 2 f_with_one (mCons (mVar 2) (mCons (mVar 6) mNil))) (mCons (mCallN 2 f_with_one (mCons (mVar 3) (mCons (mVar 7) mNil))) mNil))) mNil)))))))))))))))))
def b_step_for (f_premises : F1) : MS := (sSeq (sFor (iZipM (mTup (mCons (mC (.str "left")) (mCons (mC (.str "right")) mNil))) (mVar 0)) (gTup 2 (gsCons (gName 1) (gsCons (gName 2) gsNil))) (sFor (iSeqM (mVar 2)) (gName 3) (sSeq (sSet (mTup (mCons (mBin addF (mBin atF (mVar 3) (mC (.int 0))) (mVar 1)) (mCons (mVar 3) mNil))) (gName 4)) (sIf (tAndM (tru (mBin inF (mBin atF (mVar 3) (mC (.int 0))) (mC g_PAIRS))) (tru (mBin ninF (mVar 0) (mCallN 2 f_premises (mCons (mVar 0) (mCons (mVar 4) mNil)))))) (sRet (mVar 4)) sNext)))) (sRet (mC .non)))
def b_search (f_premises : F1) (f_search : F1) (f_step_for : F1) : MS := (sSeq (sSet (mVar 0) (gTup 2 (gsCons (gName 1) (gsCons (gName 2) gsNil)))) (sSeq (sIf (tru (mBin inF (mC g_FALSE) (mVar 1))) (sRet (mTup (mCons (mC (.str "false")) mNil))) sNext) (sSeq (sSet (mComp (iSeqM (mVar 1)) (gName 6) (tru (mBin inF (mVar 6) (mVar 2))) (mVar 6) [6]) (gName 3)) (sSeq (sIf (tru (mBin gtF (mCall lenF (mCons (mVar 3) mNil)) (mC (.int 0)))) (sRet (mTup (mCons (mC (.str "axiom")) (mCons (mBin atF (mVar 3) (mC (.int 0))) mNil)))) sNext) (sSeq (sSet (mCallN 1 f_step_for (mCons (mVar 0) mNil)) (gName 4)) (sSeq (sIf (tru (mUn isNF (mVar 4))) (sRet (mC .non)) sNext) (sSeq (sSet (mComp (iSeqM (mCallN 2 f_premises (mCons (mVar 0) (mCons (mVar 4) mNil)))) (gName 7) tTrue (mCallN 1 f_search (mCons (mVar 7) mNil)) [7]) (gName 5)) (sRet (mIf (tru (mBin inF (mC .non) (mVar 5))) (mC .non) (mBin addF (mVar 4) (mCall tupleF (mCons (mVar 5) mNil))))))))))))
def b_either : MS := (sSeq (sIf (tOrM (tru (mBin eqF (mVar 0) (mC g_TRUE))) (tru (mBin eqF (mVar 1) (mC g_TRUE)))) (sRet (mC g_TRUE)) sNext) (sSeq (sIf (tOrM (tru (mBin eqF (mVar 0) (mC g_FALSE))) (tru (mBin eqF (mVar 0) (mVar 1)))) (sRet (mVar 1)) sNext) (sRet (mIf (tru (mBin eqF (mVar 1) (mC g_FALSE))) (mVar 0) (mTup (mCons (mC (.str "or")) (mCons (mVar 0) (mCons (mVar 1) mNil))))))))
def b_both : MS := (sSeq (sIf (tOrM (tru (mBin eqF (mVar 0) (mC g_FALSE))) (tru (mBin eqF (mVar 1) (mC g_FALSE)))) (sRet (mC g_FALSE)) sNext) (sSeq (sIf (tOrM (tru (mBin eqF (mVar 0) (mC g_TRUE))) (tru (mBin eqF (mVar 0) (mVar 1)))) (sRet (mVar 1)) sNext) (sRet (mIf (tru (mBin eqF (mVar 1) (mC g_TRUE))) (mVar 0) (mTup (mCons (mC (.str "and")) (mCons (mVar 0) (mCons (mVar 1) mNil))))))))
def b_turned (f_contrary : F1) : MS := (sSeq (sIf (tru (mBin eqF (mVar 0) (mC g_FALSE))) (sRet (mC g_TRUE)) sNext) (sRet (mIf (tru (mBin eqF (mVar 0) (mC g_TRUE))) (mC g_FALSE) (mCallN 1 f_contrary (mCons (mVar 0) mNil)))))
def b_axiom_between (f_Parted_half_of : F1) (f_turned : F1) : MS := (sSeq (sPar 2 3 (mMethO 0 "half_of" 3 f_Parted_half_of (mVar 0) (mCons (mC (.str "left")) (mCons (mVar 1) mNil))) (mMethO 0 "half_of" 3 f_Parted_half_of (mVar 0) (mCons (mC (.str "right")) (mCons (mVar 1) mNil)))) (sSeq (sIf (tru (mBin eqF (mVar 2) (mVar 3))) (sRet (mIf (tru (mBin eqF (mVar 2) (mC (.int 0)))) (mC g_FALSE) (mC g_TRUE))) sNext) (sRet (mIf (tru (mBin eqF (mVar 2) (mC (.int 0)))) (mVar 1) (mCallN 1 f_turned (mCons (mVar 1) mNil))))))
def b_uppers_of (f_Parted_more : F1) : MS := (sSeq (sPar3 3 4 5 (mBin atF (mVar 1) (mC (.int 0))) (mBin atF (mBin atF (mVar 1) (mC (.int 1))) (mC (.int 1))) (mBin atF (mBin atF (mVar 1) (mC (.int 1))) (mC (.int 2)))) (sSeq (sIf (tru (mBin eqF (mVar 3) (mC (.str "andleft")))) (sRet (mLst (mCons (mMethO 0 "more" 4 f_Parted_more (mVar 0) (mCons (mVar 2) (mCons (mLst (mCons (mVar 4) (mCons (mVar 5) mNil))) (mCons (mLst mNil) mNil)))) mNil))) sNext) (sSeq (sIf (tru (mBin eqF (mVar 3) (mC (.str "orright")))) (sRet (mLst (mCons (mMethO 0 "more" 4 f_Parted_more (mVar 0) (mCons (mVar 2) (mCons (mLst mNil) (mCons (mLst (mCons (mVar 4) (mCons (mVar 5) mNil))) mNil)))) mNil))) sNext) (sSeq (sIf (tru (mBin eqF (mVar 3) (mC (.str "ifright")))) (sRet (mLst (mCons (mMethO 0 "more" 4 f_Parted_more (mVar 0) (mCons (mVar 2) (mCons (mLst (mCons (mVar 4) mNil)) (mCons (mLst (mCons (mVar 5) mNil)) mNil)))) mNil))) sNext) (sSeq (sIf (tru (mBin eqF (mVar 3) (mC (.str "ifleft")))) (sRet (mLst (mCons (mMethO 0 "more" 4 f_Parted_more (mVar 0) (mCons (mVar 2) (mCons (mLst mNil) (mCons (mLst (mCons (mVar 4) mNil)) mNil)))) (mCons (mMethO 0 "more" 4 f_Parted_more (mVar 0) (mCons (mVar 2) (mCons (mLst (mCons (mVar 5) mNil)) (mCons (mLst mNil) mNil)))) mNil)))) sNext) (sSeq (sIf (tru (mBin eqF (mVar 3) (mC (.str "orleft")))) (sRet (mLst (mCons (mMethO 0 "more" 4 f_Parted_more (mVar 0) (mCons (mVar 2) (mCons (mLst (mCons (mVar 4) mNil)) (mCons (mLst mNil) mNil)))) (mCons (mMethO 0 "more" 4 f_Parted_more (mVar 0) (mCons (mVar 2) (mCons (mLst (mCons (mVar 5) mNil)) (mCons (mLst mNil) mNil)))) mNil)))) sNext) (sRet (mLst (mCons (mMethO 0 "more" 4 f_Parted_more (mVar 0) (mCons (mVar 2) (mCons (mLst mNil) (mCons (mLst (mCons (mVar 4) mNil)) mNil)))) (mCons (mMethO 0 "more" 4 f_Parted_more (mVar 0) (mCons (mVar 2) (mCons (mLst mNil) (mCons (mLst (mCons (mVar 5) mNil)) mNil)))) mNil))))))))))
def b_between (f_Parted_half_of : F1) (f_axiom_between : F1) (f_between : F1) (f_both : F1) (f_either : F1) (f_uppers_of : F1) : MS := (sSeq (sIf (tru (mBin eqF (mBin atF (mVar 1) (mC (.int 0))) (mC (.str "false")))) (sRet (mIf (tru (mBin inF (mC g_FALSE) (mBin atF (mFld 0 (mVar 0) "left") (mC (.int 0))))) (mC g_FALSE) (mC g_TRUE))) sNext) (sSeq (sIf (tru (mBin eqF (mBin atF (mVar 1) (mC (.int 0))) (mC (.str "axiom")))) (sRet (mCallN 2 f_axiom_between (mCons (mVar 0) (mCons (mBin atF (mVar 1) (mC (.int 1))) mNil)))) sNext) (sSeq (sIf (tOrM (tru (mBin eqF (mBin atF (mVar 1) (mC (.int 0))) (mC (.str "cut")))) (tru (mBin ninF (mBin atF (mBin atF (mVar 1) (mC (.int 1))) (mC (.int 0))) (mC g_PAIRS)))) sNever sNext) (sSeq (sSet (mIf (tru (mMetS (fun a b => .bl (Txt.endswith a b)) (mBin atF (mVar 1) (mC (.int 0))) (mC (.str "left")))) (mC (.str "left")) (mC (.str "right"))) (gName 2)) (sSeq (sSet (mMethO 0 "half_of" 3 f_Parted_half_of (mVar 0) (mCons (mVar 2) (mCons (mBin atF (mVar 1) (mC (.int 1))) mNil))) (gName 3)) (sSeq (sSet (mComp (iZipM (mCallN 3 f_uppers_of (mCons (mVar 0) (mCons (mVar 1) (mCons (mVar 3) mNil)))) (mSl (mVar 1) (pSome (mC (.int 2))) pNone)) (gTup 2 (gsCons (gName 5) (gsCons (gName 6) gsNil))) tTrue (mCallN 2 f_between (mCons (mVar 5) (mCons (mVar 6) mNil))) [5, 6]) (gName 4)) (sSeq (sIf (tru (mBin eqF (mCall lenF (mCons (mVar 4) mNil)) (mC (.int 1)))) (sRet (mBin atF (mVar 4) (mC (.int 0)))) sNext) (sRet (mIf (tru (mBin eqF (mVar 3) (mC (.int 0)))) (mCallN 2 f_either (mCons (mBin atF (mVar 4) (mC (.int 0))) (mCons (mBin atF (mVar 4) (mC (.int 1))) mNil))) (mCallN 2 f_both (mCons (mBin atF (mVar 4) (mC (.int 0))) (mCons (mBin atF (mVar 4) (mC (.int 1))) mNil))))))))))))
def b_interpolant (f_Parted___init__ : F1) (f_between : F1) : MS := (sRet (mCallN 2 f_between (mCons (mMake 0 3 f_Parted___init__ (mCons (mTup (mCons (mTup (mCons (mVar 0) mNil)) (mCons (mTup mNil) mNil))) (mCons (mTup (mCons (mTup mNil) (mCons (mTup (mCons (mVar 1) mNil)) mNil))) mNil))) (mCons (mVar 2) mNil))))
def b_trimmed (f_premises : F1) (f_trimmed : F1) : MS := (sSeq (sSet (mVar 0) (gTup 2 (gsCons (gName 2) (gsCons (gName 3) gsNil)))) (sSeq (sIf (tru (mBin inF (mC g_FALSE) (mVar 2))) (sRet (mTup (mCons (mC (.str "false")) mNil))) sNext) (sSeq (sSet (mComp (iSeqM (mVar 2)) (gName 8) (tru (mBin inF (mVar 8) (mVar 3))) (mVar 8) [8]) (gName 4)) (sSeq (sIf (tru (mBin gtF (mCall lenF (mCons (mVar 4) mNil)) (mC (.int 0)))) (sRet (mTup (mCons (mC (.str "axiom")) (mCons (mBin atF (mVar 4) (mC (.int 0))) mNil)))) sNext) (sSeq (sSet (mCallN 2 f_premises (mCons (mVar 0) (mCons (mVar 1) mNil))) (gName 5)) (sSeq (sFor (iZipM (mVar 5) (mSl (mVar 1) (pSome (mC (.int 2))) pNone)) (gTup 2 (gsCons (gName 6) (gsCons (gName 7) gsNil))) (sIf (tru (mBin eqF (mVar 6) (mVar 0))) (sRet (mCallN 2 f_trimmed (mCons (mVar 0) (mCons (mVar 7) mNil)))) sNext)) (sRet (mBin addF (mSl (mVar 1) pNone (pSome (mC (.int 2)))) (mCall tupleF (mCons (mComp (iZipM (mVar 5) (mSl (mVar 1) (pSome (mC (.int 2))) pNone)) (gTup 2 (gsCons (gName 6) (gsCons (gName 7) gsNil))) tTrue (mCallN 2 f_trimmed (mCons (mVar 6) (mCons (mVar 7) mNil))) [6, 7]) mNil))))))))))
def b__law_pool : MS := (sSeq (sSet (mC (.int 7)) (gName 1)) (sSeq (sFor (iSeqM (mSl (mVar 0) pNone (pSome (mC (.int 63))))) (gName 2) (sSet (mBin modF (mCall intF (mCons (mBin addF (mBin mulF (mVar 1) (mC (.int 31))) (mVar 2)) mNil)) (mC (.int 1000003))) (gName 1))) (sRet (mNewL (mCons (mCall listF (mCons (mVar 0) mNil)) (mCons (mC (.int 0)) (mCons (mC (.int 0)) (mCons (mC (.int 0)) (mCons (mVar 1) mNil)))))))))
def b__law_spread : MS := (sSeq (sSet (mBin modF (mCall intF (mCons (mVar 0) mNil)) (mC (.int 2147483647))) (gName 1)) (sSeq (sSet (mC (.int 1)) (gName 2)) (sSeq (sFor (iRg1M (mCons (mC (.int 4)) mNil)) (gName 3) (sSeq (sSet (mBin modF (mCall intF (mCons (mBin addF (mBin addF (mBin mulF (mVar 1) (mC (.int 48271))) (mC (.int 12345))) (mVar 3)) mNil)) (mC (.int 2147483647))) (gName 1)) (sSet (mBin addF (mBin mulF (mVar 2) (mC (.int 2147483647))) (mVar 1)) (gName 2)))) (sRet (mVar 2)))))
def b__law_draw (f__law_spread : F1) : MS := (sSeq (sIf (tAndM (tru (mBin leF (mBin atF (mVar 0) (mC (.int 2))) (mC (.int 0)))) (tru (mBin ltF (mBin atF (mVar 0) (mC (.int 1))) (mCall lenF (mCons (mBin atF (mVar 0) (mC (.int 0))) mNil))))) (sSeq (sSet (mBin atF (mBin atF (mVar 0) (mC (.int 0))) (mBin atF (mVar 0) (mC (.int 1)))) (gName 2)) (sSeq (sSet (mBin addF (mBin atF (mVar 0) (mC (.int 1))) (mC (.int 1))) (gSub (mVar 0) (mC (.int 1)) setL)) (sSeq (sSet (mVar 2) (gSub (mVar 0) (mC (.int 2)) setL)) (sIf (tru (mBin ltF (mVar 2) (mC (.int 1000000000000000000)))) (sSet (mCallN 1 f__law_spread (mCons (mVar 2) mNil)) (gSub (mVar 0) (mC (.int 2)) setL)) sNext)))) sNext) (sSeq (sSet (mBin addF (mBin atF (mVar 0) (mC (.int 3))) (mC (.int 1))) (gSub (mVar 0) (mC (.int 3)) setL)) (sSeq (sIf (tru (mBin leF (mBin atF (mVar 0) (mC (.int 2))) (mC (.int 0)))) (sSeq (sSet (mBin modF (mCall intF (mCons (mBin addF (mBin addF (mBin mulF (mBin atF (mVar 0) (mC (.int 4))) (mC (.int 48271))) (mBin mulF (mBin atF (mVar 0) (mC (.int 3))) (mC (.int 69621)))) (mC (.int 1))) mNil)) (mC (.int 2147483647))) (gName 3)) (sSeq (sSet (mBin modF (mCall intF (mCons (mBin addF (mBin mulF (mVar 3) (mC (.int 16807))) (mBin atF (mVar 0) (mC (.int 3)))) mNil)) (mC (.int 2147483629))) (gName 3)) (sRet (mBin modF (mBin fdivF (mVar 3) (mC (.int 5))) (mVar 1))))) sNext) (sSeq (sSet (mBin modF (mCall intF (mCons (mBin atF (mVar 0) (mC (.int 2))) mNil)) (mVar 1)) (gName 4)) (sSeq (sSet (mBin fdivF (mBin atF (mVar 0) (mC (.int 2))) (mVar 1)) (gSub (mVar 0) (mC (.int 2)) setL)) (sRet (mVar 4)))))))
def b__law_little (f__law_draw : F1) (f__law_little : F1) : MS := (sSeq (sIf (tOrM (tru (mBin eqF (mVar 1) (mC (.int 0)))) (tru (mBin eqF (mCallN 2 f__law_draw (mCons (mVar 0) (mCons (mC (.int 4)) mNil))) (mC (.int 0))))) (sRet (mIf (tru (mBin gtF (mCallN 2 f__law_draw (mCons (mVar 0) (mCons (mC (.int 9)) mNil))) (mC (.int 0)))) (mTup (mCons (mC (.str "letter")) (mCons (mCallN 2 f__law_draw (mCons (mVar 0) (mCons (mVar 2) mNil))) mNil))) (mTup (mCons (mC (.str "false")) mNil)))) sNext) (sSeq (sSet (mBin atF (mTup (mCons (mC (.str "if")) (mCons (mC (.str "if")) (mCons (mC (.str "and")) (mCons (mC (.str "or")) mNil))))) (mCallN 2 f__law_draw (mCons (mVar 0) (mCons (mC (.int 4)) mNil)))) (gName 3)) (sSeq (sSet (mCallN 3 f__law_little (mCons (mVar 0) (mCons (mBin subF (mVar 1) (mC (.int 1))) (mCons (mVar 2) mNil)))) (gName 4)) (sRet (mTup (mCons (mVar 3) (mCons (mVar 4) (mCons (mCallN 3 f__law_little (mCons (mVar 0) (mCons (mBin subF (mVar 1) (mC (.int 1))) (mCons (mVar 2) mNil)))) mNil))))))))
def b__law_pick (f__law_draw : F1) : MS := (sRet (mBin atF (mVar 1) (mCallN 2 f__law_draw (mCons (mVar 0) (mCons (mCall lenF (mCons (mVar 1) mNil)) mNil)))))
def b__law_deny : MS := (sRet (mTup (mCons (mC (.str "if")) (mCons (mVar 0) (mCons (mTup (mCons (mC (.str "false")) mNil)) mNil)))))
def b__law_all_rows : MS := (sSeq (sSet (mLst mNil) (gName 0)) (sSeq (sFor (iSeqM (mTup (mCons (mC (.int 0)) (mCons (mC (.int 1)) mNil)))) (gName 1) (sFor (iSeqM (mTup (mCons (mC (.int 0)) (mCons (mC (.int 1)) mNil)))) (gName 2) (sSet (mBin addF (mVar 0) (mLst (mCons (mTup (mCons (mVar 1) (mCons (mVar 2) (mCons (mC (.int 0)) (mCons (mC (.int 0)) mNil))))) (mCons (mTup (mCons (mVar 1) (mCons (mVar 2) (mCons (mC (.int 0)) (mCons (mC (.int 1)) mNil))))) (mCons (mTup (mCons (mVar 1) (mCons (mVar 2) (mCons (mC (.int 1)) (mCons (mC (.int 0)) mNil))))) (mCons (mTup (mCons (mVar 1) (mCons (mVar 2) (mCons (mC (.int 1)) (mCons (mC (.int 1)) mNil))))) mNil)))))) (gName 0)))) (sRet (mVar 0))))
def b__law_holds_in (f__law_holds_in : F1) : MS := (sSeq (sIf (tru (mBin eqF (mBin atF (mVar 0) (mC (.int 0))) (mC (.str "letter")))) (sRet (mBin eqF (mBin atF (mVar 1) (mBin atF (mVar 0) (mC (.int 1)))) (mC (.int 1)))) sNext) (sSeq (sIf (tru (mBin eqF (mBin atF (mVar 0) (mC (.int 0))) (mC (.str "false")))) (sRet (mC (.bl false))) sNext) (sSeq (sPar 2 3 (mCallN 2 f__law_holds_in (mCons (mBin atF (mVar 0) (mC (.int 1))) (mCons (mVar 1) mNil))) (mCallN 2 f__law_holds_in (mCons (mBin atF (mVar 0) (mC (.int 2))) (mCons (mVar 1) mNil)))) (sRet (mIf (tru (mBin eqF (mBin atF (mVar 0) (mC (.int 0))) (mC (.str "and")))) (mAndE (mVar 2) (mVar 3)) (mIf (tru (mBin eqF (mBin atF (mVar 0) (mC (.int 0))) (mC (.str "or")))) (mOrE (mVar 2) (mVar 3)) (mOrE (mVar 3) (mNotE (mVar 2)))))))))
def b__law_always (f__law_all_rows : F1) (f__law_holds_in : F1) : MS := (sRet (mBin eqF (mCall lenF (mCons (mComp (iSeqM (mCallN 0 f__law_all_rows mNil)) (gName 1) (tNotM (tru (mCallN 2 f__law_holds_in (mCons (mVar 0) (mCons (mVar 1) mNil))))) (mVar 1) [1]) mNil)) (mC (.int 0))))
def b__law_letters_of (f__law_letters_of : F1) : MS := (sSeq (sIf (tru (mBin eqF (mBin atF (mVar 0) (mC (.int 0))) (mC (.str "letter")))) (sRet (mLst (mCons (mBin atF (mVar 0) (mC (.int 1))) mNil))) sNext) (sSeq (sSet (mLst mNil) (gName 1)) (sSeq (sFor (iSeqM (mSl (mVar 0) (pSome (mC (.int 1))) pNone)) (gName 2) (sSet (mBin addF (mVar 1) (mCallN 1 f__law_letters_of (mCons (mVar 2) mNil))) (gName 1))) (sRet (mVar 1)))))
def b__law_lies (f__law_always : F1) (f__law_letters_of : F1) : MS := (sSeq (sIf (tru (mBin neF (mComp (iSeqM (mCallN 1 f__law_letters_of (mCons (mVar 2) mNil))) (gName 3) (tOrM (tru (mBin ninF (mVar 3) (mCallN 1 f__law_letters_of (mCons (mVar 0) mNil)))) (tru (mBin ninF (mVar 3) (mCallN 1 f__law_letters_of (mCons (mVar 1) mNil))))) (mVar 3) [3]) (mLst mNil))) (sRet (mC (.bl false))) sNext) (sRet (mAndE (mCallN 1 f__law_always (mCons (mTup (mCons (mC (.str "if")) (mCons (mVar 0) (mCons (mVar 2) mNil)))) mNil)) (mCallN 1 f__law_always (mCons (mTup (mCons (mC (.str "if")) (mCons (mVar 2) (mCons (mVar 1) mNil)))) mNil)))))
def b_law (f__law_always : F1) (f__law_deny : F1) (f__law_lies : F1) (f__law_little : F1) (f__law_pick : F1) (f__law_pool : F1) (f_are_equal : F1) (f_interpolant : F1) (f_is_theorem : F1) (f_search : F1) (f_trimmed : F1) : MS := (sSeq (sSet (mCallN 1 f__law_pool (mCons (mVar 0) mNil)) (gName 1)) (sSeq (sPar3 2 3 4 (mCallN 3 f__law_little (mCons (mVar 1) (mCons (mC (.int 2)) (mCons (mC (.int 3)) mNil)))) (mCallN 3 f__law_little (mCons (mVar 1) (mCons (mC (.int 1)) (mCons (mC (.int 4)) mNil)))) (mCallN 3 f__law_little (mCons (mVar 1) (mCons (mC (.int 1)) (mCons (mC (.int 4)) mNil))))) (sSeq (sSet (mCallN 2 f__law_pick (mCons (mVar 1) (mCons (mLst (mCons (mTup (mCons (mC (.str "or")) (mCons (mVar 2) (mCons (mVar 3) mNil)))) (mCons (mTup (mCons (mC (.str "if")) (mCons (mVar 3) (mCons (mVar 2) mNil)))) (mCons (mVar 2) (mCons (mTup (mCons (mC (.str "or")) (mCons (mVar 3) (mCons (mTup (mCons (mC (.str "or")) (mCons (mVar 4) (mCons (mVar 2) mNil)))) mNil)))) (mCons (mTup (mCons (mC (.str "if")) (mCons (mCallN 1 f__law_deny (mCons (mVar 2) mNil)) (mCons (mVar 3) mNil)))) mNil)))))) mNil))) (gName 5)) (sSeq (sIf (tOrM (tNotM (tru (mCallN 1 f__law_always (mCons (mTup (mCons (mC (.str "if")) (mCons (mVar 2) (mCons (mVar 5) mNil)))) mNil)))) (tru (mBin notBF (mCallN 1 f_is_theorem (mCons (mTup (mCons (mC (.str "if")) (mCons (mVar 2) (mCons (mVar 5) mNil)))) mNil)) (mC (.bl true))))) (sRet (mC (.bl false))) sNext) (sSeq (sSet (mCallN 1 f_search (mCons (mTup (mCons (mTup (mCons (mVar 2) mNil)) (mCons (mTup (mCons (mVar 5) mNil)) mNil))) mNil)) (gName 6)) (sSeq (sSet (mCallN 3 f_interpolant (mCons (mVar 2) (mCons (mVar 5) (mCons (mVar 6) mNil)))) (gName 7)) (sSeq (sIf (tNotM (tru (mCallN 3 f__law_lies (mCons (mVar 2) (mCons (mVar 5) (mCons (mVar 7) mNil)))))) (sRet (mC (.bl false))) sNext) (sSeq (sSet (mCallN 1 f_search (mCons (mTup (mCons (mTup (mCons (mCallN 1 f__law_deny (mCons (mVar 5) mNil)) mNil)) (mCons (mTup (mCons (mCallN 1 f__law_deny (mCons (mVar 2) mNil)) mNil)) mNil))) mNil)) (gName 8)) (sSeq (sSet (mCallN 3 f_interpolant (mCons (mCallN 1 f__law_deny (mCons (mVar 5) mNil)) (mCons (mCallN 1 f__law_deny (mCons (mVar 2) mNil)) (mCons (mVar 8) mNil)))) (gName 9)) (sSeq (sIf (tOrM (tNotM (tru (mCallN 3 f__law_lies (mCons (mCallN 1 f__law_deny (mCons (mVar 5) mNil)) (mCons (mCallN 1 f__law_deny (mCons (mVar 2) mNil)) (mCons (mVar 9) mNil)))))) (tNotM (tru (mCallN 3 f__law_lies (mCons (mCallN 1 f__law_deny (mCons (mVar 5) mNil)) (mCons (mCallN 1 f__law_deny (mCons (mVar 2) mNil)) (mCons (mCallN 1 f__law_deny (mCons (mVar 7) mNil)) mNil))))))) (sRet (mC (.bl false))) sNext) (sSeq (sPar 10 11 (mTup (mCons (mC (.str "and")) (mCons (mVar 2) (mCons (mVar 4) mNil)))) (mTup (mCons (mC (.str "or")) (mCons (mVar 5) (mCons (mVar 4) mNil))))) (sSeq (sIf (tOrM (tNotM (tru (mCallN 3 f__law_lies (mCons (mVar 10) (mCons (mVar 5) (mCons (mVar 7) mNil)))))) (tNotM (tru (mCallN 3 f__law_lies (mCons (mVar 2) (mCons (mVar 11) (mCons (mVar 7) mNil))))))) (sRet (mC (.bl false))) sNext) (sSeq (sFor (iSeqM (mLst (mCons (mTup (mCons (mVar 10) (mCons (mVar 5) mNil))) (mCons (mTup (mCons (mVar 2) (mCons (mVar 11) mNil))) mNil)))) (gTup 2 (gsCons (gName 12) (gsCons (gName 13) gsNil))) (sSeq (sSet (mCallN 3 f_interpolant (mCons (mVar 12) (mCons (mVar 13) (mCons (mCallN 1 f_search (mCons (mTup (mCons (mTup (mCons (mVar 12) mNil)) (mCons (mTup (mCons (mVar 13) mNil)) mNil))) mNil)) mNil)))) (gName 14)) (sIf (tNotM (tru (mCallN 3 f__law_lies (mCons (mVar 12) (mCons (mVar 13) (mCons (mVar 14) mNil)))))) (sRet (mC (.bl false))) sNext))) (sSeq (sSet (mCallN 3 f_interpolant (mCons (mVar 2) (mCons (mVar 5) (mCons (mCallN 2 f_trimmed (mCons (mTup (mCons (mTup (mCons (mVar 2) mNil)) (mCons (mTup (mCons (mVar 5) mNil)) mNil))) (mCons (mVar 6) mNil))) mNil)))) (gName 15)) (sSeq (sIf (tOrM (tNotM (tru (mCallN 3 f__law_lies (mCons (mVar 2) (mCons (mVar 5) (mCons (mVar 15) mNil)))))) (tOrM (tNotM (tru (mCallN 3 f__law_lies (mCons (mVar 2) (mCons (mVar 5) (mCons (mTup (mCons (mC (.str "and")) (mCons (mVar 7) (mCons (mVar 15) mNil)))) mNil)))))) (tNotM (tru (mCallN 3 f__law_lies (mCons (mVar 2) (mCons (mVar 5) (mCons (mTup (mCons (mC (.str "or")) (mCons (mVar 7) (mCons (mVar 15) mNil)))) mNil)))))))) (sRet (mC (.bl false))) sNext) (sSeq (sSet (mCallN 3 f_interpolant (mCons (mVar 2) (mCons (mVar 2) (mCons (mTup (mCons (mC (.str "axiom")) (mCons (mVar 2) mNil))) mNil)))) (gName 16)) (sRet (mAndE (mCallN 3 f__law_lies (mCons (mVar 2) (mCons (mVar 2) (mCons (mVar 16) mNil)))) (mBin isBF (mCallN 2 f_are_equal (mCons (mVar 16) (mCons (mVar 2) mNil))) (mC (.bl true)))))))))))))))))))))
def b_Parted___init__ : MS := (sSeq (sFldM 0 (mVar 0) (mVar 1) "left") (sFldM 0 (mVar 0) (mVar 2) "right"))
def b_Parted_half_of : MS := (sSeq (sSet (mIf (tru (mBin eqF (mVar 1) (mC (.str "left")))) (mFld 0 (mVar 0) "left") (mFld 0 (mVar 0) "right")) (gName 3)) (sRet (mIf (tru (mBin inF (mVar 2) (mBin atF (mVar 3) (mC (.int 0))))) (mC (.int 0)) (mC (.int 1)))))
def b_Parted_more (f_Parted___init__ : F1) (f_with_one : F1) : MS := (sSeq (sPar 4 5 (mCall listM (mCons (mFld 0 (mVar 0) "left") mNil)) (mCall listM (mCons (mFld 0 (mVar 0) "right") mNil))) (sSeq (sFor (iSeqM (mVar 2)) (gName 6) (sSet (mCallN 2 f_with_one (mCons (mBin atF (mVar 4) (mVar 1)) (mCons (mVar 6) mNil))) (gSub (mVar 4) (mVar 1) setL))) (sSeq (sFor (iSeqM (mVar 3)) (gName 6) (sSet (mCallN 2 f_with_one (mCons (mBin atF (mVar 5) (mVar 1)) (mCons (mVar 6) mNil))) (gSub (mVar 5) (mVar 1) setL))) (sRet (mMake 0 3 f_Parted___init__ (mCons (mCall tupleF (mCons (mVar 4) mNil)) (mCons (mCall tupleF (mCons (mVar 5) mNil)) mNil)))))))
def i_contrary : FnI := ⟨("contrary", none), "contrary", "contrary", top 7, ["formula"], ["formula"], false, fun F => b_contrary⟩
def i_letters_in : FnI := ⟨("letters_in", none), "letters_in", "letters_in", top 8, ["formula"], ["formula"], false, fun F => b_letters_in (F 1)⟩
def i_joined_value : FnI := ⟨("joined_value", none), "joined_value", "joined_value", top 9, ["word", "one", "two"], ["word", "one", "two"], false, fun F => b_joined_value⟩
def i_value_of : FnI := ⟨("value_of", none), "value_of", "value_of", top 10, ["formula", "row"], ["formula", "row"], false, fun F => b_value_of (F 2) (F 3)⟩
def i_rows_of : FnI := ⟨("rows_of", none), "rows_of", "rows_of", top 11, ["letters", "found", "letter", "row"], ["letters"], false, fun F => b_rows_of⟩
def i_against : FnI := ⟨("against", none), "against", "against", top 12, ["formula", "row"], ["formula"], false, fun F => b_against (F 1) (F 4) (F 3)⟩
def i_is_theorem : FnI := ⟨("is_theorem", none), "is_theorem", "is_theorem", top 13, ["formula"], ["formula"], false, fun F => b_is_theorem (F 5)⟩
def i_are_equal : FnI := ⟨("are_equal", none), "are_equal", "are_equal", top 14, ["one", "two", "row"], ["one", "two"], false, fun F => b_are_equal (F 4) (F 3)⟩
def i_with_one : FnI := ⟨("with_one", none), "with_one", "with_one", top 16, ["side", "formula"], ["side", "formula"], false, fun F => b_with_one⟩
def i_premises : FnI := ⟨("premises", none), "premises", "premises", top 17, ["sequent", "proof", "left", "right", "word", "here", "one", "two"], ["sequent", "proof"], false, fun F => b_premises (F 8)⟩
def i_step_for : FnI := ⟨("step_for", none), "step_for", "step_for", top 18, ["sequent", "side", "formulas", "here", "step"], ["sequent"], false, fun F => b_step_for (F 9)⟩
def i_search : FnI := ⟨("search", none), "search", "search", top 19, ["sequent", "left", "right", "both", "step", "found", "here", "other"], ["sequent"], false, fun F => b_search (F 9) (F 11) (F 10)⟩
def i_either : FnI := ⟨("either", none), "either", "either", top 22, ["one", "two"], ["one", "two"], false, fun F => b_either⟩
def i_both : FnI := ⟨("both", none), "both", "both", top 23, ["one", "two"], ["one", "two"], false, fun F => b_both⟩
def i_turned : FnI := ⟨("turned", none), "turned", "turned", top 24, ["formula"], ["formula"], false, fun F => b_turned (F 0)⟩
def i_axiom_between : FnI := ⟨("axiom_between", none), "axiom_between", "axiom_between", top 26, ["parted", "formula", "low", "high"], ["parted", "formula"], false, fun F => b_axiom_between (F 33) (F 14)⟩
def i_uppers_of : FnI := ⟨("uppers_of", none), "uppers_of", "uppers_of", top 27, ["parted", "step", "half", "word", "one", "two"], ["parted", "step", "half"], false, fun F => b_uppers_of (F 34)⟩
def i_between : FnI := ⟨("between", none), "between", "between", top 28, ["parted", "proof", "side", "half", "found", "other", "part"], ["parted", "proof"], false, fun F => b_between (F 33) (F 15) (F 17) (F 13) (F 12) (F 16)⟩
def i_interpolant : FnI := ⟨("interpolant", none), "interpolant", "interpolant", top 29, ["one", "two", "proof"], ["one", "two", "proof"], false, fun F => b_interpolant (F 32) (F 17)⟩
def i_trimmed : FnI := ⟨("trimmed", none), "trimmed", "trimmed", top 31, ["sequent", "value", "left", "right", "both", "above", "other", "part", "here"], ["sequent", "value"], false, fun F => b_trimmed (F 9) (F 19)⟩
def i__law_pool : FnI := ⟨("_law_pool", none), "_law_pool", "_law_pool", top 33, ["script", "salt", "cell"], ["script"], true, fun F => b__law_pool⟩
def i__law_spread : FnI := ⟨("_law_spread", none), "_law_spread", "_law_spread", top 34, ["cell", "blended", "whole_sum", "k"], ["cell"], false, fun F => b__law_spread⟩
def i__law_draw : FnI := ⟨("_law_draw", none), "_law_draw", "_law_draw", top 35, ["pool", "many", "cell", "blended", "value"], ["pool", "many"], false, fun F => b__law_draw (F 21)⟩
def i__law_little : FnI := ⟨("_law_little", none), "_law_little", "_law_little", top 36, ["pool", "deep", "letters", "word", "one"], ["pool", "deep", "letters"], false, fun F => b__law_little (F 22) (F 23)⟩
def i__law_pick : FnI := ⟨("_law_pick", none), "_law_pick", "_law_pick", top 37, ["pool", "items"], ["pool", "items"], false, fun F => b__law_pick (F 22)⟩
def i__law_deny : FnI := ⟨("_law_deny", none), "_law_deny", "_law_deny", top 38, ["a"], ["a"], false, fun F => b__law_deny⟩
def i__law_all_rows : FnI := ⟨("_law_all_rows", none), "_law_all_rows", "_law_all_rows", top 39, ["rows", "a", "b"], [], false, fun F => b__law_all_rows⟩
def i__law_holds_in : FnI := ⟨("_law_holds_in", none), "_law_holds_in", "_law_holds_in", top 40, ["a", "row", "one", "two"], ["a", "row"], false, fun F => b__law_holds_in (F 27)⟩
def i__law_always : FnI := ⟨("_law_always", none), "_law_always", "_law_always", top 41, ["a", "row"], ["a"], false, fun F => b__law_always (F 26) (F 27)⟩
def i__law_letters_of : FnI := ⟨("_law_letters_of", none), "_law_letters_of", "_law_letters_of", top 42, ["a", "found", "part"], ["a"], false, fun F => b__law_letters_of (F 29)⟩
def i__law_lies : FnI := ⟨("_law_lies", none), "_law_lies", "_law_lies", top 43, ["one", "two", "value", "k"], ["one", "two", "value"], false, fun F => b__law_lies (F 28) (F 29)⟩
def i_law : FnI := ⟨("law", none), "law", "law", top 44, ["script", "pool", "a", "b", "c", "two", "told", "middle", "turned_v", "back", "more", "wider", "one", "other", "again", "second", "own"], ["script"], false, fun F => b_law (F 28) (F 25) (F 30) (F 23) (F 24) (F 20) (F 7) (F 18) (F 6) (F 11) (F 19)⟩
def i_Parted___init__ : FnI := ⟨("Parted", some "__init__"), "__init__", "Parted.__init__", inn 25 0, ["self", "left", "right"], ["self", "left", "right"], false, fun F => b_Parted___init__⟩
def i_Parted_half_of : FnI := ⟨("Parted", some "half_of"), "half_of", "Parted.half_of", inn 25 1, ["self", "side", "formula", "halves"], ["self", "side", "formula"], false, fun F => b_Parted_half_of⟩
def i_Parted_more : FnI := ⟨("Parted", some "more"), "more", "Parted.more", inn 25 2, ["self", "half", "lefts", "rights", "left", "right", "formula"], ["self", "half", "lefts", "rights"], false, fun F => b_Parted_more (F 32) (F 8)⟩
def fns : List FnI := [i_contrary, i_letters_in, i_joined_value, i_value_of, i_rows_of, i_against, i_is_theorem, i_are_equal, i_with_one, i_premises, i_step_for, i_search, i_either, i_both, i_turned, i_axiom_between, i_uppers_of, i_between, i_interpolant, i_trimmed, i__law_pool, i__law_spread, i__law_draw, i__law_little, i__law_pick, i__law_deny, i__law_all_rows, i__law_holds_in, i__law_always, i__law_letters_of, i__law_lies, i_law, i_Parted___init__, i_Parted_half_of, i_Parted_more]
def T : Tabs := ⟨[("contrary", 1), ("letters_in", 1), ("joined_value", 3), ("value_of", 2), ("rows_of", 1), ("against", 1), ("is_theorem", 1), ("are_equal", 2), ("with_one", 2), ("premises", 2), ("step_for", 1), ("search", 1), ("either", 2), ("both", 2), ("turned", 1), ("axiom_between", 2), ("uppers_of", 3), ("between", 2), ("interpolant", 3), ("trimmed", 2), ("_law_pool", 1), ("_law_spread", 1), ("_law_draw", 2), ("_law_little", 3), ("_law_pick", 2), ("_law_deny", 1), ("_law_all_rows", 0), ("_law_holds_in", 2), ("_law_always", 1), ("_law_letters_of", 1), ("_law_lies", 3), ("law", 1)], [(0, "half_of", 3, 33), (0, "more", 4, 34)], [("Parted", 3, 32)], [("FALSE", g_FALSE), ("LETTERS", g_LETTERS), ("PAIRS", g_PAIRS), ("TRUE", g_TRUE)], ["sorted", "set", "min", "max", "all", "tuple", "zip", "len", "int", "list", "range"], [(0, "left"), (0, "right")]⟩
end Law

set_option Elab.async false
set_option linter.all false
set_option maxRecDepth 100000
set_option maxHeartbeats 4000000
namespace Law
open PySem PySem.Spec L2 G
theorem sc_contrary : FnScope ["formula"] ["formula"] (defScope (top 7)) := ⟨rfl, rfl, rfl, by decide +kernel, rfl, by decide +kernel, by decide +kernel⟩
theorem bd_contrary {K : PySem.W.Frag} {f : Addr} {fd : FuncData} (F : FunD K i_contrary.name i_contrary.qual (defArgs i_contrary.st) (defBody i_contrary.st) (defScope i_contrary.st) [] [] f fd) : Binds K fd i_contrary.ps [] := F.bindsN fun _ _ _ _ _ _ us hl => match us, hl with | [_], _ => rfl
theorem d_contrary : Good T i_contrary := ⟨sc_contrary, bd_contrary, fun {P w K mg base cl F f cdv A outer s H E} C => by
  show GB cl _ (defBody (top 7)) (b_contrary)
  exact (gb_one (gs_ret (ge_tup (ga_cons ge_str (ga_cons (gv 0) (ga_cons (ge_globT (C.glob 0 rfl) rfl) ga_nil))))))⟩
theorem sc_letters_in : FnScope ["formula"] ["formula"] (defScope (top 8)) := ⟨rfl, rfl, rfl, by decide +kernel, rfl, by decide +kernel, by decide +kernel⟩
theorem bd_letters_in {K : PySem.W.Frag} {f : Addr} {fd : FuncData} (F : FunD K i_letters_in.name i_letters_in.qual (defArgs i_letters_in.st) (defBody i_letters_in.st) (defScope i_letters_in.st) [] [] f fd) : Binds K fd i_letters_in.ps [] := F.bindsN fun _ _ _ _ _ _ us hl => match us, hl with | [_], _ => rfl
theorem d_letters_in : Good T i_letters_in := ⟨sc_letters_in, bd_letters_in, fun {P w K mg base cl F f cdv A outer s H E} C => by
  show GB cl _ (defBody (top 8)) (b_letters_in (F 1))
  exact (gb_cons (gs_if (gt_cmp (o_eq C.hu) (ge_ix (gv 0) ge_int) ge_str) (gb_one (gs_ret (ge_lst (ga_cons (ge_ix (gv 0) ge_int) ga_nil)))) gb_nil) (gb_cons (gs_if (gt_cmp (o_eq C.hu) (ge_ix (gv 0) ge_int) ge_str) (gb_one (gs_ret (ge_lst ga_nil))) gb_nil) (gb_one (gs_ret (ge_sortset C.hu2 rfl rfl (C.free 0 rfl) rfl (C.free 1 rfl) (ge_op o_add (ge_call (C.call 1 rfl) rfl (ga_cons (ge_ix (gv 0) ge_int) ga_nil)) (ge_call (C.call 1 rfl) rfl (ga_cons (ge_ix (gv 0) ge_int) ga_nil))))))))⟩
theorem sc_joined_value : FnScope ["word", "one", "two"] ["word", "one", "two"] (defScope (top 9)) := ⟨rfl, rfl, rfl, by decide +kernel, rfl, by decide +kernel, by decide +kernel⟩
theorem bd_joined_value {K : PySem.W.Frag} {f : Addr} {fd : FuncData} (F : FunD K i_joined_value.name i_joined_value.qual (defArgs i_joined_value.st) (defBody i_joined_value.st) (defScope i_joined_value.st) [] [] f fd) : Binds K fd i_joined_value.ps [] := F.bindsN fun _ _ _ _ _ _ us hl => match us, hl with | [_, _, _], _ => rfl
theorem d_joined_value : Good T i_joined_value := ⟨sc_joined_value, bd_joined_value, fun {P w K mg base cl F f cdv A outer s H E} C => by
  show GB cl _ (defBody (top 9)) (b_joined_value)
  exact (gb_cons (gs_if (gt_cmp (o_eq C.hu) (gv 0) ge_str) (gb_one (gs_ret (ge_callB (c_min2 rfl) rfl (C.free 2 rfl) (by rfl) (ga_cons (gv 1) (ga_cons (gv 2) ga_nil))))) gb_nil) (gb_one (gs_ret (ge_ifExp (gt_cmp (o_eq C.hu) (gv 0) ge_str) (ge_callB (c_max2 rfl) rfl (C.free 3 rfl) (by rfl) (ga_cons (gv 1) (ga_cons (gv 2) ga_nil))) (ge_callB (c_max2 rfl) rfl (C.free 3 rfl) (by rfl) (ga_cons (ge_op o_sub ge_int (gv 1)) (ga_cons (gv 2) ga_nil)))))))⟩
theorem sc_value_of : FnScope ["formula", "row"] ["formula", "row"] (defScope (top 10)) := ⟨rfl, rfl, rfl, by decide +kernel, rfl, by decide +kernel, by decide +kernel⟩
theorem bd_value_of {K : PySem.W.Frag} {f : Addr} {fd : FuncData} (F : FunD K i_value_of.name i_value_of.qual (defArgs i_value_of.st) (defBody i_value_of.st) (defScope i_value_of.st) [] [] f fd) : Binds K fd i_value_of.ps [] := F.bindsN fun _ _ _ _ _ _ us hl => match us, hl with | [_, _], _ => rfl
theorem d_value_of : Good T i_value_of := ⟨sc_value_of, bd_value_of, fun {P w K mg base cl F f cdv A outer s H E} C => by
  show GB cl _ (defBody (top 10)) (b_value_of (F 2) (F 3))
  exact (gb_cons (gs_if (gt_cmp (o_eq C.hu) (ge_ix (gv 0) ge_int) ge_str) (gb_one (gs_ret (ge_ix (gv 1) (ge_ix (gv 0) ge_int)))) gb_nil) (gb_cons (gs_if (gt_cmp (o_eq C.hu) (ge_ix (gv 0) ge_int) ge_str) (gb_one (gs_ret ge_int)) gb_nil) (gb_one (gs_ret (ge_call (C.call 2 rfl) rfl (ga_cons (ge_ix (gv 0) ge_int) (ga_cons (ge_call (C.call 3 rfl) rfl (ga_cons (ge_ix (gv 0) ge_int) (ga_cons (gv 1) ga_nil))) (ga_cons (ge_call (C.call 3 rfl) rfl (ga_cons (ge_ix (gv 0) ge_int) (ga_cons (gv 1) ga_nil))) ga_nil))))))))⟩
theorem sc_rows_of : FnScope ["letters", "found", "letter", "row"] ["letters"] (defScope (top 11)) := ⟨rfl, rfl, rfl, by decide +kernel, rfl, by decide +kernel, by decide +kernel⟩
theorem bd_rows_of {K : PySem.W.Frag} {f : Addr} {fd : FuncData} (F : FunD K i_rows_of.name i_rows_of.qual (defArgs i_rows_of.st) (defBody i_rows_of.st) (defScope i_rows_of.st) [] [] f fd) : Binds K fd i_rows_of.ps [] := F.bindsN fun _ _ _ _ _ _ us hl => match us, hl with | [_], _ => rfl
theorem d_rows_of : Good T i_rows_of := ⟨sc_rows_of, bd_rows_of, fun {P w K mg base cl F f cdv A outer s H E} C => by
  show GB cl _ (defBody (top 11)) (b_rows_of)
  exact (gb_cons (gs_set (i := 1) sc_rows_of.nd rfl (by first | exact Or.inl rfl | exact Or.inr rfl) (ge_lst (ga_cons (ge_op o_mul (ge_tup (ga_cons ge_int ga_nil)) (ge_globT (C.glob 1 rfl) rfl)) ga_nil))) (gb_cons (gs_for PassesOwn.never rfl (gi_seq (ge_rev (ge_callB (c_sort C.hu2) rfl (C.free 0 rfl) (by rfl) (ga_cons (gv 0) ga_nil)))) (gg_name sc_rows_of.nd rfl (by first | exact Or.inl rfl | exact Or.inr rfl)) (gb_one (gs_set (i := 1) sc_rows_of.nd rfl (by first | exact Or.inl rfl | exact Or.inr rfl) (ge_op o_add (gv 1) (ge_comp (own := [("row", 3)]) rfl sc_rows_of.nd (gi_seq (gv 1)) (blkOk_by (by show blkC ["letters", "found", "letter", "row"] (defScope (top 11)) _ _ = true; decide +kernel)) (cg_name (by decide)) (fun _ _ _ _ _ => pg_name (i := 3) sc_rows_of.nd rfl (Or.inl rfl)) (fun _ _ _ _ _ => gts_nil) (fun _ _ _ _ _ => (ge_op o_add (ge_op o_add (ge_sl (gv 3) gp_none (gp_some (gv 2))) (ge_tup (ga_cons ge_int ga_nil))) (ge_sl (gv 3) (gp_some (ge_op o_add (gv 2) ge_int)) gp_none)))))))) (gb_one (gs_ret (ge_callB (c_sort C.hu2) rfl (C.free 0 rfl) (by rfl) (ga_cons (gv 1) ga_nil))))))⟩
theorem sc_against : FnScope ["formula", "row"] ["formula"] (defScope (top 12)) := ⟨rfl, rfl, rfl, by decide +kernel, rfl, by decide +kernel, by decide +kernel⟩
theorem bd_against {K : PySem.W.Frag} {f : Addr} {fd : FuncData} (F : FunD K i_against.name i_against.qual (defArgs i_against.st) (defBody i_against.st) (defScope i_against.st) [] [] f fd) : Binds K fd i_against.ps [] := F.bindsN fun _ _ _ _ _ _ us hl => match us, hl with | [_], _ => rfl
theorem d_against : Good T i_against := ⟨sc_against, bd_against, fun {P w K mg base cl F f cdv A outer s H E} C => by
  show GB cl _ (defBody (top 12)) (b_against (F 1) (F 4) (F 3))
  exact (gb_cons (gs_for PassesOwn.never rfl (gi_seq (ge_call (C.call 4 rfl) rfl (ga_cons (ge_call (C.call 1 rfl) rfl (ga_cons (gv 0) ga_nil)) ga_nil))) (gg_name sc_against.nd rfl (by first | exact Or.inl rfl | exact Or.inr rfl)) (gb_one (gs_if (gt_cmp (o_eq C.hu) (ge_call (C.call 3 rfl) rfl (ga_cons (gv 0) (ga_cons (gv 1) ga_nil))) ge_int) (gb_one (gs_ret (gv 1))) gb_nil))) (gb_one (gs_ret ge_non)))⟩
theorem sc_is_theorem : FnScope ["formula"] ["formula"] (defScope (top 13)) := ⟨rfl, rfl, rfl, by decide +kernel, rfl, by decide +kernel, by decide +kernel⟩
theorem bd_is_theorem {K : PySem.W.Frag} {f : Addr} {fd : FuncData} (F : FunD K i_is_theorem.name i_is_theorem.qual (defArgs i_is_theorem.st) (defBody i_is_theorem.st) (defScope i_is_theorem.st) [] [] f fd) : Binds K fd i_is_theorem.ps [] := F.bindsN fun _ _ _ _ _ _ us hl => match us, hl with | [_], _ => rfl
theorem d_is_theorem : Good T i_is_theorem := ⟨sc_is_theorem, bd_is_theorem, fun {P w K mg base cl F f cdv A outer s H E} C => by
  show GB cl _ (defBody (top 13)) (b_is_theorem (F 5))
  exact (gb_one (gs_ret (ge_isN (ge_call (C.call 5 rfl) rfl (ga_cons (gv 0) ga_nil)))))⟩
theorem sc_are_equal : FnScope ["one", "two", "row"] ["one", "two"] (defScope (top 14)) := ⟨rfl, rfl, rfl, by decide +kernel, rfl, by decide +kernel, by decide +kernel⟩
theorem bd_are_equal {K : PySem.W.Frag} {f : Addr} {fd : FuncData} (F : FunD K i_are_equal.name i_are_equal.qual (defArgs i_are_equal.st) (defBody i_are_equal.st) (defScope i_are_equal.st) [] [] f fd) : Binds K fd i_are_equal.ps [] := F.bindsN fun _ _ _ _ _ _ us hl => match us, hl with | [_, _], _ => rfl
theorem d_are_equal : Good T i_are_equal := ⟨sc_are_equal, bd_are_equal, fun {P w K mg base cl F f cdv A outer s H E} C => by
  show GB cl _ (defBody (top 14)) (b_are_equal (F 4) (F 3))
  exact (gb_one (gs_ret (ge_callB (c_all rfl) rfl (C.free 4 rfl) (by rfl) (ga_cons (ge_comp (own := [("row", 2)]) rfl sc_are_equal.nd (gi_seq (ge_call (C.call 4 rfl) rfl (ga_cons (ge_lst (ga_cons ge_int (ga_cons ge_int (ga_cons ge_int (ga_cons ge_int ga_nil))))) ga_nil))) (blkOk_by (by show blkC ["one", "two", "row"] (defScope (top 14)) _ _ = true; decide +kernel)) (cg_name (by decide)) (fun _ _ _ _ _ => pg_name (i := 2) sc_are_equal.nd rfl (Or.inl rfl)) (fun _ _ _ _ _ => gts_nil) (fun _ _ _ _ _ => (ge_cmp (o_eq C.hu) (ge_call (C.call 3 rfl) rfl (ga_cons (gv 0) (ga_cons (gv 2) ga_nil))) (ge_call (C.call 3 rfl) rfl (ga_cons (gv 1) (ga_cons (gv 2) ga_nil)))))) ga_nil))))⟩
theorem sc_with_one : FnScope ["side", "formula"] ["side", "formula"] (defScope (top 16)) := ⟨rfl, rfl, rfl, by decide +kernel, rfl, by decide +kernel, by decide +kernel⟩
theorem bd_with_one {K : PySem.W.Frag} {f : Addr} {fd : FuncData} (F : FunD K i_with_one.name i_with_one.qual (defArgs i_with_one.st) (defBody i_with_one.st) (defScope i_with_one.st) [] [] f fd) : Binds K fd i_with_one.ps [] := F.bindsN fun _ _ _ _ _ _ us hl => match us, hl with | [_, _], _ => rfl
theorem d_with_one : Good T i_with_one := ⟨sc_with_one, bd_with_one, fun {P w K mg base cl F f cdv A outer s H E} C => by
  show GB cl _ (defBody (top 16)) (b_with_one)
  exact (gb_one (gs_ret (ge_callTy c_tuple rfl (C.free 5 rfl) (by rfl) (ga_cons (ge_sortset C.hu2 rfl rfl (C.free 0 rfl) rfl (C.free 1 rfl) (ge_op o_add (gv 0) (ge_tup (ga_cons (gv 1) ga_nil)))) ga_nil))))⟩
theorem sc_premises : FnScope ["sequent", "proof", "left", "right", "word", "here", "one", "two"] ["sequent", "proof"] (defScope (top 17)) := ⟨rfl, rfl, rfl, by decide +kernel, rfl, by decide +kernel, by decide +kernel⟩
theorem bd_premises {K : PySem.W.Frag} {f : Addr} {fd : FuncData} (F : FunD K i_premises.name i_premises.qual (defArgs i_premises.st) (defBody i_premises.st) (defScope i_premises.st) [] [] f fd) : Binds K fd i_premises.ps [] := F.bindsN fun _ _ _ _ _ _ us hl => match us, hl with | [_, _], _ => rfl
theorem d_premises : Good T i_premises := ⟨sc_premises, bd_premises, fun {P w K mg base cl F f cdv A outer s H E} C => by
  show GB cl _ (defBody (top 17)) (b_premises (F 8))
  exact (gb_cons (gs_asg (gv 0) (gg_tup rfl (ggs_cons (gg_name sc_premises.nd rfl (by first | exact Or.inl rfl | exact Or.inr rfl)) (ggs_cons (gg_name sc_premises.nd rfl (by first | exact Or.inl rfl | exact Or.inr rfl)) ggs_nil)))) (gb_cons (gs_set (i := 4) sc_premises.nd rfl (by first | exact Or.inl rfl | exact Or.inr rfl) (ge_ix (gv 1) ge_int)) (gb_cons (gs_if (gt_cmp (o_eq C.hu) (gv 4) ge_str) (gb_one (gs_ret (ge_ifExp (gt_cmp (o_in C.hu1) (ge_globT (C.glob 0 rfl) rfl) (gv 2)) (ge_lst ga_nil) ge_non))) gb_nil) (gb_cons (gs_set (i := 5) sc_premises.nd rfl (by first | exact Or.inl rfl | exact Or.inr rfl) (ge_ix (gv 1) ge_int)) (gb_cons (gs_if (gt_cmp (o_eq C.hu) (gv 4) ge_str) (gb_one (gs_ret (ge_ifExp (gw_pt (gw_and (gt_cmp (o_in C.hu1) (gv 5) (gv 2)) (gw_and1 (gt_cmp (o_in C.hu1) (gv 5) (gv 3))))) (ge_lst ga_nil) ge_non))) gb_nil) (gb_cons (gs_if (gt_cmp (o_eq C.hu) (gv 4) ge_str) (gb_one (gs_ret (ge_lst (ga_cons (ge_tup (ga_cons (gv 2) (ga_cons (ge_call (C.call 8 rfl) rfl (ga_cons (gv 3) (ga_cons (gv 5) ga_nil))) ga_nil))) (ga_cons (ge_tup (ga_cons (ge_call (C.call 8 rfl) rfl (ga_cons (gv 2) (ga_cons (gv 5) ga_nil))) (ga_cons (gv 3) ga_nil))) ga_nil))))) gb_nil) (gb_cons (gs_if (gw_pt (gw_or (gt_cmp (o_nin C.hu1) (ge_ix (gv 5) ge_int) (ge_globT (C.glob 2 rfl) rfl)) (gw_or1 (gt_cmp (o_nin C.hu1) (gv 4) (ge_tup (ga_cons (ge_op o_add (ge_ix (gv 5) ge_int) ge_str) (ga_cons (ge_op o_add (ge_ix (gv 5) ge_int) ge_str) ga_nil))))))) (gb_one (gs_ret ge_non)) gb_nil) (gb_cons (gs_if (gt_cmp (o_nin C.hu1) (gv 5) (ge_ifExp (gt_val (ge_endswith (gv 4) ge_str)) (gv 2) (gv 3))) (gb_one (gs_ret ge_non)) gb_nil) (gb_cons (gs_par rfl sc_premises.nd rfl rfl (by decide) rfl rfl (ga_cons (ge_ix (gv 5) ge_int) (ga_cons (ge_ix (gv 5) ge_int) ga_nil)) rfl) (gb_cons (gs_if (gt_cmp (o_eq C.hu) (gv 4) ge_str) (gb_one (gs_ret (ge_lst (ga_cons (ge_tup (ga_cons (ge_call (C.call 8 rfl) rfl (ga_cons (ge_call (C.call 8 rfl) rfl (ga_cons (gv 2) (ga_cons (gv 6) ga_nil))) (ga_cons (gv 7) ga_nil))) (ga_cons (gv 3) ga_nil))) ga_nil)))) gb_nil) (gb_cons (gs_if (gt_cmp (o_eq C.hu) (gv 4) ge_str) (gb_one (gs_ret (ge_lst (ga_cons (ge_tup (ga_cons (ge_call (C.call 8 rfl) rfl (ga_cons (gv 2) (ga_cons (gv 6) ga_nil))) (ga_cons (gv 3) ga_nil))) (ga_cons (ge_tup (ga_cons (ge_call (C.call 8 rfl) rfl (ga_cons (gv 2) (ga_cons (gv 7) ga_nil))) (ga_cons (gv 3) ga_nil))) ga_nil))))) gb_nil) (gb_cons (gs_if (gt_cmp (o_eq C.hu) (gv 4) ge_str) (gb_one (gs_ret (ge_lst (ga_cons (ge_tup (ga_cons (gv 2) (ga_cons (ge_call (C.call 8 rfl) rfl (ga_cons (gv 3) (ga_cons (gv 6) ga_nil))) ga_nil))) (ga_cons (ge_tup (ga_cons (ge_call (C.call 8 rfl) rfl (ga_cons (gv 2) (ga_cons (gv 7) ga_nil))) (ga_cons (gv 3) ga_nil))) ga_nil))))) gb_nil) (gb_cons (gs_if (gt_cmp (o_eq C.hu) (gv 4) ge_str) (gb_one (gs_ret (ge_lst (ga_cons (ge_tup (ga_cons (gv 2) (ga_cons (ge_call (C.call 8 rfl) rfl (ga_cons (gv 3) (ga_cons (gv 6) ga_nil))) ga_nil))) (ga_cons (ge_tup (ga_cons (gv 2) (ga_cons (ge_call (C.call 8 rfl) rfl (ga_cons (gv 3) (ga_cons (gv 7) ga_nil))) ga_nil))) ga_nil))))) gb_nil) (gb_cons (gs_if (gt_cmp (o_eq C.hu) (gv 4) ge_str) (gb_one (gs_ret (ge_lst (ga_cons (ge_tup (ga_cons (gv 2) (ga_cons (ge_call (C.call 8 rfl) rfl (ga_cons (ge_call (C.call 8 rfl) rfl (ga_cons (gv 3) (ga_cons (gv 6) ga_nil))) (ga_cons (gv 7) ga_nil))) ga_nil))) ga_nil)))) gb_nil) (gb_one (gs_ret (ge_lst (ga_cons (ge_tup (ga_cons (ge_call (C.call 8 rfl) rfl (ga_cons (gv 2) (ga_cons (gv 6) ga_nil))) (ga_cons (ge_call (C.call 8 rfl) rfl (ga_cons (gv 3) (ga_cons (gv 7) ga_nil))) ga_nil))) ga_nil))))))))))))))))))⟩
theorem sc_step_for : FnScope ["sequent", "side", "formulas", "here", "step"] ["sequent"] (defScope (top 18)) := ⟨rfl, rfl, rfl, by decide +kernel, rfl, by decide +kernel, by decide +kernel⟩
theorem bd_step_for {K : PySem.W.Frag} {f : Addr} {fd : FuncData} (F : FunD K i_step_for.name i_step_for.qual (defArgs i_step_for.st) (defBody i_step_for.st) (defScope i_step_for.st) [] [] f fd) : Binds K fd i_step_for.ps [] := F.bindsN fun _ _ _ _ _ _ us hl => match us, hl with | [_], _ => rfl
theorem d_step_for : Good T i_step_for := ⟨sc_step_for, bd_step_for, fun {P w K mg base cl F f cdv A outer s H E} C => by
  show GB cl _ (defBody (top 18)) (b_step_for (F 9))
  exact (gb_cons (gs_for PassesOwn.never rfl (gi_zip rfl rfl (C.free 6 rfl) (ge_tup (ga_cons ge_str (ga_cons ge_str ga_nil))) (gv 0)) (gg_tup rfl (ggs_cons (gg_name sc_step_for.nd rfl (by first | exact Or.inl rfl | exact Or.inr rfl)) (ggs_cons (gg_name sc_step_for.nd rfl (by first | exact Or.inl rfl | exact Or.inr rfl)) ggs_nil))) (gb_one (gs_for PassesOwn.never rfl (gi_seq (gv 2)) (gg_name sc_step_for.nd rfl (by first | exact Or.inl rfl | exact Or.inr rfl)) (gb_cons (gs_set (i := 4) sc_step_for.nd rfl (by first | exact Or.inl rfl | exact Or.inr rfl) (ge_tup (ga_cons (ge_op o_add (ge_ix (gv 3) ge_int) (gv 1)) (ga_cons (gv 3) ga_nil)))) (gb_one (gs_if (gw_pt (gw_and (gt_cmp (o_in C.hu1) (ge_ix (gv 3) ge_int) (ge_globT (C.glob 2 rfl) rfl)) (gw_and1 (gt_cmp (o_nin C.hu1) (gv 0) (ge_call (C.call 9 rfl) rfl (ga_cons (gv 0) (ga_cons (gv 4) ga_nil))))))) (gb_one (gs_ret (gv 4))) gb_nil)))))) (gb_one (gs_ret ge_non)))⟩
theorem sc_search : FnScope ["sequent", "left", "right", "both", "step", "found", "here", "other"] ["sequent"] (defScope (top 19)) := ⟨rfl, rfl, rfl, by decide +kernel, rfl, by decide +kernel, by decide +kernel⟩
theorem bd_search {K : PySem.W.Frag} {f : Addr} {fd : FuncData} (F : FunD K i_search.name i_search.qual (defArgs i_search.st) (defBody i_search.st) (defScope i_search.st) [] [] f fd) : Binds K fd i_search.ps [] := F.bindsN fun _ _ _ _ _ _ us hl => match us, hl with | [_], _ => rfl
theorem d_search : Good T i_search := ⟨sc_search, bd_search, fun {P w K mg base cl F f cdv A outer s H E} C => by
  show GB cl _ (defBody (top 19)) (b_search (F 9) (F 11) (F 10))
  exact (gb_cons (gs_asg (gv 0) (gg_tup rfl (ggs_cons (gg_name sc_search.nd rfl (by first | exact Or.inl rfl | exact Or.inr rfl)) (ggs_cons (gg_name sc_search.nd rfl (by first | exact Or.inl rfl | exact Or.inr rfl)) ggs_nil)))) (gb_cons (gs_if (gt_cmp (o_in C.hu1) (ge_globT (C.glob 0 rfl) rfl) (gv 1)) (gb_one (gs_ret (ge_tup (ga_cons ge_str ga_nil)))) gb_nil) (gb_cons (gs_setComp (own := [("here", 6)]) rfl sc_search.nd rfl rfl (sw_true rfl rfl rfl (by decide +kernel)) (gi_seq (gv 1)) (blkOk_by (by show blkC ["sequent", "left", "right", "both", "step", "found", "here", "other"] (defScope (top 19)) _ _ = true; decide +kernel)) (cg_name (by decide)) (fun _ _ _ _ _ => pg_name (i := 6) sc_search.nd rfl (Or.inl rfl)) (fun _ _ _ _ _ => (gts_one (gt_cmp (o_in C.hu1) (gv 6) (gv 2)))) (fun _ _ _ _ _ => (gv 6))) (gb_cons (gs_if (gt_cmp o_gt (ge_callB c_len rfl (C.free 7 rfl) (by rfl) (ga_cons (gv 3) ga_nil)) ge_int) (gb_one (gs_ret (ge_tup (ga_cons ge_str (ga_cons (ge_ix (gv 3) ge_int) ga_nil))))) gb_nil) (gb_cons (gs_set (i := 4) sc_search.nd rfl (by first | exact Or.inl rfl | exact Or.inr rfl) (ge_call (C.call 10 rfl) rfl (ga_cons (gv 0) ga_nil))) (gb_cons (gs_if (gt_isN (gv 4)) (gb_one (gs_ret ge_non)) gb_nil) (gb_cons (gs_setComp (own := [("other", 7)]) rfl sc_search.nd rfl rfl (sw_true rfl rfl rfl (by decide +kernel)) (gi_seq (ge_call (C.call 9 rfl) rfl (ga_cons (gv 0) (ga_cons (gv 4) ga_nil)))) (blkOk_by (by show blkC ["sequent", "left", "right", "both", "step", "found", "here", "other"] (defScope (top 19)) _ _ = true; decide +kernel)) (cg_name (by decide)) (fun _ _ _ _ _ => pg_name (i := 7) sc_search.nd rfl (Or.inl rfl)) (fun _ _ _ _ _ => gts_nil) (fun _ _ _ _ _ => (ge_call (C.call 11 rfl) rfl (ga_cons (gv 7) ga_nil)))) (gb_one (gs_ret (ge_ifExp (gt_cmp (o_in C.hu1) ge_non (gv 5)) ge_non (ge_op o_add (gv 4) (ge_callTy c_tuple rfl (C.free 5 rfl) (by rfl) (ga_cons (gv 5) ga_nil)))))))))))))⟩
theorem sc_either : FnScope ["one", "two"] ["one", "two"] (defScope (top 22)) := ⟨rfl, rfl, rfl, by decide +kernel, rfl, by decide +kernel, by decide +kernel⟩
theorem bd_either {K : PySem.W.Frag} {f : Addr} {fd : FuncData} (F : FunD K i_either.name i_either.qual (defArgs i_either.st) (defBody i_either.st) (defScope i_either.st) [] [] f fd) : Binds K fd i_either.ps [] := F.bindsN fun _ _ _ _ _ _ us hl => match us, hl with | [_, _], _ => rfl
theorem d_either : Good T i_either := ⟨sc_either, bd_either, fun {P w K mg base cl F f cdv A outer s H E} C => by
  show GB cl _ (defBody (top 22)) (b_either)
  exact (gb_cons (gs_if (gw_pt (gw_or (gt_cmp (o_eq C.hu) (gv 0) (ge_globT (C.glob 3 rfl) rfl)) (gw_or1 (gt_cmp (o_eq C.hu) (gv 1) (ge_globT (C.glob 3 rfl) rfl))))) (gb_one (gs_ret (ge_globT (C.glob 3 rfl) rfl))) gb_nil) (gb_cons (gs_if (gw_pt (gw_or (gt_cmp (o_eq C.hu) (gv 0) (ge_globT (C.glob 0 rfl) rfl)) (gw_or1 (gt_cmp (o_eq C.hu) (gv 0) (gv 1))))) (gb_one (gs_ret (gv 1))) gb_nil) (gb_one (gs_ret (ge_ifExp (gt_cmp (o_eq C.hu) (gv 1) (ge_globT (C.glob 0 rfl) rfl)) (gv 0) (ge_tup (ga_cons ge_str (ga_cons (gv 0) (ga_cons (gv 1) ga_nil)))))))))⟩
theorem sc_both : FnScope ["one", "two"] ["one", "two"] (defScope (top 23)) := ⟨rfl, rfl, rfl, by decide +kernel, rfl, by decide +kernel, by decide +kernel⟩
theorem bd_both {K : PySem.W.Frag} {f : Addr} {fd : FuncData} (F : FunD K i_both.name i_both.qual (defArgs i_both.st) (defBody i_both.st) (defScope i_both.st) [] [] f fd) : Binds K fd i_both.ps [] := F.bindsN fun _ _ _ _ _ _ us hl => match us, hl with | [_, _], _ => rfl
theorem d_both : Good T i_both := ⟨sc_both, bd_both, fun {P w K mg base cl F f cdv A outer s H E} C => by
  show GB cl _ (defBody (top 23)) (b_both)
  exact (gb_cons (gs_if (gw_pt (gw_or (gt_cmp (o_eq C.hu) (gv 0) (ge_globT (C.glob 0 rfl) rfl)) (gw_or1 (gt_cmp (o_eq C.hu) (gv 1) (ge_globT (C.glob 0 rfl) rfl))))) (gb_one (gs_ret (ge_globT (C.glob 0 rfl) rfl))) gb_nil) (gb_cons (gs_if (gw_pt (gw_or (gt_cmp (o_eq C.hu) (gv 0) (ge_globT (C.glob 3 rfl) rfl)) (gw_or1 (gt_cmp (o_eq C.hu) (gv 0) (gv 1))))) (gb_one (gs_ret (gv 1))) gb_nil) (gb_one (gs_ret (ge_ifExp (gt_cmp (o_eq C.hu) (gv 1) (ge_globT (C.glob 3 rfl) rfl)) (gv 0) (ge_tup (ga_cons ge_str (ga_cons (gv 0) (ga_cons (gv 1) ga_nil)))))))))⟩
theorem sc_turned : FnScope ["formula"] ["formula"] (defScope (top 24)) := ⟨rfl, rfl, rfl, by decide +kernel, rfl, by decide +kernel, by decide +kernel⟩
theorem bd_turned {K : PySem.W.Frag} {f : Addr} {fd : FuncData} (F : FunD K i_turned.name i_turned.qual (defArgs i_turned.st) (defBody i_turned.st) (defScope i_turned.st) [] [] f fd) : Binds K fd i_turned.ps [] := F.bindsN fun _ _ _ _ _ _ us hl => match us, hl with | [_], _ => rfl
theorem d_turned : Good T i_turned := ⟨sc_turned, bd_turned, fun {P w K mg base cl F f cdv A outer s H E} C => by
  show GB cl _ (defBody (top 24)) (b_turned (F 0))
  exact (gb_cons (gs_if (gt_cmp (o_eq C.hu) (gv 0) (ge_globT (C.glob 0 rfl) rfl)) (gb_one (gs_ret (ge_globT (C.glob 3 rfl) rfl))) gb_nil) (gb_one (gs_ret (ge_ifExp (gt_cmp (o_eq C.hu) (gv 0) (ge_globT (C.glob 3 rfl) rfl)) (ge_globT (C.glob 0 rfl) rfl) (ge_call (C.call 0 rfl) rfl (ga_cons (gv 0) ga_nil))))))⟩
theorem sc_axiom_between : FnScope ["parted", "formula", "low", "high"] ["parted", "formula"] (defScope (top 26)) := ⟨rfl, rfl, rfl, by decide +kernel, rfl, by decide +kernel, by decide +kernel⟩
theorem bd_axiom_between {K : PySem.W.Frag} {f : Addr} {fd : FuncData} (F : FunD K i_axiom_between.name i_axiom_between.qual (defArgs i_axiom_between.st) (defBody i_axiom_between.st) (defScope i_axiom_between.st) [] [] f fd) : Binds K fd i_axiom_between.ps [] := F.bindsN fun _ _ _ _ _ _ us hl => match us, hl with | [_, _], _ => rfl
theorem d_axiom_between : Good T i_axiom_between := ⟨sc_axiom_between, bd_axiom_between, fun {P w K mg base cl F f cdv A outer s H E} C => by
  show GB cl _ (defBody (top 26)) (b_axiom_between (F 33) (F 14))
  exact (gb_cons (gs_par rfl sc_axiom_between.nd rfl rfl (by decide) rfl rfl (ga_cons (ge_meth (C.meth 0 rfl) (gv 0) (ga_cons ge_str (ga_cons (gv 1) ga_nil))) (ga_cons (ge_meth (C.meth 0 rfl) (gv 0) (ga_cons ge_str (ga_cons (gv 1) ga_nil))) ga_nil)) rfl) (gb_cons (gs_if (gt_cmp (o_eq C.hu) (gv 2) (gv 3)) (gb_one (gs_ret (ge_ifExp (gt_cmp (o_eq C.hu) (gv 2) ge_int) (ge_globT (C.glob 0 rfl) rfl) (ge_globT (C.glob 3 rfl) rfl)))) gb_nil) (gb_one (gs_ret (ge_ifExp (gt_cmp (o_eq C.hu) (gv 2) ge_int) (gv 1) (ge_call (C.call 14 rfl) rfl (ga_cons (gv 1) ga_nil)))))))⟩
theorem sc_uppers_of : FnScope ["parted", "step", "half", "word", "one", "two"] ["parted", "step", "half"] (defScope (top 27)) := ⟨rfl, rfl, rfl, by decide +kernel, rfl, by decide +kernel, by decide +kernel⟩
theorem bd_uppers_of {K : PySem.W.Frag} {f : Addr} {fd : FuncData} (F : FunD K i_uppers_of.name i_uppers_of.qual (defArgs i_uppers_of.st) (defBody i_uppers_of.st) (defScope i_uppers_of.st) [] [] f fd) : Binds K fd i_uppers_of.ps [] := F.bindsN fun _ _ _ _ _ _ us hl => match us, hl with | [_, _, _], _ => rfl
theorem d_uppers_of : Good T i_uppers_of := ⟨sc_uppers_of, bd_uppers_of, fun {P w K mg base cl F f cdv A outer s H E} C => by
  show GB cl _ (defBody (top 27)) (b_uppers_of (F 34))
  exact (gb_cons (gs_par3 rfl sc_uppers_of.nd rfl rfl rfl (by decide) (by decide) (by decide) rfl rfl rfl (ga_cons (ge_ix (gv 1) ge_int) (ga_cons (ge_ix (ge_ix (gv 1) ge_int) ge_int) (ga_cons (ge_ix (ge_ix (gv 1) ge_int) ge_int) ga_nil))) rfl) (gb_cons (gs_if (gt_cmp (o_eq C.hu) (gv 3) ge_str) (gb_one (gs_ret (ge_lst (ga_cons (ge_meth (C.meth 1 rfl) (gv 0) (ga_cons (gv 2) (ga_cons (ge_lst (ga_cons (gv 4) (ga_cons (gv 5) ga_nil))) (ga_cons (ge_lst ga_nil) ga_nil)))) ga_nil)))) gb_nil) (gb_cons (gs_if (gt_cmp (o_eq C.hu) (gv 3) ge_str) (gb_one (gs_ret (ge_lst (ga_cons (ge_meth (C.meth 1 rfl) (gv 0) (ga_cons (gv 2) (ga_cons (ge_lst ga_nil) (ga_cons (ge_lst (ga_cons (gv 4) (ga_cons (gv 5) ga_nil))) ga_nil)))) ga_nil)))) gb_nil) (gb_cons (gs_if (gt_cmp (o_eq C.hu) (gv 3) ge_str) (gb_one (gs_ret (ge_lst (ga_cons (ge_meth (C.meth 1 rfl) (gv 0) (ga_cons (gv 2) (ga_cons (ge_lst (ga_cons (gv 4) ga_nil)) (ga_cons (ge_lst (ga_cons (gv 5) ga_nil)) ga_nil)))) ga_nil)))) gb_nil) (gb_cons (gs_if (gt_cmp (o_eq C.hu) (gv 3) ge_str) (gb_one (gs_ret (ge_lst (ga_cons (ge_meth (C.meth 1 rfl) (gv 0) (ga_cons (gv 2) (ga_cons (ge_lst ga_nil) (ga_cons (ge_lst (ga_cons (gv 4) ga_nil)) ga_nil)))) (ga_cons (ge_meth (C.meth 1 rfl) (gv 0) (ga_cons (gv 2) (ga_cons (ge_lst (ga_cons (gv 5) ga_nil)) (ga_cons (ge_lst ga_nil) ga_nil)))) ga_nil))))) gb_nil) (gb_cons (gs_if (gt_cmp (o_eq C.hu) (gv 3) ge_str) (gb_one (gs_ret (ge_lst (ga_cons (ge_meth (C.meth 1 rfl) (gv 0) (ga_cons (gv 2) (ga_cons (ge_lst (ga_cons (gv 4) ga_nil)) (ga_cons (ge_lst ga_nil) ga_nil)))) (ga_cons (ge_meth (C.meth 1 rfl) (gv 0) (ga_cons (gv 2) (ga_cons (ge_lst (ga_cons (gv 5) ga_nil)) (ga_cons (ge_lst ga_nil) ga_nil)))) ga_nil))))) gb_nil) (gb_one (gs_ret (ge_lst (ga_cons (ge_meth (C.meth 1 rfl) (gv 0) (ga_cons (gv 2) (ga_cons (ge_lst ga_nil) (ga_cons (ge_lst (ga_cons (gv 4) ga_nil)) ga_nil)))) (ga_cons (ge_meth (C.meth 1 rfl) (gv 0) (ga_cons (gv 2) (ga_cons (ge_lst ga_nil) (ga_cons (ge_lst (ga_cons (gv 5) ga_nil)) ga_nil)))) ga_nil)))))))))))⟩
theorem sc_between : FnScope ["parted", "proof", "side", "half", "found", "other", "part"] ["parted", "proof"] (defScope (top 28)) := ⟨rfl, rfl, rfl, by decide +kernel, rfl, by decide +kernel, by decide +kernel⟩
theorem bd_between {K : PySem.W.Frag} {f : Addr} {fd : FuncData} (F : FunD K i_between.name i_between.qual (defArgs i_between.st) (defBody i_between.st) (defScope i_between.st) [] [] f fd) : Binds K fd i_between.ps [] := F.bindsN fun _ _ _ _ _ _ us hl => match us, hl with | [_, _], _ => rfl
theorem d_between : Good T i_between := ⟨sc_between, bd_between, fun {P w K mg base cl F f cdv A outer s H E} C => by
  show GB cl _ (defBody (top 28)) (b_between (F 33) (F 15) (F 17) (F 13) (F 12) (F 16))
  exact (gb_cons (gs_if (gt_cmp (o_eq C.hu) (ge_ix (gv 1) ge_int) ge_str) (gb_one (gs_ret (ge_ifExp (gt_cmp (o_in C.hu1) (ge_globT (C.glob 0 rfl) rfl) (ge_ix (ge_fld (C.cls 0 (by decide)) (C.noat 0 rfl) (gv 0)) ge_int)) (ge_globT (C.glob 0 rfl) rfl) (ge_globT (C.glob 3 rfl) rfl)))) gb_nil) (gb_cons (gs_if (gt_cmp (o_eq C.hu) (ge_ix (gv 1) ge_int) ge_str) (gb_one (gs_ret (ge_call (C.call 15 rfl) rfl (ga_cons (gv 0) (ga_cons (ge_ix (gv 1) ge_int) ga_nil))))) gb_nil) (gb_cons (gs_if (gw_pt (gw_or (gt_cmp (o_eq C.hu) (ge_ix (gv 1) ge_int) ge_str) (gw_or1 (gt_cmp (o_nin C.hu1) (ge_ix (ge_ix (gv 1) ge_int) ge_int) (ge_globT (C.glob 2 rfl) rfl))))) (gb_one gs_never) gb_nil) (gb_cons (gs_set (i := 2) sc_between.nd rfl (by first | exact Or.inl rfl | exact Or.inr rfl) (ge_ifExp (gt_val (ge_endswith (ge_ix (gv 1) ge_int) ge_str)) ge_str ge_str)) (gb_cons (gs_set (i := 3) sc_between.nd rfl (by first | exact Or.inl rfl | exact Or.inr rfl) (ge_meth (C.meth 0 rfl) (gv 0) (ga_cons (gv 2) (ga_cons (ge_ix (gv 1) ge_int) ga_nil)))) (gb_cons (gs_setComp (own := [("other", 5), ("part", 6)]) rfl sc_between.nd rfl rfl (sw_true rfl rfl rfl (by decide +kernel)) (gi_zip rfl rfl (C.free 6 rfl) (ge_call (C.call 16 rfl) rfl (ga_cons (gv 0) (ga_cons (gv 1) (ga_cons (gv 3) ga_nil)))) (ge_sl (gv 1) (gp_some ge_int) gp_none)) (blkOk_by (by show blkC ["parted", "proof", "side", "half", "found", "other", "part"] (defScope (top 28)) _ _ = true; decide +kernel)) (cg_pair (by decide) (by decide)) (fun _ _ _ _ _ => pg_tup rfl (pgs_cons (pg_name (i := 5) sc_between.nd rfl (Or.inl rfl)) (pgs_cons (pg_name (i := 6) sc_between.nd rfl (Or.inl rfl)) pgs_nil))) (fun _ _ _ _ _ => gts_nil) (fun _ _ _ _ _ => (ge_call (C.call 17 rfl) rfl (ga_cons (gv 5) (ga_cons (gv 6) ga_nil))))) (gb_cons (gs_if (gt_cmp (o_eq C.hu) (ge_callB c_len rfl (C.free 7 rfl) (by rfl) (ga_cons (gv 4) ga_nil)) ge_int) (gb_one (gs_ret (ge_ix (gv 4) ge_int))) gb_nil) (gb_one (gs_ret (ge_ifExp (gt_cmp (o_eq C.hu) (gv 3) ge_int) (ge_call (C.call 12 rfl) rfl (ga_cons (ge_ix (gv 4) ge_int) (ga_cons (ge_ix (gv 4) ge_int) ga_nil))) (ge_call (C.call 13 rfl) rfl (ga_cons (ge_ix (gv 4) ge_int) (ga_cons (ge_ix (gv 4) ge_int) ga_nil)))))))))))))⟩
theorem sc_interpolant : FnScope ["one", "two", "proof"] ["one", "two", "proof"] (defScope (top 29)) := ⟨rfl, rfl, rfl, by decide +kernel, rfl, by decide +kernel, by decide +kernel⟩
theorem bd_interpolant {K : PySem.W.Frag} {f : Addr} {fd : FuncData} (F : FunD K i_interpolant.name i_interpolant.qual (defArgs i_interpolant.st) (defBody i_interpolant.st) (defScope i_interpolant.st) [] [] f fd) : Binds K fd i_interpolant.ps [] := F.bindsN fun _ _ _ _ _ _ us hl => match us, hl with | [_, _, _], _ => rfl
theorem d_interpolant : Good T i_interpolant := ⟨sc_interpolant, bd_interpolant, fun {P w K mg base cl F f cdv A outer s H E} C => by
  show GB cl _ (defBody (top 29)) (b_interpolant (F 32) (F 17))
  exact (gb_one (gs_ret (ge_call (C.call 17 rfl) rfl (ga_cons (ge_make (C.make 0 rfl) rfl (ga_cons (ge_tup (ga_cons (ge_tup (ga_cons (gv 0) ga_nil)) (ga_cons (ge_tup ga_nil) ga_nil))) (ga_cons (ge_tup (ga_cons (ge_tup ga_nil) (ga_cons (ge_tup (ga_cons (gv 1) ga_nil)) ga_nil))) ga_nil))) (ga_cons (gv 2) ga_nil)))))⟩
theorem sc_trimmed : FnScope ["sequent", "value", "left", "right", "both", "above", "other", "part", "here"] ["sequent", "value"] (defScope (top 31)) := ⟨rfl, rfl, rfl, by decide +kernel, rfl, by decide +kernel, by decide +kernel⟩
theorem bd_trimmed {K : PySem.W.Frag} {f : Addr} {fd : FuncData} (F : FunD K i_trimmed.name i_trimmed.qual (defArgs i_trimmed.st) (defBody i_trimmed.st) (defScope i_trimmed.st) [] [] f fd) : Binds K fd i_trimmed.ps [] := F.bindsN fun _ _ _ _ _ _ us hl => match us, hl with | [_, _], _ => rfl
theorem d_trimmed : Good T i_trimmed := ⟨sc_trimmed, bd_trimmed, fun {P w K mg base cl F f cdv A outer s H E} C => by
  show GB cl _ (defBody (top 31)) (b_trimmed (F 9) (F 19))
  exact (gb_cons (gs_asg (gv 0) (gg_tup rfl (ggs_cons (gg_name sc_trimmed.nd rfl (by first | exact Or.inl rfl | exact Or.inr rfl)) (ggs_cons (gg_name sc_trimmed.nd rfl (by first | exact Or.inl rfl | exact Or.inr rfl)) ggs_nil)))) (gb_cons (gs_if (gt_cmp (o_in C.hu1) (ge_globT (C.glob 0 rfl) rfl) (gv 2)) (gb_one (gs_ret (ge_tup (ga_cons ge_str ga_nil)))) gb_nil) (gb_cons (gs_setComp (own := [("here", 8)]) rfl sc_trimmed.nd rfl rfl (sw_true rfl rfl rfl (by decide +kernel)) (gi_seq (gv 2)) (blkOk_by (by show blkC ["sequent", "value", "left", "right", "both", "above", "other", "part", "here"] (defScope (top 31)) _ _ = true; decide +kernel)) (cg_name (by decide)) (fun _ _ _ _ _ => pg_name (i := 8) sc_trimmed.nd rfl (Or.inl rfl)) (fun _ _ _ _ _ => (gts_one (gt_cmp (o_in C.hu1) (gv 8) (gv 3)))) (fun _ _ _ _ _ => (gv 8))) (gb_cons (gs_if (gt_cmp o_gt (ge_callB c_len rfl (C.free 7 rfl) (by rfl) (ga_cons (gv 4) ga_nil)) ge_int) (gb_one (gs_ret (ge_tup (ga_cons ge_str (ga_cons (ge_ix (gv 4) ge_int) ga_nil))))) gb_nil) (gb_cons (gs_set (i := 5) sc_trimmed.nd rfl (by first | exact Or.inl rfl | exact Or.inr rfl) (ge_call (C.call 9 rfl) rfl (ga_cons (gv 0) (ga_cons (gv 1) ga_nil)))) (gb_cons (gs_for PassesOwn.never rfl (gi_zip rfl rfl (C.free 6 rfl) (gv 5) (ge_sl (gv 1) (gp_some ge_int) gp_none)) (gg_tup rfl (ggs_cons (gg_name sc_trimmed.nd rfl (by first | exact Or.inl rfl | exact Or.inr rfl)) (ggs_cons (gg_name sc_trimmed.nd rfl (by first | exact Or.inl rfl | exact Or.inr rfl)) ggs_nil))) (gb_one (gs_if (gt_cmp (o_eq C.hu) (gv 6) (gv 0)) (gb_one (gs_ret (ge_call (C.call 19 rfl) rfl (ga_cons (gv 0) (ga_cons (gv 7) ga_nil))))) gb_nil))) (gb_one (gs_ret (ge_op o_add (ge_sl (gv 1) gp_none (gp_some ge_int)) (ge_callTy c_tuple rfl (C.free 5 rfl) (by rfl) (ga_cons (ge_comp (own := [("other", 6), ("part", 7)]) rfl sc_trimmed.nd (gi_zip rfl rfl (C.free 6 rfl) (gv 5) (ge_sl (gv 1) (gp_some ge_int) gp_none)) (blkOk_by (by show blkC ["sequent", "value", "left", "right", "both", "above", "other", "part", "here"] (defScope (top 31)) _ _ = true; decide +kernel)) (cg_pair (by decide) (by decide)) (fun _ _ _ _ _ => pg_tup rfl (pgs_cons (pg_name (i := 6) sc_trimmed.nd rfl (Or.inl rfl)) (pgs_cons (pg_name (i := 7) sc_trimmed.nd rfl (Or.inl rfl)) pgs_nil))) (fun _ _ _ _ _ => gts_nil) (fun _ _ _ _ _ => (ge_call (C.call 19 rfl) rfl (ga_cons (gv 6) (ga_cons (gv 7) ga_nil))))) ga_nil)))))))))))⟩
theorem sc__law_pool : FnScope ["script", "salt", "cell"] ["script"] (defScope (top 33)) := ⟨rfl, rfl, rfl, by decide +kernel, rfl, by decide +kernel, by decide +kernel⟩
theorem bd__law_pool {K : PySem.W.Frag} {f : Addr} {fd : FuncData} (F : FunD K i__law_pool.name i__law_pool.qual (defArgs i__law_pool.st) (defBody i__law_pool.st) (defScope i__law_pool.st) [] [] f fd) : Binds K fd i__law_pool.ps [] := F.bindsN fun _ _ _ _ _ _ us hl => match us, hl with | [_], _ => rfl
theorem d__law_pool : Good T i__law_pool := ⟨sc__law_pool, bd__law_pool, fun {P w K mg base cl F f cdv A outer s H E} C => by
  show GB cl _ (defBody (top 33)) (b__law_pool)
  exact (gb_cons (gs_set (i := 1) sc__law_pool.nd rfl (by first | exact Or.inl rfl | exact Or.inr rfl) ge_int) (gb_cons (gs_for PassesOwn.never rfl (gi_seq (ge_sl (gv 0) gp_none (gp_some ge_int))) (gg_name sc__law_pool.nd rfl (by first | exact Or.inl rfl | exact Or.inr rfl)) (gb_one (gs_set (i := 1) sc__law_pool.nd rfl (by first | exact Or.inl rfl | exact Or.inr rfl) (ge_op o_mod (ge_callTy c_int rfl (C.free 8 rfl) (by rfl) (ga_cons (ge_op o_add (ge_op o_mul (gv 1) ge_int) (gv 2)) ga_nil)) ge_int)))) (gb_one (gs_ret (ge_newL (ga_cons (ge_callTy c_list rfl (C.free 9 rfl) (by rfl) (ga_cons (gv 0) ga_nil)) (ga_cons ge_int (ga_cons ge_int (ga_cons ge_int (ga_cons (gv 1) ga_nil))))))))))⟩
theorem sc__law_spread : FnScope ["cell", "blended", "whole_sum", "k"] ["cell"] (defScope (top 34)) := ⟨rfl, rfl, rfl, by decide +kernel, rfl, by decide +kernel, by decide +kernel⟩
theorem bd__law_spread {K : PySem.W.Frag} {f : Addr} {fd : FuncData} (F : FunD K i__law_spread.name i__law_spread.qual (defArgs i__law_spread.st) (defBody i__law_spread.st) (defScope i__law_spread.st) [] [] f fd) : Binds K fd i__law_spread.ps [] := F.bindsN fun _ _ _ _ _ _ us hl => match us, hl with | [_], _ => rfl
theorem d__law_spread : Good T i__law_spread := ⟨sc__law_spread, bd__law_spread, fun {P w K mg base cl F f cdv A outer s H E} C => by
  show GB cl _ (defBody (top 34)) (b__law_spread)
  exact (gb_cons (gs_set (i := 1) sc__law_spread.nd rfl (by first | exact Or.inl rfl | exact Or.inr rfl) (ge_op o_mod (ge_callTy c_int rfl (C.free 8 rfl) (by rfl) (ga_cons (gv 0) ga_nil)) ge_int)) (gb_cons (gs_set (i := 2) sc__law_spread.nd rfl (by first | exact Or.inl rfl | exact Or.inr rfl) ge_int) (gb_cons (gs_for PassesOwn.never rfl (gi_rg1 rfl (C.free 10 rfl) (ga_cons ge_int ga_nil)) (gg_name sc__law_spread.nd rfl (by first | exact Or.inl rfl | exact Or.inr rfl)) (gb_cons (gs_set (i := 1) sc__law_spread.nd rfl (by first | exact Or.inl rfl | exact Or.inr rfl) (ge_op o_mod (ge_callTy c_int rfl (C.free 8 rfl) (by rfl) (ga_cons (ge_op o_add (ge_op o_add (ge_op o_mul (gv 1) ge_int) ge_int) (gv 3)) ga_nil)) ge_int)) (gb_one (gs_set (i := 2) sc__law_spread.nd rfl (by first | exact Or.inl rfl | exact Or.inr rfl) (ge_op o_add (ge_op o_mul (gv 2) ge_int) (gv 1)))))) (gb_one (gs_ret (gv 2))))))⟩
theorem sc__law_draw : FnScope ["pool", "many", "cell", "blended", "value"] ["pool", "many"] (defScope (top 35)) := ⟨rfl, rfl, rfl, by decide +kernel, rfl, by decide +kernel, by decide +kernel⟩
theorem bd__law_draw {K : PySem.W.Frag} {f : Addr} {fd : FuncData} (F : FunD K i__law_draw.name i__law_draw.qual (defArgs i__law_draw.st) (defBody i__law_draw.st) (defScope i__law_draw.st) [] [] f fd) : Binds K fd i__law_draw.ps [] := F.bindsN fun _ _ _ _ _ _ us hl => match us, hl with | [_, _], _ => rfl
theorem d__law_draw : Good T i__law_draw := ⟨sc__law_draw, bd__law_draw, fun {P w K mg base cl F f cdv A outer s H E} C => by
  show GB cl _ (defBody (top 35)) (b__law_draw (F 21))
  exact (gb_cons (gs_if (gw_pt (gw_and (gt_cmp o_le (ge_ix (gv 0) ge_int) ge_int) (gw_and1 (gt_cmp o_lt (ge_ix (gv 0) ge_int) (ge_callB c_len rfl (C.free 7 rfl) (by rfl) (ga_cons (ge_ix (gv 0) ge_int) ga_nil)))))) (gb_cons (gs_set (i := 2) sc__law_draw.nd rfl (by first | exact Or.inl rfl | exact Or.inr rfl) (ge_ix (ge_ix (gv 0) ge_int) (ge_ix (gv 0) ge_int))) (gb_cons (gs_asg (ge_op o_add (ge_ix (gv 0) ge_int) ge_int) (gg_subL (gv 0) ge_int)) (gb_cons (gs_asg (gv 2) (gg_subL (gv 0) ge_int)) (gb_one (gs_if (gt_cmp o_lt (gv 2) ge_int) (gb_one (gs_asg (ge_call (C.call 21 rfl) rfl (ga_cons (gv 2) ga_nil)) (gg_subL (gv 0) ge_int))) gb_nil))))) gb_nil) (gb_cons (gs_asg (ge_op o_add (ge_ix (gv 0) ge_int) ge_int) (gg_subL (gv 0) ge_int)) (gb_cons (gs_if (gt_cmp o_le (ge_ix (gv 0) ge_int) ge_int) (gb_cons (gs_set (i := 3) sc__law_draw.nd rfl (by first | exact Or.inl rfl | exact Or.inr rfl) (ge_op o_mod (ge_callTy c_int rfl (C.free 8 rfl) (by rfl) (ga_cons (ge_op o_add (ge_op o_add (ge_op o_mul (ge_ix (gv 0) ge_int) ge_int) (ge_op o_mul (ge_ix (gv 0) ge_int) ge_int)) ge_int) ga_nil)) ge_int)) (gb_cons (gs_set (i := 3) sc__law_draw.nd rfl (by first | exact Or.inl rfl | exact Or.inr rfl) (ge_op o_mod (ge_callTy c_int rfl (C.free 8 rfl) (by rfl) (ga_cons (ge_op o_add (ge_op o_mul (gv 3) ge_int) (ge_ix (gv 0) ge_int)) ga_nil)) ge_int)) (gb_one (gs_ret (ge_op o_mod (ge_op o_fdiv (gv 3) ge_int) (gv 1)))))) gb_nil) (gb_cons (gs_set (i := 4) sc__law_draw.nd rfl (by first | exact Or.inl rfl | exact Or.inr rfl) (ge_op o_mod (ge_callTy c_int rfl (C.free 8 rfl) (by rfl) (ga_cons (ge_ix (gv 0) ge_int) ga_nil)) (gv 1))) (gb_cons (gs_asg (ge_op o_fdiv (ge_ix (gv 0) ge_int) (gv 1)) (gg_subL (gv 0) ge_int)) (gb_one (gs_ret (gv 4))))))))⟩
theorem sc__law_little : FnScope ["pool", "deep", "letters", "word", "one"] ["pool", "deep", "letters"] (defScope (top 36)) := ⟨rfl, rfl, rfl, by decide +kernel, rfl, by decide +kernel, by decide +kernel⟩
theorem bd__law_little {K : PySem.W.Frag} {f : Addr} {fd : FuncData} (F : FunD K i__law_little.name i__law_little.qual (defArgs i__law_little.st) (defBody i__law_little.st) (defScope i__law_little.st) [] [] f fd) : Binds K fd i__law_little.ps [] := F.bindsN fun _ _ _ _ _ _ us hl => match us, hl with | [_, _, _], _ => rfl
theorem d__law_little : Good T i__law_little := ⟨sc__law_little, bd__law_little, fun {P w K mg base cl F f cdv A outer s H E} C => by
  show GB cl _ (defBody (top 36)) (b__law_little (F 22) (F 23))
  exact (gb_cons (gs_if (gw_pt (gw_or (gt_cmp (o_eq C.hu) (gv 1) ge_int) (gw_or1 (gt_cmp (o_eq C.hu) (ge_call (C.call 22 rfl) rfl (ga_cons (gv 0) (ga_cons ge_int ga_nil))) ge_int)))) (gb_one (gs_ret (ge_ifExp (gt_cmp o_gt (ge_call (C.call 22 rfl) rfl (ga_cons (gv 0) (ga_cons ge_int ga_nil))) ge_int) (ge_tup (ga_cons ge_str (ga_cons (ge_call (C.call 22 rfl) rfl (ga_cons (gv 0) (ga_cons (gv 2) ga_nil))) ga_nil))) (ge_tup (ga_cons ge_str ga_nil))))) gb_nil) (gb_cons (gs_set (i := 3) sc__law_little.nd rfl (by first | exact Or.inl rfl | exact Or.inr rfl) (ge_ix (ge_tup (ga_cons ge_str (ga_cons ge_str (ga_cons ge_str (ga_cons ge_str ga_nil))))) (ge_call (C.call 22 rfl) rfl (ga_cons (gv 0) (ga_cons ge_int ga_nil))))) (gb_cons (gs_set (i := 4) sc__law_little.nd rfl (by first | exact Or.inl rfl | exact Or.inr rfl) (ge_call (C.call 23 rfl) rfl (ga_cons (gv 0) (ga_cons (ge_op o_sub (gv 1) ge_int) (ga_cons (gv 2) ga_nil))))) (gb_one (gs_ret (ge_tup (ga_cons (gv 3) (ga_cons (gv 4) (ga_cons (ge_call (C.call 23 rfl) rfl (ga_cons (gv 0) (ga_cons (ge_op o_sub (gv 1) ge_int) (ga_cons (gv 2) ga_nil)))) ga_nil)))))))))⟩
theorem sc__law_pick : FnScope ["pool", "items"] ["pool", "items"] (defScope (top 37)) := ⟨rfl, rfl, rfl, by decide +kernel, rfl, by decide +kernel, by decide +kernel⟩
theorem bd__law_pick {K : PySem.W.Frag} {f : Addr} {fd : FuncData} (F : FunD K i__law_pick.name i__law_pick.qual (defArgs i__law_pick.st) (defBody i__law_pick.st) (defScope i__law_pick.st) [] [] f fd) : Binds K fd i__law_pick.ps [] := F.bindsN fun _ _ _ _ _ _ us hl => match us, hl with | [_, _], _ => rfl
theorem d__law_pick : Good T i__law_pick := ⟨sc__law_pick, bd__law_pick, fun {P w K mg base cl F f cdv A outer s H E} C => by
  show GB cl _ (defBody (top 37)) (b__law_pick (F 22))
  exact (gb_one (gs_ret (ge_ix (gv 1) (ge_call (C.call 22 rfl) rfl (ga_cons (gv 0) (ga_cons (ge_callB c_len rfl (C.free 7 rfl) (by rfl) (ga_cons (gv 1) ga_nil)) ga_nil))))))⟩
theorem sc__law_deny : FnScope ["a"] ["a"] (defScope (top 38)) := ⟨rfl, rfl, rfl, by decide +kernel, rfl, by decide +kernel, by decide +kernel⟩
theorem bd__law_deny {K : PySem.W.Frag} {f : Addr} {fd : FuncData} (F : FunD K i__law_deny.name i__law_deny.qual (defArgs i__law_deny.st) (defBody i__law_deny.st) (defScope i__law_deny.st) [] [] f fd) : Binds K fd i__law_deny.ps [] := F.bindsN fun _ _ _ _ _ _ us hl => match us, hl with | [_], _ => rfl
theorem d__law_deny : Good T i__law_deny := ⟨sc__law_deny, bd__law_deny, fun {P w K mg base cl F f cdv A outer s H E} C => by
  show GB cl _ (defBody (top 38)) (b__law_deny)
  exact (gb_one (gs_ret (ge_tup (ga_cons ge_str (ga_cons (gv 0) (ga_cons (ge_tup (ga_cons ge_str ga_nil)) ga_nil))))))⟩
theorem sc__law_all_rows : FnScope ["rows", "a", "b"] [] (defScope (top 39)) := ⟨rfl, rfl, rfl, by decide +kernel, rfl, by decide +kernel, by decide +kernel⟩
theorem bd__law_all_rows {K : PySem.W.Frag} {f : Addr} {fd : FuncData} (F : FunD K i__law_all_rows.name i__law_all_rows.qual (defArgs i__law_all_rows.st) (defBody i__law_all_rows.st) (defScope i__law_all_rows.st) [] [] f fd) : Binds K fd i__law_all_rows.ps [] := F.bindsN fun _ _ _ _ _ _ us hl => match us, hl with | [], _ => rfl
theorem d__law_all_rows : Good T i__law_all_rows := ⟨sc__law_all_rows, bd__law_all_rows, fun {P w K mg base cl F f cdv A outer s H E} C => by
  show GB cl _ (defBody (top 39)) (b__law_all_rows)
  exact (gb_cons (gs_set (i := 0) sc__law_all_rows.nd rfl (by first | exact Or.inl rfl | exact Or.inr rfl) (ge_lst ga_nil)) (gb_cons (gs_for PassesOwn.never rfl (gi_seq (ge_tup (ga_cons ge_int (ga_cons ge_int ga_nil)))) (gg_name sc__law_all_rows.nd rfl (by first | exact Or.inl rfl | exact Or.inr rfl)) (gb_one (gs_for PassesOwn.never rfl (gi_seq (ge_tup (ga_cons ge_int (ga_cons ge_int ga_nil)))) (gg_name sc__law_all_rows.nd rfl (by first | exact Or.inl rfl | exact Or.inr rfl)) (gb_one (gs_set (i := 0) sc__law_all_rows.nd rfl (by first | exact Or.inl rfl | exact Or.inr rfl) (ge_op o_add (gv 0) (ge_lst (ga_cons (ge_tup (ga_cons (gv 1) (ga_cons (gv 2) (ga_cons ge_int (ga_cons ge_int ga_nil))))) (ga_cons (ge_tup (ga_cons (gv 1) (ga_cons (gv 2) (ga_cons ge_int (ga_cons ge_int ga_nil))))) (ga_cons (ge_tup (ga_cons (gv 1) (ga_cons (gv 2) (ga_cons ge_int (ga_cons ge_int ga_nil))))) (ga_cons (ge_tup (ga_cons (gv 1) (ga_cons (gv 2) (ga_cons ge_int (ga_cons ge_int ga_nil))))) ga_nil))))))))))) (gb_one (gs_ret (gv 0)))))⟩
theorem sc__law_holds_in : FnScope ["a", "row", "one", "two"] ["a", "row"] (defScope (top 40)) := ⟨rfl, rfl, rfl, by decide +kernel, rfl, by decide +kernel, by decide +kernel⟩
theorem bd__law_holds_in {K : PySem.W.Frag} {f : Addr} {fd : FuncData} (F : FunD K i__law_holds_in.name i__law_holds_in.qual (defArgs i__law_holds_in.st) (defBody i__law_holds_in.st) (defScope i__law_holds_in.st) [] [] f fd) : Binds K fd i__law_holds_in.ps [] := F.bindsN fun _ _ _ _ _ _ us hl => match us, hl with | [_, _], _ => rfl
theorem d__law_holds_in : Good T i__law_holds_in := ⟨sc__law_holds_in, bd__law_holds_in, fun {P w K mg base cl F f cdv A outer s H E} C => by
  show GB cl _ (defBody (top 40)) (b__law_holds_in (F 27))
  exact (gb_cons (gs_if (gt_cmp (o_eq C.hu) (ge_ix (gv 0) ge_int) ge_str) (gb_one (gs_ret (ge_cmp (o_eq C.hu) (ge_ix (gv 1) (ge_ix (gv 0) ge_int)) ge_int))) gb_nil) (gb_cons (gs_if (gt_cmp (o_eq C.hu) (ge_ix (gv 0) ge_int) ge_str) (gb_one (gs_ret ge_bl)) gb_nil) (gb_cons (gs_par rfl sc__law_holds_in.nd rfl rfl (by decide) rfl rfl (ga_cons (ge_call (C.call 27 rfl) rfl (ga_cons (ge_ix (gv 0) ge_int) (ga_cons (gv 1) ga_nil))) (ga_cons (ge_call (C.call 27 rfl) rfl (ga_cons (ge_ix (gv 0) ge_int) (ga_cons (gv 1) ga_nil))) ga_nil)) rfl) (gb_one (gs_ret (ge_ifExp (gt_cmp (o_eq C.hu) (ge_ix (gv 0) ge_int) ge_str) (ge_and (gv 2) (ge_one (gv 3))) (ge_ifExp (gt_cmp (o_eq C.hu) (ge_ix (gv 0) ge_int) ge_str) (ge_or (gv 2) (ge_one (gv 3))) (ge_or (gv 3) (ge_one (ge_not (gv 2)))))))))))⟩
theorem sc__law_always : FnScope ["a", "row"] ["a"] (defScope (top 41)) := ⟨rfl, rfl, rfl, by decide +kernel, rfl, by decide +kernel, by decide +kernel⟩
theorem bd__law_always {K : PySem.W.Frag} {f : Addr} {fd : FuncData} (F : FunD K i__law_always.name i__law_always.qual (defArgs i__law_always.st) (defBody i__law_always.st) (defScope i__law_always.st) [] [] f fd) : Binds K fd i__law_always.ps [] := F.bindsN fun _ _ _ _ _ _ us hl => match us, hl with | [_], _ => rfl
theorem d__law_always : Good T i__law_always := ⟨sc__law_always, bd__law_always, fun {P w K mg base cl F f cdv A outer s H E} C => by
  show GB cl _ (defBody (top 41)) (b__law_always (F 26) (F 27))
  exact (gb_one (gs_ret (ge_cmp (o_eq C.hu) (ge_callB c_len rfl (C.free 7 rfl) (by rfl) (ga_cons (ge_comp (own := [("row", 1)]) rfl sc__law_always.nd (gi_seq (ge_call0 (C.call 26 rfl) rfl)) (blkOk_by (by show blkC ["a", "row"] (defScope (top 41)) _ _ = true; decide +kernel)) (cg_name (by decide)) (fun _ _ _ _ _ => pg_name (i := 1) sc__law_always.nd rfl (Or.inl rfl)) (fun _ _ _ _ _ => (gts_one (gt_not (gt_val (ge_call (C.call 27 rfl) rfl (ga_cons (gv 0) (ga_cons (gv 1) ga_nil))))))) (fun _ _ _ _ _ => (gv 1))) ga_nil)) ge_int)))⟩
theorem sc__law_letters_of : FnScope ["a", "found", "part"] ["a"] (defScope (top 42)) := ⟨rfl, rfl, rfl, by decide +kernel, rfl, by decide +kernel, by decide +kernel⟩
theorem bd__law_letters_of {K : PySem.W.Frag} {f : Addr} {fd : FuncData} (F : FunD K i__law_letters_of.name i__law_letters_of.qual (defArgs i__law_letters_of.st) (defBody i__law_letters_of.st) (defScope i__law_letters_of.st) [] [] f fd) : Binds K fd i__law_letters_of.ps [] := F.bindsN fun _ _ _ _ _ _ us hl => match us, hl with | [_], _ => rfl
theorem d__law_letters_of : Good T i__law_letters_of := ⟨sc__law_letters_of, bd__law_letters_of, fun {P w K mg base cl F f cdv A outer s H E} C => by
  show GB cl _ (defBody (top 42)) (b__law_letters_of (F 29))
  exact (gb_cons (gs_if (gt_cmp (o_eq C.hu) (ge_ix (gv 0) ge_int) ge_str) (gb_one (gs_ret (ge_lst (ga_cons (ge_ix (gv 0) ge_int) ga_nil)))) gb_nil) (gb_cons (gs_set (i := 1) sc__law_letters_of.nd rfl (by first | exact Or.inl rfl | exact Or.inr rfl) (ge_lst ga_nil)) (gb_cons (gs_for PassesOwn.never rfl (gi_seq (ge_sl (gv 0) (gp_some ge_int) gp_none)) (gg_name sc__law_letters_of.nd rfl (by first | exact Or.inl rfl | exact Or.inr rfl)) (gb_one (gs_set (i := 1) sc__law_letters_of.nd rfl (by first | exact Or.inl rfl | exact Or.inr rfl) (ge_op o_add (gv 1) (ge_call (C.call 29 rfl) rfl (ga_cons (gv 2) ga_nil)))))) (gb_one (gs_ret (gv 1))))))⟩
theorem sc__law_lies : FnScope ["one", "two", "value", "k"] ["one", "two", "value"] (defScope (top 43)) := ⟨rfl, rfl, rfl, by decide +kernel, rfl, by decide +kernel, by decide +kernel⟩
theorem bd__law_lies {K : PySem.W.Frag} {f : Addr} {fd : FuncData} (F : FunD K i__law_lies.name i__law_lies.qual (defArgs i__law_lies.st) (defBody i__law_lies.st) (defScope i__law_lies.st) [] [] f fd) : Binds K fd i__law_lies.ps [] := F.bindsN fun _ _ _ _ _ _ us hl => match us, hl with | [_, _, _], _ => rfl
theorem d__law_lies : Good T i__law_lies := ⟨sc__law_lies, bd__law_lies, fun {P w K mg base cl F f cdv A outer s H E} C => by
  show GB cl _ (defBody (top 43)) (b__law_lies (F 28) (F 29))
  exact (gb_cons (gs_if (gt_cmp (o_ne C.hu) (ge_comp (own := [("k", 3)]) rfl sc__law_lies.nd (gi_seq (ge_call (C.call 29 rfl) rfl (ga_cons (gv 2) ga_nil))) (blkOk_by (by show blkC ["one", "two", "value", "k"] (defScope (top 43)) _ _ = true; decide +kernel)) (cg_name (by decide)) (fun _ _ _ _ _ => pg_name (i := 3) sc__law_lies.nd rfl (Or.inl rfl)) (fun _ _ _ _ _ => (gts_one (gw_pt (gw_or (gt_cmp (o_nin C.hu1) (gv 3) (ge_call (C.call 29 rfl) rfl (ga_cons (gv 0) ga_nil))) (gw_or1 (gt_cmp (o_nin C.hu1) (gv 3) (ge_call (C.call 29 rfl) rfl (ga_cons (gv 1) ga_nil)))))))) (fun _ _ _ _ _ => (gv 3))) (ge_lst ga_nil)) (gb_one (gs_ret ge_bl)) gb_nil) (gb_one (gs_ret (ge_and (ge_call (C.call 28 rfl) rfl (ga_cons (ge_tup (ga_cons ge_str (ga_cons (gv 0) (ga_cons (gv 2) ga_nil)))) ga_nil)) (ge_one (ge_call (C.call 28 rfl) rfl (ga_cons (ge_tup (ga_cons ge_str (ga_cons (gv 2) (ga_cons (gv 1) ga_nil)))) ga_nil)))))))⟩
theorem sc_law : FnScope ["script", "pool", "a", "b", "c", "two", "told", "middle", "turned_v", "back", "more", "wider", "one", "other", "again", "second", "own"] ["script"] (defScope (top 44)) := ⟨rfl, rfl, rfl, by decide +kernel, rfl, by decide +kernel, by decide +kernel⟩
theorem bd_law {K : PySem.W.Frag} {f : Addr} {fd : FuncData} (F : FunD K i_law.name i_law.qual (defArgs i_law.st) (defBody i_law.st) (defScope i_law.st) [] [] f fd) : Binds K fd i_law.ps [] := F.bindsN fun _ _ _ _ _ _ us hl => match us, hl with | [_], _ => rfl
theorem d_law : Good T i_law := ⟨sc_law, bd_law, fun {P w K mg base cl F f cdv A outer s H E} C => by
  show GB cl _ (defBody (top 44)) (b_law (F 28) (F 25) (F 30) (F 23) (F 24) (F 20) (F 7) (F 18) (F 6) (F 11) (F 19))
  exact (gb_cons (gs_set (i := 1) sc_law.nd rfl (by first | exact Or.inl rfl | exact Or.inr rfl) (ge_call (C.call 20 rfl) rfl (ga_cons (gv 0) ga_nil))) (gb_cons (gs_par3 rfl sc_law.nd rfl rfl rfl (by decide) (by decide) (by decide) rfl rfl rfl (ga_cons (ge_call (C.call 23 rfl) rfl (ga_cons (gv 1) (ga_cons ge_int (ga_cons ge_int ga_nil)))) (ga_cons (ge_call (C.call 23 rfl) rfl (ga_cons (gv 1) (ga_cons ge_int (ga_cons ge_int ga_nil)))) (ga_cons (ge_call (C.call 23 rfl) rfl (ga_cons (gv 1) (ga_cons ge_int (ga_cons ge_int ga_nil)))) ga_nil))) rfl) (gb_cons (gs_set (i := 5) sc_law.nd rfl (by first | exact Or.inl rfl | exact Or.inr rfl) (ge_call (C.call 24 rfl) rfl (ga_cons (gv 1) (ga_cons (ge_lst (ga_cons (ge_tup (ga_cons ge_str (ga_cons (gv 2) (ga_cons (gv 3) ga_nil)))) (ga_cons (ge_tup (ga_cons ge_str (ga_cons (gv 3) (ga_cons (gv 2) ga_nil)))) (ga_cons (gv 2) (ga_cons (ge_tup (ga_cons ge_str (ga_cons (gv 3) (ga_cons (ge_tup (ga_cons ge_str (ga_cons (gv 4) (ga_cons (gv 2) ga_nil)))) ga_nil)))) (ga_cons (ge_tup (ga_cons ge_str (ga_cons (ge_call (C.call 25 rfl) rfl (ga_cons (gv 2) ga_nil)) (ga_cons (gv 3) ga_nil)))) ga_nil)))))) ga_nil)))) (gb_cons (gs_if (gw_pt (gw_or (gt_not (gt_val (ge_call (C.call 28 rfl) rfl (ga_cons (ge_tup (ga_cons ge_str (ga_cons (gv 2) (ga_cons (gv 5) ga_nil)))) ga_nil)))) (gw_or1 (gt_cmp o_notB (ge_call (C.call 6 rfl) rfl (ga_cons (ge_tup (ga_cons ge_str (ga_cons (gv 2) (ga_cons (gv 5) ga_nil)))) ga_nil)) ge_bl)))) (gb_one (gs_ret ge_bl)) gb_nil) (gb_cons (gs_set (i := 6) sc_law.nd rfl (by first | exact Or.inl rfl | exact Or.inr rfl) (ge_call (C.call 11 rfl) rfl (ga_cons (ge_tup (ga_cons (ge_tup (ga_cons (gv 2) ga_nil)) (ga_cons (ge_tup (ga_cons (gv 5) ga_nil)) ga_nil))) ga_nil))) (gb_cons (gs_set (i := 7) sc_law.nd rfl (by first | exact Or.inl rfl | exact Or.inr rfl) (ge_call (C.call 18 rfl) rfl (ga_cons (gv 2) (ga_cons (gv 5) (ga_cons (gv 6) ga_nil))))) (gb_cons (gs_if (gt_not (gt_val (ge_call (C.call 30 rfl) rfl (ga_cons (gv 2) (ga_cons (gv 5) (ga_cons (gv 7) ga_nil)))))) (gb_one (gs_ret ge_bl)) gb_nil) (gb_cons (gs_set (i := 8) sc_law.nd rfl (by first | exact Or.inl rfl | exact Or.inr rfl) (ge_call (C.call 11 rfl) rfl (ga_cons (ge_tup (ga_cons (ge_tup (ga_cons (ge_call (C.call 25 rfl) rfl (ga_cons (gv 5) ga_nil)) ga_nil)) (ga_cons (ge_tup (ga_cons (ge_call (C.call 25 rfl) rfl (ga_cons (gv 2) ga_nil)) ga_nil)) ga_nil))) ga_nil))) (gb_cons (gs_set (i := 9) sc_law.nd rfl (by first | exact Or.inl rfl | exact Or.inr rfl) (ge_call (C.call 18 rfl) rfl (ga_cons (ge_call (C.call 25 rfl) rfl (ga_cons (gv 5) ga_nil)) (ga_cons (ge_call (C.call 25 rfl) rfl (ga_cons (gv 2) ga_nil)) (ga_cons (gv 8) ga_nil))))) (gb_cons (gs_if (gw_pt (gw_or (gt_not (gt_val (ge_call (C.call 30 rfl) rfl (ga_cons (ge_call (C.call 25 rfl) rfl (ga_cons (gv 5) ga_nil)) (ga_cons (ge_call (C.call 25 rfl) rfl (ga_cons (gv 2) ga_nil)) (ga_cons (gv 9) ga_nil)))))) (gw_or1 (gt_not (gt_val (ge_call (C.call 30 rfl) rfl (ga_cons (ge_call (C.call 25 rfl) rfl (ga_cons (gv 5) ga_nil)) (ga_cons (ge_call (C.call 25 rfl) rfl (ga_cons (gv 2) ga_nil)) (ga_cons (ge_call (C.call 25 rfl) rfl (ga_cons (gv 7) ga_nil)) ga_nil))))))))) (gb_one (gs_ret ge_bl)) gb_nil) (gb_cons (gs_par rfl sc_law.nd rfl rfl (by decide) rfl rfl (ga_cons (ge_tup (ga_cons ge_str (ga_cons (gv 2) (ga_cons (gv 4) ga_nil)))) (ga_cons (ge_tup (ga_cons ge_str (ga_cons (gv 5) (ga_cons (gv 4) ga_nil)))) ga_nil)) rfl) (gb_cons (gs_if (gw_pt (gw_or (gt_not (gt_val (ge_call (C.call 30 rfl) rfl (ga_cons (gv 10) (ga_cons (gv 5) (ga_cons (gv 7) ga_nil)))))) (gw_or1 (gt_not (gt_val (ge_call (C.call 30 rfl) rfl (ga_cons (gv 2) (ga_cons (gv 11) (ga_cons (gv 7) ga_nil))))))))) (gb_one (gs_ret ge_bl)) gb_nil) (gb_cons (gs_for PassesOwn.never rfl (gi_seq (ge_lst (ga_cons (ge_tup (ga_cons (gv 10) (ga_cons (gv 5) ga_nil))) (ga_cons (ge_tup (ga_cons (gv 2) (ga_cons (gv 11) ga_nil))) ga_nil)))) (gg_tup rfl (ggs_cons (gg_name sc_law.nd rfl (by first | exact Or.inl rfl | exact Or.inr rfl)) (ggs_cons (gg_name sc_law.nd rfl (by first | exact Or.inl rfl | exact Or.inr rfl)) ggs_nil))) (gb_cons (gs_set (i := 14) sc_law.nd rfl (by first | exact Or.inl rfl | exact Or.inr rfl) (ge_call (C.call 18 rfl) rfl (ga_cons (gv 12) (ga_cons (gv 13) (ga_cons (ge_call (C.call 11 rfl) rfl (ga_cons (ge_tup (ga_cons (ge_tup (ga_cons (gv 12) ga_nil)) (ga_cons (ge_tup (ga_cons (gv 13) ga_nil)) ga_nil))) ga_nil)) ga_nil))))) (gb_one (gs_if (gt_not (gt_val (ge_call (C.call 30 rfl) rfl (ga_cons (gv 12) (ga_cons (gv 13) (ga_cons (gv 14) ga_nil)))))) (gb_one (gs_ret ge_bl)) gb_nil)))) (gb_cons (gs_set (i := 15) sc_law.nd rfl (by first | exact Or.inl rfl | exact Or.inr rfl) (ge_call (C.call 18 rfl) rfl (ga_cons (gv 2) (ga_cons (gv 5) (ga_cons (ge_call (C.call 19 rfl) rfl (ga_cons (ge_tup (ga_cons (ge_tup (ga_cons (gv 2) ga_nil)) (ga_cons (ge_tup (ga_cons (gv 5) ga_nil)) ga_nil))) (ga_cons (gv 6) ga_nil))) ga_nil))))) (gb_cons (gs_if (gw_pt (gw_or (gt_not (gt_val (ge_call (C.call 30 rfl) rfl (ga_cons (gv 2) (ga_cons (gv 5) (ga_cons (gv 15) ga_nil)))))) (gw_or (gt_not (gt_val (ge_call (C.call 30 rfl) rfl (ga_cons (gv 2) (ga_cons (gv 5) (ga_cons (ge_tup (ga_cons ge_str (ga_cons (gv 7) (ga_cons (gv 15) ga_nil)))) ga_nil)))))) (gw_or1 (gt_not (gt_val (ge_call (C.call 30 rfl) rfl (ga_cons (gv 2) (ga_cons (gv 5) (ga_cons (ge_tup (ga_cons ge_str (ga_cons (gv 7) (ga_cons (gv 15) ga_nil)))) ga_nil)))))))))) (gb_one (gs_ret ge_bl)) gb_nil) (gb_cons (gs_set (i := 16) sc_law.nd rfl (by first | exact Or.inl rfl | exact Or.inr rfl) (ge_call (C.call 18 rfl) rfl (ga_cons (gv 2) (ga_cons (gv 2) (ga_cons (ge_tup (ga_cons ge_str (ga_cons (gv 2) ga_nil))) ga_nil))))) (gb_one (gs_ret (ge_and (ge_call (C.call 30 rfl) rfl (ga_cons (gv 2) (ga_cons (gv 2) (ga_cons (gv 16) ga_nil)))) (ge_one (ge_cmp o_isB (ge_call (C.call 7 rfl) rfl (ga_cons (gv 16) (ga_cons (gv 2) ga_nil))) ge_bl)))))))))))))))))))))⟩
theorem sc_Parted___init__ : FnScope ["self", "left", "right"] ["self", "left", "right"] (defScope (inn 25 0)) := ⟨rfl, rfl, rfl, by decide +kernel, rfl, by decide +kernel, by decide +kernel⟩
theorem bd_Parted___init__ {K : PySem.W.Frag} {f : Addr} {fd : FuncData} (F : FunD K i_Parted___init__.name i_Parted___init__.qual (defArgs i_Parted___init__.st) (defBody i_Parted___init__.st) (defScope i_Parted___init__.st) [] [] f fd) : Binds K fd i_Parted___init__.ps [] := F.bindsN fun _ _ _ _ _ _ us hl => match us, hl with | [_, _, _], _ => rfl
theorem d_Parted___init__ : Good T i_Parted___init__ := ⟨sc_Parted___init__, bd_Parted___init__, fun {P w K mg base cl F f cdv A outer s H E} C => by
  show GB cl _ (defBody (inn 25 0)) (b_Parted___init__)
  exact (gb_cons (gs_fld (C.cls 0 (by decide)) (C.noat 0 rfl) (gv 0) (gv 1)) (gb_one (gs_fld (C.cls 0 (by decide)) (C.noat 1 rfl) (gv 0) (gv 2))))⟩
theorem sc_Parted_half_of : FnScope ["self", "side", "formula", "halves"] ["self", "side", "formula"] (defScope (inn 25 1)) := ⟨rfl, rfl, rfl, by decide +kernel, rfl, by decide +kernel, by decide +kernel⟩
theorem bd_Parted_half_of {K : PySem.W.Frag} {f : Addr} {fd : FuncData} (F : FunD K i_Parted_half_of.name i_Parted_half_of.qual (defArgs i_Parted_half_of.st) (defBody i_Parted_half_of.st) (defScope i_Parted_half_of.st) [] [] f fd) : Binds K fd i_Parted_half_of.ps [] := F.bindsN fun _ _ _ _ _ _ us hl => match us, hl with | [_, _, _], _ => rfl
theorem d_Parted_half_of : Good T i_Parted_half_of := ⟨sc_Parted_half_of, bd_Parted_half_of, fun {P w K mg base cl F f cdv A outer s H E} C => by
  show GB cl _ (defBody (inn 25 1)) (b_Parted_half_of)
  exact (gb_cons (gs_set (i := 3) sc_Parted_half_of.nd rfl (by first | exact Or.inl rfl | exact Or.inr rfl) (ge_ifExp (gt_cmp (o_eq C.hu) (gv 1) ge_str) (ge_fld (C.cls 0 (by decide)) (C.noat 0 rfl) (gv 0)) (ge_fld (C.cls 0 (by decide)) (C.noat 1 rfl) (gv 0)))) (gb_one (gs_ret (ge_ifExp (gt_cmp (o_in C.hu1) (gv 2) (ge_ix (gv 3) ge_int)) ge_int ge_int))))⟩
theorem sc_Parted_more : FnScope ["self", "half", "lefts", "rights", "left", "right", "formula"] ["self", "half", "lefts", "rights"] (defScope (inn 25 2)) := ⟨rfl, rfl, rfl, by decide +kernel, rfl, by decide +kernel, by decide +kernel⟩
theorem bd_Parted_more {K : PySem.W.Frag} {f : Addr} {fd : FuncData} (F : FunD K i_Parted_more.name i_Parted_more.qual (defArgs i_Parted_more.st) (defBody i_Parted_more.st) (defScope i_Parted_more.st) [] [] f fd) : Binds K fd i_Parted_more.ps [] := F.bindsN fun _ _ _ _ _ _ us hl => match us, hl with | [_, _, _, _], _ => rfl
theorem d_Parted_more : Good T i_Parted_more := ⟨sc_Parted_more, bd_Parted_more, fun {P w K mg base cl F f cdv A outer s H E} C => by
  show GB cl _ (defBody (inn 25 2)) (b_Parted_more (F 32) (F 8))
  exact (gb_cons (gs_par rfl sc_Parted_more.nd rfl rfl (by decide) rfl rfl (ga_cons (ge_callTy c_listM rfl (C.free 9 rfl) (by rfl) (ga_cons (ge_fld (C.cls 0 (by decide)) (C.noat 0 rfl) (gv 0)) ga_nil)) (ga_cons (ge_callTy c_listM rfl (C.free 9 rfl) (by rfl) (ga_cons (ge_fld (C.cls 0 (by decide)) (C.noat 1 rfl) (gv 0)) ga_nil)) ga_nil)) rfl) (gb_cons (gs_for PassesOwn.never rfl (gi_seq (gv 2)) (gg_name sc_Parted_more.nd rfl (by first | exact Or.inl rfl | exact Or.inr rfl)) (gb_one (gs_asg (ge_call (C.call 8 rfl) rfl (ga_cons (ge_ix (gv 4) (gv 1)) (ga_cons (gv 6) ga_nil))) (gg_subL (gv 4) (gv 1))))) (gb_cons (gs_for PassesOwn.never rfl (gi_seq (gv 3)) (gg_name sc_Parted_more.nd rfl (by first | exact Or.inl rfl | exact Or.inr rfl)) (gb_one (gs_asg (ge_call (C.call 8 rfl) rfl (ga_cons (ge_ix (gv 5) (gv 1)) (ga_cons (gv 6) ga_nil))) (gg_subL (gv 5) (gv 1))))) (gb_one (gs_ret (ge_make (C.make 0 rfl) rfl (ga_cons (ge_callTy c_tuple rfl (C.free 5 rfl) (by rfl) (ga_cons (gv 4) ga_nil)) (ga_cons (ge_callTy c_tuple rfl (C.free 5 rfl) (by rfl) (ga_cons (gv 5) ga_nil)) ga_nil))))))))⟩
theorem good : ∀ (i : Nat) (I : FnI), fns[i]? = some I → Good T I := by
  intro i I h
  have m : I ∈ fns := List.mem_of_getElem? h
  simp only [fns, List.mem_cons, List.not_mem_nil, or_false] at m
  rcases m with rfl | rfl | rfl | rfl | rfl | rfl | rfl | rfl | rfl | rfl | rfl | rfl | rfl | rfl | rfl | rfl | rfl | rfl | rfl | rfl | rfl | rfl | rfl | rfl | rfl | rfl | rfl | rfl | rfl | rfl | rfl | rfl | rfl | rfl | rfl
  · exact d_contrary
  · exact d_letters_in
  · exact d_joined_value
  · exact d_value_of
  · exact d_rows_of
  · exact d_against
  · exact d_is_theorem
  · exact d_are_equal
  · exact d_with_one
  · exact d_premises
  · exact d_step_for
  · exact d_search
  · exact d_either
  · exact d_both
  · exact d_turned
  · exact d_axiom_between
  · exact d_uppers_of
  · exact d_between
  · exact d_interpolant
  · exact d_trimmed
  · exact d__law_pool
  · exact d__law_spread
  · exact d__law_draw
  · exact d__law_little
  · exact d__law_pick
  · exact d__law_deny
  · exact d__law_all_rows
  · exact d__law_holds_in
  · exact d__law_always
  · exact d__law_letters_of
  · exact d__law_lies
  · exact d_law
  · exact d_Parted___init__
  · exact d_Parted_half_of
  · exact d_Parted_more
theorem tabs_ok : T.okB fns = true := by decide +kernel
end Law

set_option Elab.async false
set_option linter.all false
set_option maxRecDepth 100000
set_option maxHeartbeats 0
namespace Law
open PySem PySem.Spec L2 G
abbrev rw0 : PySem.W.OpenLaw := PySem.Challenge.rw_everyproof_k83_whole_formulas_between_tu
abbrev hk : PySem.W.Hook := He.hookX 4 T.fas (fns.map FnI.dd) [] [] T.ex
def ob (s : PySem.W.SharedT) : He.AlX := He.obsX 4 T.fas (fns.map FnI.dd) [] [] T.ex (HandSHeadRun.getT s)
theorem ob_eq (s : PySem.W.SharedT) : ob s = hk.obs s.abs := He.obsX_eq (HandSHeadRun.getT_eq s)
def loose : List PySem.Str := (["ProofError", "NotAllowed", "LETTERS", "PAIRS", "FALSE", "contrary", "letters_in", "joined_value", "value_of", "rows_of", "against", "is_theorem", "are_equal", "with_one", "premises", "step_for", "search", "TRUE", "either", "both", "turned", "Parted", "axiom_between", "uppers_of", "between", "interpolant", "trimmed", "_law_pool", "_law_spread", "_law_draw"] : List PySem.Str) ++ (["_law_little", "_law_pick", "_law_deny", "_law_all_rows", "_law_holds_in", "_law_always", "_law_letters_of", "_law_lies"] : List PySem.Str)
def lev : Nat := 115
theorem run (w : World) : HandSHeadRun.RunEq (PySem.W.OpenLaw.row rw0) (PySem.W.view (PySem.W.OpenLaw.row rw0).prog [44]) hk ob 2000 loose w := by
  intro os
  kernel_rfl
theorem law_facts {P : Program} {w : World} {K : PySem.W.Frag} {h : Heap} {mg : Str → Option Value} {f : Addr} (k : Nat) (X : K.In h) (N : h.Ns mainGlobals mg) (hf : mg ("law" : Str) = some (.ref f)) (c : He.SaysX T.fas (fns.map FnI.dd) [] [] T.ex w h K) :
    ∃ fd : FuncData, (∀ (s : Shared) (v : Value), BindsTo s fd ⟨[v], []⟩ [("script", v)]) ∧ ∀ base : Heap, FnOk P w K mg base CX0 (2 * k) f fd ["script"] (spG (clK T K) K 1 (Fk fns k 31)) := by
  have S := said_of X N c
  obtain ⟨fd, F⟩ := S.fn 31 i_law rfl
  have e := hf.symm.trans (S.glo ("law", 1) (List.mem_of_getElem? (i := 31) rfl))
  have e2 : f = He.fAd K i_law.at_ := by cases e; rfl
  have b := FunD.bindsA (ps := ["script"]) F fun _ _ _ _ _ _ us hl => match us, hl with | [_], _ => rfl
  exact ⟨fd, fun s v => b s [v] rfl, fun base => e2 ▸ levels S tabs_ok good k 31 i_law fd rfl F⟩
end Law
section
open PySem PySem.W PySem.Calls PyProof.Rows
theorem law_head (law_true : ∀ ns : List Int, ns.length ≤ 63 → ∃ M, G.Fk Law.fns Law.lev 31 [.rol (ns.map G.D.int)] [] = some (.bl true, M)) : PySem.Challenge.rw_everyproof_k83_whole_formulas_between_tu.Holds := by
  w_on; o_law
  refine HandSHeadRun.head_any (r := OpenLaw.row Law.rw0) (q := view (OpenLaw.row Law.rw0).prog [44]) (H := Law.hk) (ob := Law.ob) (M := 2000) (loose := Law.loose) (d := HandSHeadRun.topDef (OpenLaw.row Law.rw0).prog 44) (kwd := []) Law.ob_eq
    (by kernel_rfl) (fun s => by kernel_rfl) Law.run (by kernel_rfl) (by kernel_rfl) (by kernel_rfl) (by rfl) (by first | assumption | decide +kernel) (by decide +kernel) ⟨rfl, rfl, rfl, rfl, rfl, by decide +kernel⟩ ?hw ?hc
  case hw => w_witness2
  case hc =>
    refine L2.walk_ofE (l := Law.rw0) (n := 63) (k := 2 * Law.lev) (x := "script") (CX := L2.CX0) rfl (by decide) (by kernel_rfl) ⟨rfl, by decide, by decide⟩ ?F (fun _ _ _ _ z => z)
    intro w mg fa h Y N hmg0
    obtain ⟨K, KX, c⟩ := Y
    have hmg : mg ("law" : PySem.Str) = some (.ref fa) := by
      have e : (HandSHeadRun.topDef (OpenLaw.row Law.rw0).prog 44).name = ("law" : PySem.Str) := by kernel_rfl
      rw [← e]
      exact hmg0
    obtain ⟨fd, hb, hF⟩ := Law.law_facts (P := (Law.rw0).prog) (w := w) Law.lev KX N hmg c
    exact ⟨K, fd, _, KX, hb, fun H a ns hl hO hS => G.sp_law hO hS (law_true ns hl), fun base _ _ => hF base⟩
end

set_option Elab.async false
set_option linter.all false
set_option maxRecDepth 100000
/-! What the meanings come to: rules for simp. -/
namespace G
open PySem PySem.Spec

/-! ### texts -/
@[simp] theorem ofString_inj (a b : String) : (Str.ofString a = Str.ofString b) ↔ a = b := by
  rw [Str.ofString_eq_toList, Str.ofString_eq_toList]
  constructor
  · intro h
    injection h with h
    have h2 := Array.toList_inj.mpr h
    simp only at h2
    have inj : ∀ l m : List Char, l.map Char.toNat = m.map Char.toNat → l = m := by
      intro l
      induction l with
      | nil => intro m h; cases m <;> simp at h ⊢
      | cons c l ih =>
        intro m h
        cases m with
        | nil => simp at h
        | cons d m =>
          simp only [List.map_cons, List.cons.injEq] at h
          have e : c = d := Char.ext (UInt32.toNat_inj.mp h.1)
          rw [e, ih m h.2]
    exact String.toList_inj.mp (inj _ _ h2)
  · intro h
    rw [h]
@[simp] theorem ofString_add (a b : String) : (Str.ofString a ++ Str.ofString b : Str) = Str.ofString (a ++ b) := by
  rw [Str.ofString_eq_toList, Str.ofString_eq_toList, Str.ofString_eq_toList]
  show (⟨_ ++ _⟩ : Str) = _
  simp
@[simp] theorem ofString_len (a : String) : (Str.ofString a).length = a.length := by
  rw [Str.ofString_eq_toList]
  show (Array.size _) = _
  rw [List.size_toArray, List.length_map, String.length_toList]
instance : DecidableEq D := fun a b => if h : D.beq a b = true then .isTrue (D.eq_of_beq a b h) else .isFalse fun e => h (e ▸ D.beq_self a)
theorem D.beq_decide (a b : D) : D.beq a b = decide (a = b) := by
  cases h : D.beq a b with
  | true => exact (decide_eq_true (D.eq_of_beq a b h)).symm
  | false => exact (decide_eq_false fun e => by rw [e, D.beq_self] at h; cases h).symm

/-! ### data without truth values -/
mutual
def D.dat : D → Bool
  | .non => true
  | .int _ => true
  | .str x => PyData.strOk x
  | .tup ds => D.dats ds
  | .lst ds => D.dats ds
  | .bl _ => false
  | .rol _ => false
  | .ref _ => false
def D.dats : List D → Bool
  | [] => true
  | d :: ds => D.dat d && D.dats ds
end
mutual
def D.dep : D → Nat
  | .tup ds => D.deps ds + 1
  | .lst ds => D.deps ds + 1
  | .rol ds => D.deps ds + 1
  | .non => 0
  | .int _ => 0
  | .str _ => 0
  | .bl _ => 0
  | .ref _ => 0
def D.deps : List D → Nat
  | [] => 0
  | d :: ds => max (D.dep d) (D.deps ds)
end
mutual
theorem D.dat_py : ∀ d : D, d.dat = true → ∃ p, d.py = some p ∧ p.canLay0 = true ∧ p.depth = d.dep
  | .non, _ => ⟨_, rfl, rfl, rfl⟩
  | .int _, _ => ⟨_, rfl, rfl, rfl⟩
  | .str x, h => ⟨_, rfl, by rw [D.dat] at h; rw [PyData.canLay0]; exact h, rfl⟩
  | .tup ds, h => by
    obtain ⟨ps, h1, h2, h3⟩ := D.dats_py ds (by rw [D.dat] at h; exact h)
    exact ⟨.tuple ps, by rw [D.py, h1], by rw [PyData.canLay0]; exact h2, by rw [PyData.depth, D.dep, h3]⟩
  | .lst ds, h => by
    obtain ⟨ps, h1, h2, h3⟩ := D.dats_py ds (by rw [D.dat] at h; exact h)
    exact ⟨.list ps, by rw [D.py, h1], by rw [PyData.canLay0]; exact h2, by rw [PyData.depth, D.dep, h3]⟩
  | .bl _, h | .rol _, h | .ref _, h => by simp [D.dat] at h
theorem D.dats_py : ∀ ds : List D, D.dats ds = true → ∃ ps, D.pys ds = some ps ∧ PyData.canLayAll0 ps = true ∧ PyData.depthAll ps = D.deps ds
  | [], _ => ⟨[], rfl, rfl, rfl⟩
  | d :: ds, h => by
    rw [D.dats, Bool.and_eq_true] at h
    obtain ⟨p, h1, h2, h3⟩ := D.dat_py d h.1
    obtain ⟨ps, k1, k2, k3⟩ := D.dats_py ds h.2
    exact ⟨p :: ps, by rw [D.pys, h1, k1], by rw [PyData.canLayAll0, h2, k2]; rfl, by rw [PyData.depthAll, D.deps, h3, k3]⟩
end
mutual
theorem D.py_eqv : ∀ (d e : D) {p q : PyData}, d.dat = true → e.dat = true → d.py = some p → e.py = some q → PyData.eqv p q = D.beq d e
  | .non, e, p, q, _, h, h1, h2 => by
    cases h1
    cases e with
    | tup es =>
      obtain ⟨qs, b1, _, _⟩ := D.dats_py es (by rw [D.dat] at h; exact h)
      rw [D.py, b1] at h2
      cases h2
      simp [PyData.eqv, D.beq]
    | lst es =>
      obtain ⟨qs, b1, _, _⟩ := D.dats_py es (by rw [D.dat] at h; exact h)
      rw [D.py, b1] at h2
      cases h2
      simp [PyData.eqv, D.beq]
    | non => cases h2; simp [PyData.eqv, D.beq]
    | int _ => cases h2; simp only [PyData.eqv, D.beq] <;> rfl
    | str _ => cases h2; simp only [PyData.eqv, D.beq] <;> rfl
    | _ => simp [D.dat] at h
  | .int i, e, p, q, _, h, h1, h2 => by
    cases h1
    cases e with
    | tup es =>
      obtain ⟨qs, b1, _, _⟩ := D.dats_py es (by rw [D.dat] at h; exact h)
      rw [D.py, b1] at h2
      cases h2
      simp [PyData.eqv, D.beq]
    | lst es =>
      obtain ⟨qs, b1, _, _⟩ := D.dats_py es (by rw [D.dat] at h; exact h)
      rw [D.py, b1] at h2
      cases h2
      simp [PyData.eqv, D.beq]
    | non => cases h2; simp [PyData.eqv, D.beq]
    | int _ => cases h2; simp only [PyData.eqv, D.beq] <;> rfl
    | str _ => cases h2; simp only [PyData.eqv, D.beq] <;> rfl
    | _ => simp [D.dat] at h
  | .str i, e, p, q, _, h, h1, h2 => by
    cases h1
    cases e with
    | tup es =>
      obtain ⟨qs, b1, _, _⟩ := D.dats_py es (by rw [D.dat] at h; exact h)
      rw [D.py, b1] at h2
      cases h2
      simp [PyData.eqv, D.beq]
    | lst es =>
      obtain ⟨qs, b1, _, _⟩ := D.dats_py es (by rw [D.dat] at h; exact h)
      rw [D.py, b1] at h2
      cases h2
      simp [PyData.eqv, D.beq]
    | non => cases h2; simp [PyData.eqv, D.beq]
    | int _ => cases h2; simp only [PyData.eqv, D.beq] <;> rfl
    | str _ => cases h2; simp only [PyData.eqv, D.beq] <;> rfl
    | _ => simp [D.dat] at h
  | .tup ds, e, p, q, g, h, h1, h2 => by
    obtain ⟨ps, a1, _, _⟩ := D.dats_py ds (by rw [D.dat] at g; exact g)
    rw [D.py, a1] at h1
    cases h1
    cases e with
    | tup es =>
      obtain ⟨qs, b1, _, _⟩ := D.dats_py es (by rw [D.dat] at h; exact h)
      rw [D.py, b1] at h2
      cases h2
      rw [PyData.eqv, D.beq]
      exact D.pys_eqv ds es (by rw [D.dat] at g; exact g) (by rw [D.dat] at h; exact h) a1 b1
    | lst es =>
      obtain ⟨qs, b1, _, _⟩ := D.dats_py es (by rw [D.dat] at h; exact h)
      rw [D.py, b1] at h2
      cases h2
      simp [PyData.eqv, D.beq]
    | non => cases h2; simp [PyData.eqv, D.beq]
    | int _ => cases h2; simp [PyData.eqv, D.beq]
    | str _ => cases h2; simp [PyData.eqv, D.beq]
    | _ => simp [D.dat] at h
  | .lst ds, e, p, q, g, h, h1, h2 => by
    obtain ⟨ps, a1, _, _⟩ := D.dats_py ds (by rw [D.dat] at g; exact g)
    rw [D.py, a1] at h1
    cases h1
    cases e with
    | lst es =>
      obtain ⟨qs, b1, _, _⟩ := D.dats_py es (by rw [D.dat] at h; exact h)
      rw [D.py, b1] at h2
      cases h2
      rw [PyData.eqv, D.beq]
      exact D.pys_eqv ds es (by rw [D.dat] at g; exact g) (by rw [D.dat] at h; exact h) a1 b1
    | tup es =>
      obtain ⟨qs, b1, _, _⟩ := D.dats_py es (by rw [D.dat] at h; exact h)
      rw [D.py, b1] at h2
      cases h2
      simp [PyData.eqv, D.beq]
    | non => cases h2; simp [PyData.eqv, D.beq]
    | int _ => cases h2; simp [PyData.eqv, D.beq]
    | str _ => cases h2; simp [PyData.eqv, D.beq]
    | _ => simp [D.dat] at h
  | .bl _, _, _, _, g, _, _, _ | .rol _, _, _, _, g, _, _, _ | .ref _, _, _, _, g, _, _, _ => by simp [D.dat] at g
theorem D.pys_eqv : ∀ (ds es : List D) {ps qs : List PyData}, D.dats ds = true → D.dats es = true → D.pys ds = some ps → D.pys es = some qs → PyData.eqvAll ps qs = D.beqs ds es
  | [], [], _, _, _, _, h1, h2 => by cases h1; cases h2; simp [PyData.eqvAll, D.beqs]
  | [], e :: es, _, _, _, h, h1, h2 => by
    obtain ⟨qs, b1, _, _⟩ := D.dats_py (e :: es) h
    rw [b1] at h2
    cases h1; cases h2
    rw [D.pys] at b1
    split at b1
    · cases b1; simp [PyData.eqvAll, D.beqs]
    · cases b1
  | d :: ds, [], _, _, g, _, h1, h2 => by
    obtain ⟨qs, b1, _, _⟩ := D.dats_py (d :: ds) g
    rw [b1] at h1
    cases h1; cases h2
    rw [D.pys] at b1
    split at b1
    · cases b1; simp [PyData.eqvAll, D.beqs]
    · cases b1
  | d :: ds, e :: es, _, _, g, h, h1, h2 => by
    rw [D.dats, Bool.and_eq_true] at g h
    obtain ⟨p, a1, _, _⟩ := D.dat_py d g.1
    obtain ⟨ps, a2, _, _⟩ := D.dats_py ds g.2
    obtain ⟨q, b1, _, _⟩ := D.dat_py e h.1
    obtain ⟨qs, b2, _, _⟩ := D.dats_py es h.2
    rw [D.pys, a1, a2] at h1
    rw [D.pys, b1, b2] at h2
    cases h1; cases h2
    rw [PyData.eqvAll, D.beqs, D.py_eqv d e g.1 h.1 a1 b1, D.pys_eqv ds es g.2 h.2 a2 b2]
end

theorem D.seq_dats {M : Mo} {d : D} {es : List D} {t : Bool} (h : (d = .tup es ∧ t = true) ∨ (d = .lst es ∧ t = false)) : seqOf M d = some (t, es) := by
  rcases h with ⟨rfl, rfl⟩ | ⟨rfl, rfl⟩ <;> rfl
theorem D.dat_noref {M : Mo} {d : D} (h : d.dat = true) : pyOf M d = d.py := by
  cases d <;> first | rfl | simp [D.dat] at h
theorem D.shaped {d : D} {p : PyData} (h : d.dat = true) (e : d.py = some p) (hd : d.dep ≤ 64) : SeqAt.shaped p = true := by
  obtain ⟨q, e1, e2, e3⟩ := D.dat_py d h
  rw [e1] at e
  cases e
  unfold SeqAt.shaped
  rw [e2, e3]
  simpa using hd
theorem ev_eq {d e : D} {M : Mo} (h1 : d.dat = true) (h2 : e.dat = true) (h3 : d.dep ≤ 64) (h4 : e.dep ≤ 64) : eqF [d, e] M = some (.bl (decide (d = e)), M) := by
  obtain ⟨p, e1, _, _⟩ := D.dat_py d h1
  obtain ⟨q, e2, _, _⟩ := D.dat_py e h2
  unfold eqF
  simp only [D.dat_noref h1, D.dat_noref h2, e1, e2, D.shaped h1 e1 h3, D.shaped h2 e2 h4, Bool.and_self, if_true, D.py_eqv d e h1 h2 e1 e2, D.beq_decide]
theorem ev_ne {d e : D} {M : Mo} (h1 : d.dat = true) (h2 : e.dat = true) (h3 : d.dep ≤ 64) (h4 : e.dep ≤ 64) : neF [d, e] M = some (.bl (!decide (d = e)), M) := by
  obtain ⟨p, e1, _, _⟩ := D.dat_py d h1
  obtain ⟨q, e2, _, _⟩ := D.dat_py e h2
  unfold neF
  simp only [D.dat_noref h1, D.dat_noref h2, e1, e2, D.shaped h1 e1 h3, D.shaped h2 e2 h4, Bool.and_self, if_true, D.py_eqv d e h1 h2 e1 e2, D.beq_decide]
theorem any_eqv {d : D} {p : PyData} (h1 : d.dat = true) (e1 : d.py = some p) : ∀ {es : List D} {ps : List PyData}, D.dats es = true → D.pys es = some ps → (ps.any fun z => PyData.eqv z p) = decide (d ∈ es)
  | [], _, _, e => by cases e; simp
  | e :: es, _, h, k => by
    rw [D.dats, Bool.and_eq_true] at h
    obtain ⟨q, a1, _, _⟩ := D.dat_py e h.1
    obtain ⟨qs, a2, _, _⟩ := D.dats_py es h.2
    rw [D.pys, a1, a2] at k
    cases k
    rw [List.any_cons, any_eqv h1 e1 h.2 a2, D.py_eqv e d h.1 h1 a1 e1, D.beq_decide]
    by_cases c : e = d
    · subst c; simp
    · have c2 : ¬ d = e := fun z => c z.symm
      simp [c, c2]
theorem ev_inCore {neg : Bool} {d c : D} {es : List D} {t : Bool} {M : Mo} (hs : seqOf M c = some (t, es)) (h1 : d.dat = true) (h2 : D.dats es = true) (h3 : d.dep ≤ 64) (h4 : D.deps es ≤ 63) : inCore neg [d, c] M = some (.bl (if neg then !decide (d ∈ es) else decide (d ∈ es)), M) := by
  obtain ⟨p, e1, _, _⟩ := D.dat_py d h1
  obtain ⟨ps, e2, k2, k3⟩ := D.dats_py es h2
  have sh : SeqAt.shaped (.list ps) = true := by
    unfold SeqAt.shaped
    rw [PyData.canLay0, k2, PyData.depth, k3]
    simp
    omega
  unfold inCore
  simp only [D.dat_noref h1, hs, e1, e2, D.shaped h1 e1 h3, sh, Bool.and_self, if_true, any_eqv h1 e1 h2 e2]
theorem ev_inT {d : D} {es : List D} {M : Mo} (h1 : d.dat = true) (h2 : D.dats es = true) (h3 : d.dep ≤ 64) (h4 : D.deps es ≤ 63) : inF [d, .tup es] M = some (.bl (decide (d ∈ es)), M) := by
  rw [inF, ev_inCore rfl h1 h2 h3 h4] <;> rfl
theorem ev_inL {d : D} {es : List D} {M : Mo} (h1 : d.dat = true) (h2 : D.dats es = true) (h3 : d.dep ≤ 64) (h4 : D.deps es ≤ 63) : inF [d, .lst es] M = some (.bl (decide (d ∈ es)), M) := by
  rw [inF, ev_inCore rfl h1 h2 h3 h4] <;> rfl
theorem ev_ninT {d : D} {es : List D} {M : Mo} (h1 : d.dat = true) (h2 : D.dats es = true) (h3 : d.dep ≤ 64) (h4 : D.deps es ≤ 63) : ninF [d, .tup es] M = some (.bl (!decide (d ∈ es)), M) := by
  rw [ninF, ev_inCore rfl h1 h2 h3 h4] <;> rfl
theorem ev_ninL {d : D} {es : List D} {M : Mo} (h1 : d.dat = true) (h2 : D.dats es = true) (h3 : d.dep ≤ 64) (h4 : D.deps es ≤ 63) : ninF [d, .lst es] M = some (.bl (!decide (d ∈ es)), M) := by
  rw [ninF, ev_inCore rfl h1 h2 h3 h4] <;> rfl

/-! ### places -/
theorem atI_nat {es : List D} {i : Nat} {e : D} (h : es[i]? = some e) : L2.atI es (i : Int) = some e := by
  have hl := (List.getElem?_eq_some_iff.mp h).1
  unfold L2.atI L2.ixN
  rw [if_pos (Int.natCast_nonneg i), if_pos (by omega)]
  simpa using h
theorem ev_at {c : D} {es : List D} {t : Bool} {i : Nat} {e : D} {M : Mo} (hs : seqOf M c = some (t, es)) (h : es[i]? = some e) : atF [c, .int (i : Int)] M = some (e, M) := by
  unfold atF
  simp only [hs, atI_nat h]
@[simp] theorem ev_at0 (a : D) (r : List D) (M : Mo) : atF [.tup (a :: r), .int 0] M = some (a, M) := ev_at (i := 0) (t := true) rfl rfl
@[simp] theorem ev_at1 (a b : D) (r : List D) (M : Mo) : atF [.tup (a :: b :: r), .int 1] M = some (b, M) := ev_at (i := 1) (t := true) rfl rfl
@[simp] theorem ev_at2 (a b c : D) (r : List D) (M : Mo) : atF [.tup (a :: b :: c :: r), .int 2] M = some (c, M) := ev_at (i := 2) (t := true) rfl rfl
@[simp] theorem ev_at3 (a b c d : D) (r : List D) (M : Mo) : atF [.tup (a :: b :: c :: d :: r), .int 3] M = some (d, M) := ev_at (i := 3) (t := true) rfl rfl
@[simp] theorem ev_atl0 (a : D) (r : List D) (M : Mo) : atF [.lst (a :: r), .int 0] M = some (a, M) := ev_at (i := 0) (t := false) rfl rfl
@[simp] theorem ev_atl1 (a b : D) (r : List D) (M : Mo) : atF [.lst (a :: b :: r), .int 1] M = some (b, M) := ev_at (i := 1) (t := false) rfl rfl
/-! ### the store at the exit -/
@[simp] theorem exit_same (M : Mo) (d : D) : exitF M d M = (d, M) := by
  unfold exitF
  rw [if_pos (Nat.le_refl _)]
theorem exit_cut {M E : Mo} {d : D} (h : d.closed M.length = true) : exitF M d (M ++ E) = (d, M) := by
  unfold exitF
  by_cases hl : (M ++ E).length ≤ M.length
  · rw [if_pos hl]
    rw [List.length_append] at hl
    have : E = [] := List.eq_nil_of_length_eq_zero (by omega)
    rw [this, List.append_nil]
  · rw [if_neg hl, if_pos (okT_self _ M E), if_pos h, List.take_left]

/-! ### the operators -/
@[simp] theorem line_eq : sizeLine = 16777216 := sizeLine_eq
theorem str_shaped (a : String) : SeqAt.shaped (.str (Str.ofString a)) = true := by
  unfold SeqAt.shaped
  rw [Bool.and_eq_true]
  refine ⟨?_, by simp [PyData.depth]⟩
  rw [PyData.canLay0, PyData.strOk, Str.ofString_eq_toList]
  rw [Array.all_eq_true_iff_forall_mem]
  intro n hn
  simp only [List.mem_toArray, List.mem_map] at hn
  obtain ⟨c, _, rfl⟩ := hn
  have hv := c.valid
  simp only [decide_eq_true_eq]
  show c.val.toNat < 1114112
  rcases hv with h | ⟨_, h⟩
  · exact Nat.lt_trans h (by decide)
  · exact h
@[simp] theorem lit_ok (a : String) : PyData.strOk (Str.ofString a) = true := by
  have h := str_shaped a
  unfold SeqAt.shaped at h
  rw [Bool.and_eq_true, PyData.canLay0] at h
  exact h.1
@[simp] theorem ev_eq_str (a b : String) (M : Mo) : eqF [.str (Str.ofString a), .str (Str.ofString b)] M = some (.bl (decide (a = b)), M) := by
  rw [ev_eq (by rw [D.dat]; exact lit_ok a) (by rw [D.dat]; exact lit_ok b) (by simp [D.dep]) (by simp [D.dep])]
  simp
@[simp] theorem ev_eq_int (a b : Int) (M : Mo) : eqF [.int a, .int b] M = some (.bl (decide (a = b)), M) := by
  rw [ev_eq rfl rfl (by simp [D.dep]) (by simp [D.dep])]
  simp
@[simp] theorem ev_add_int (a b : Int) (M : Mo) : addF [.int a, .int b] M = some (.int (a + b), M) := rfl
@[simp] theorem ev_add_str (a b : String) (M : Mo) : addF [.str (Str.ofString a), .str (Str.ofString b)] M = if a.length + b.length ≤ sizeLine then some (.str (Str.ofString (a ++ b)), M) else none := by
  show (if _ then some (D.str (Str.ofString a ++ Str.ofString b), M) else none) = _
  rw [ofString_add, ofString_len, ofString_len]
@[simp] theorem ev_add_tup (a b : List D) (M : Mo) : addF [.tup a, .tup b] M = if a.length + b.length ≤ sizeLine then some (.tup (a ++ b), M) else none := rfl
@[simp] theorem ev_add_lst (a b : List D) (M : Mo) : addF [.lst a, .lst b] M = if a.length + b.length ≤ sizeLine then some (.lst (a ++ b), M) else none := rfl
@[simp] theorem ev_sub (a b : Int) (M : Mo) : subF [.int a, .int b] M = some (.int (a - b), M) := rfl
@[simp] theorem ev_lt (a b : Int) (M : Mo) : ltF [.int a, .int b] M = some (.bl (decide (a < b)), M) := rfl
@[simp] theorem ev_isB (a b : Bool) (M : Mo) : isBF [.bl a, .bl b] M = some (.bl (decide (a = b)), M) := rfl
@[simp] theorem ev_notB (a b : Bool) (M : Mo) : notBF [.bl a, .bl b] M = some (.bl (!decide (a = b)), M) := rfl
@[simp] theorem ev_le (a b : Int) (M : Mo) : leF [.int a, .int b] M = some (.bl (decide (a ≤ b)), M) := rfl
@[simp] theorem ev_gt (a b : Int) (M : Mo) : gtF [.int a, .int b] M = some (.bl (decide (b < a)), M) := rfl
@[simp] theorem ev_ge (a b : Int) (M : Mo) : geF [.int a, .int b] M = some (.bl (decide (b ≤ a)), M) := rfl
@[simp] theorem ev_max (a b : Int) (M : Mo) : max2F [.int a, .int b] M = some (.int (if b > a then b else a), M) := rfl
@[simp] theorem ev_min (a b : Int) (M : Mo) : min2F [.int a, .int b] M = some (.int (if b < a then b else a), M) := rfl
@[simp] theorem ev_int (i : Int) (M : Mo) : intF [.int i] M = some (.int i, M) := rfl
@[simp] theorem ev_intb (b : Bool) (M : Mo) : intF [.bl b] M = some (.int (if b then 1 else 0), M) := rfl
@[simp] theorem ev_neg (i : Int) (M : Mo) : negF [.int i] M = some (.int (-i), M) := rfl
@[simp] theorem ev_isN (M : Mo) : isNF [.non] M = some (.bl true, M) := rfl
@[simp] theorem ev_isN_tup (ds : List D) (M : Mo) : isNF [.tup ds] M = some (.bl false, M) := rfl
@[simp] theorem ev_notN (M : Mo) : notNF [.non] M = some (.bl false, M) := rfl
@[simp] theorem ev_notN_tup (ds : List D) (M : Mo) : notNF [.tup ds] M = some (.bl true, M) := rfl
@[simp] theorem ev_len_tup (ds : List D) (M : Mo) : lenF [.tup ds] M = some (.int ds.length, M) := rfl
@[simp] theorem ev_len_lst (ds : List D) (M : Mo) : lenF [.lst ds] M = some (.int ds.length, M) := rfl
@[simp] theorem ev_tup_tup (ds : List D) (M : Mo) : tupleF [.tup ds] M = some (.tup ds, M) := rfl
@[simp] theorem ev_tup_lst (ds : List D) (M : Mo) : tupleF [.lst ds] M = some (.tup ds, M) := rfl
@[simp] theorem ev_list_tup (ds : List D) (M : Mo) : listF [.tup ds] M = some (.lst ds, M) := rfl
@[simp] theorem ev_list_lst (ds : List D) (M : Mo) : listF [.lst ds] M = some (.lst ds, M) := rfl
@[simp] theorem ev_list_rol (ds : List D) (M : Mo) : listF [.rol ds] M = some (.lst ds, M) := rfl
@[simp] theorem ev_rev_lst (ds : List D) (M : Mo) : revF [.lst ds] M = some (.lst ds.reverse, M) := rfl
@[simp] theorem ev_mod (a b : Int) (M : Mo) : modF [.int a, .int b] M = if 0 < b then some (.int (a % b), M) else none := by
  show (if decide (0 < b) = true then _ else none) = _
  simp only [decide_eq_true_eq]
@[simp] theorem ev_fdiv (a b : Int) (M : Mo) : fdivF [.int a, .int b] M = if 0 < b ∧ b < 1073741824 then some (.int (a / b), M) else none := by
  show (if (decide (0 < b) && decide (b < 1073741824)) = true then _ else none) = _
  simp only [Bool.and_eq_true, decide_eq_true_eq]

/-! ### the meanings, opened at a place -/
@[simp] theorem mVar_e (i : Nat) (lo : Lo) (M : Mo) : mVar i lo M = (match lo[i]? with | some (some d) => some (d, M) | _ => none) := rfl
@[simp] theorem mC_e (d : D) (lo : Lo) (M : Mo) : mC d lo M = some (d, M) := rfl
@[simp] theorem mNil_e  (lo : Lo) (M : Mo) : mNil lo M = some ([], M) := rfl
@[simp] theorem mCons_e (m : ME) (ms : MA) (lo : Lo) (M : Mo) : mCons m ms lo M = (match m lo M with
  | some (d, M1) => match ms lo M1 with
    | some (ds, M2) => some (d :: ds, M2)
    | none => none
  | none => none) := rfl
@[simp] theorem mCall_e (f : F1) (ms : MA) (lo : Lo) (M : Mo) : mCall f ms lo M = (match ms lo M with
  | some (ds, M1) => f ds M1
  | none => none) := rfl
@[simp] theorem mOne_e (m : ME) (lo : Lo) (M : Mo) : mOne m lo M = (mCons m mNil) lo M := rfl
@[simp] theorem mTwo_e (m n : ME) (lo : Lo) (M : Mo) : mTwo m n lo M = (mCons m (mCons n mNil)) lo M := rfl
@[simp] theorem mBin_e (f : F1) (ma mb : ME) (lo : Lo) (M : Mo) : mBin f ma mb lo M = (mCall f (mTwo ma mb)) lo M := rfl
@[simp] theorem mUn_e (f : F1) (m : ME) (lo : Lo) (M : Mo) : mUn f m lo M = (mCall f (mOne m)) lo M := rfl
@[simp] theorem mTup_e (ms : MA) (lo : Lo) (M : Mo) : mTup ms lo M = (match ms lo M with
  | some (ds, M1) => if ds.length ≤ sizeLine then some (.tup ds, M1) else none
  | none => none) := rfl
@[simp] theorem mLst_e (ms : MA) (lo : Lo) (M : Mo) : mLst ms lo M = (match ms lo M with
  | some (ds, M1) => if ds.length ≤ sizeLine then some (.lst ds, M1) else none
  | none => none) := rfl
@[simp] theorem mNewL_e (ms : MA) (lo : Lo) (M : Mo) : mNewL ms lo M = (match ms lo M with
  | some (ds, M1) => if ds.length ≤ sizeLine then some (.ref M1.length, M1 ++ [.lst ds]) else none
  | none => none) := rfl
@[simp] theorem tru_e (m : ME) (lo : Lo) (M : Mo) : tru m lo M = (match m lo M with | some (.bl b, M1) => some (b, M1) | _ => none) := rfl
@[simp] theorem tNotM_e (m : MT) (lo : Lo) (M : Mo) : tNotM m lo M = (match m lo M with | some (b, M1) => some (!b, M1) | none => none) := rfl
@[simp] theorem tAndM_e (m n : MT) (lo : Lo) (M : Mo) : tAndM m n lo M = (match m lo M with | some (true, M1) => n lo M1 | some (false, M1) => some (false, M1) | none => none) := rfl
@[simp] theorem tOrM_e (m n : MT) (lo : Lo) (M : Mo) : tOrM m n lo M = (match m lo M with | some (true, M1) => some (true, M1) | some (false, M1) => n lo M1 | none => none) := rfl
@[simp] theorem mNotE_e (m : ME) (lo : Lo) (M : Mo) : mNotE m lo M = (match m lo M with | some (.bl b, M1) => some (.bl (!b), M1) | _ => none) := rfl
@[simp] theorem mAndE_e (m n : ME) (lo : Lo) (M : Mo) : mAndE m n lo M = (match m lo M with | some (.bl true, M1) => n lo M1 | some (.bl false, M1) => some (.bl false, M1) | _ => none) := rfl
@[simp] theorem mOrE_e (m n : ME) (lo : Lo) (M : Mo) : mOrE m n lo M = (match m lo M with | some (.bl true, M1) => some (.bl true, M1) | some (.bl false, M1) => n lo M1 | _ => none) := rfl
@[simp] theorem mIf_e (c : MT) (m n : ME) (lo : Lo) (M : Mo) : mIf c m n lo M = (match c lo M with | some (true, M1) => m lo M1 | some (false, M1) => n lo M1 | none => none) := rfl
@[simp] theorem sNext_e  (lo : Lo) (M : Mo) : sNext lo M = some (.nx lo M) := rfl
@[simp] theorem sSeq_e (m n : MS) (lo : Lo) (M : Mo) : sSeq m n lo M = (match m lo M with | some (.nx lo1 M1) => n lo1 M1 | r => r) := rfl
@[simp] theorem sBreak_e  (lo : Lo) (M : Mo) : sBreak lo M = some (.bk lo M) := rfl
@[simp] theorem sCont_e  (lo : Lo) (M : Mo) : sCont lo M = some (.ct lo M) := rfl
@[simp] theorem sDrop_e (m : ME) (lo : Lo) (M : Mo) : sDrop m lo M = (match m lo M with | some (_, M1) => some (.nx lo M1) | none => none) := rfl
@[simp] theorem sRet_e (m : ME) (lo : Lo) (M : Mo) : sRet m lo M = (match m lo M with | some (d, M1) => some (.rt d M1) | none => none) := rfl
@[simp] theorem sRetN_e  (lo : Lo) (M : Mo) : sRetN lo M = some (.rt .non M) := rfl
@[simp] theorem sIf_e (c : MT) (m n : MS) (lo : Lo) (M : Mo) : sIf c m n lo M = (match c lo M with | some (true, M1) => m lo M1 | some (false, M1) => n lo M1 | none => none) := rfl
@[simp] theorem sNever_e  (lo : Lo) (M : Mo) : sNever lo M = none := rfl
@[simp] theorem gName_e (i : Nat) (d : D) (lo : Lo) (M : Mo) : gName i d lo M = some (lo.set i (some d), M) := rfl
@[simp] theorem gsNil_e  (ds : List D) (lo : Lo) (M : Mo) : gsNil ds lo M = (match ds with | [] => some (lo, M) | _ => none) := rfl
@[simp] theorem gsCons_e (g : MG) (gs : MGs) (ds : List D) (lo : Lo) (M : Mo) : gsCons g gs ds lo M = (match ds with | d :: r => (match g d lo M with | some (lo1, M1) => gs r lo1 M1 | none => none) | [] => none) := rfl
@[simp] theorem gTup_e (n : Nat) (g : MGs) (d : D) (lo : Lo) (M : Mo) : gTup n g d lo M = (match d with
  | .tup ds => if ds.length = n then g ds lo M else none
  | _ => none) := rfl
@[simp] theorem sSet_e (m : ME) (g : MG) (lo : Lo) (M : Mo) : sSet m g lo M = (match m lo M with
  | some (d, M1) => match g d lo M1 with
    | some (lo2, M2) => some (.nx lo2 M2)
    | none => none
  | none => none) := rfl
@[simp] theorem sPar_e (i j : Nat) (ma mb : ME) (lo : Lo) (M : Mo) : sPar i j ma mb lo M = (match mTwo ma mb lo M with
  | some ([d, e], M1) => some (.nx ((lo.set i (some d)).set j (some e)) M1)
  | _ => none) := rfl
@[simp] theorem sPar3_e (i j l : Nat) (ma mb mc : ME) (lo : Lo) (M : Mo) : sPar3 i j l ma mb mc lo M = (match mCons ma (mTwo mb mc) lo M with
  | some ([d, e, f], M1) => some (.nx (((lo.set i (some d)).set j (some e)).set l (some f)) M1)
  | _ => none) := rfl
@[simp] theorem mCallN_e (np : Nat) (f : F1) (ms : MA) (lo : Lo) (M : Mo) : mCallN np f ms lo M = (match ms lo M with
  | some (ds, M1) => if ds.length = np then f ds M1 else none
  | none => none) := rfl
@[simp] theorem mMake_e (c np : Nat) (f : F1) (ms : MA) (lo : Lo) (M : Mo) : mMake c np f ms lo M = (match ms lo M with
  | some (ds, M1) => if ds.length + 1 = np then (match f (.ref M1.length :: ds) (M1 ++ [.ins c []]) with
    | some (.non, M2) => some (.ref M1.length, M2)
    | _ => none) else none
  | none => none) := rfl
@[simp] theorem mMethO_e (c : Nat) (m : Str) (np : Nat) (f : F1) (mo : ME) (ms : MA) (lo : Lo) (M : Mo) : mMethO c m np f mo ms lo M = (match mo lo M with
  | some (.ref n, M1) => match M1[n]? with
    | some (.ins c' fs) => if c' = c ∧ fs.lookup m = none then (match ms lo M1 with
      | some (ds, M2) => if ds.length + 1 = np then f (.ref n :: ds) M2 else none
      | none => none) else none
    | _ => none
  | _ => none) := rfl
@[simp] theorem mFld_e (c : Nat) (mo : ME) (g : Str) (lo : Lo) (M : Mo) : mFld c mo g lo M = (match mo lo M with
  | some (.ref n, M1) => match M1[n]? with
    | some (.ins c' fs) => if c' = c then (match fs.lookup g with
      | some d => some (d, M1)
      | none => none) else none
    | _ => none
  | _ => none) := rfl
@[simp] theorem sFldM_e (c : Nat) (mo mv : ME) (g : Str) (lo : Lo) (M : Mo) : sFldM c mo mv g lo M = (match mv lo M with
  | some (d, M1) => match mo lo M1 with
    | some (.ref n, M2) => match M2[n]? with
      | some (.ins c' fs) => if c' = c ∧ fs.length < 1000 then some (.nx lo (M2.set n (.ins c (putD g d fs)))) else none
      | _ => none
    | _ => none
  | none => none) := rfl
@[simp] theorem mMetL_e (f : F1) (mo : ME) (ms : MA) (lo : Lo) (M : Mo) : mMetL f mo ms lo M = (match mo lo M with
  | some (d, M1) => if isLst M1 d = true then (match ms lo M1 with | some (ds, M2) => f (d :: ds) M2 | none => none) else none
  | none => none) := rfl
@[simp] theorem gSub_e (mo mi : ME) (f : D → D → D → Mo → Option Mo) (v : D) (lo : Lo) (M : Mo) : gSub mo mi f v lo M = (match mo lo M with
  | some (o, M1) => match mi lo M1 with
    | some (i, M2) => match f o i v M2 with
      | some M3 => some (lo, M3)
      | none => none
    | none => none
  | none => none) := rfl
@[simp] theorem sFor_e (mi : MA) (g : MG) (body : MS) (lo : Lo) (M : Mo) : sFor mi g body lo M = (match mi lo M with
  | some (ds, M1) => forLoop g body ds lo M1
  | none => none) := rfl
@[simp] theorem iSeqM_e (m : ME) (lo : Lo) (M : Mo) : iSeqM m lo M = (match m lo M with
  | some (.tup ds, M1) => some (ds, M1)
  | some (.lst ds, M1) => some (ds, M1)
  | _ => none) := rfl
@[simp] theorem iZipM_e (ma mb : ME) (lo : Lo) (M : Mo) : iZipM ma mb lo M = (match mTwo ma mb lo M with
  | some ([da, db], M1) => match kindOf da, kindOf db with
    | some (_, xs), some (_, ys) => some (zipD xs ys, M1)
    | _, _ => none
  | _ => none) := rfl
@[simp] theorem iRg1M_e (ms : MA) (lo : Lo) (M : Mo) : iRg1M ms lo M = (match ms lo M with | some ([.int n], M1) => if decide (-(2 ^ 62) ≤ n) && decide (n < 2 ^ 62) then some (rgD 0 n, M1) else none | _ => none) := rfl
@[simp] theorem iRg2M_e (ms : MA) (lo : Lo) (M : Mo) : iRg2M ms lo M = (match ms lo M with | some ([.int a, .int b], M1) => if decide (-(2 ^ 62) ≤ a) && decide (a < 2 ^ 62) && decide (-(2 ^ 62) ≤ b) && decide (b < 2 ^ 62) then some (rgD a b, M1) else none | _ => none) := rfl
@[simp] theorem mComp_e (mi : MA) (g : MG) (c : MT) (m : ME) (vs : List Nat) (lo : Lo) (M : Mo) : mComp mi g c m vs lo M = (match mi lo M with
  | some (ds, M1) => if ds.length ≤ sizeLine then (match compLoop g c m vs ds lo M1 with
    | some (es, M2) => some (.lst es, M2)
    | none => none) else none
  | none => none) := rfl
@[simp] theorem tTrue_e  (lo : Lo) (M : Mo) : tTrue lo M = some (true, M) := rfl
@[simp] theorem pNone_e  (lo : Lo) (M : Mo) : pNone lo M = some (none, M) := rfl
@[simp] theorem pSome_e (m : ME) (lo : Lo) (M : Mo) : pSome m lo M = (match m lo M with | some (.int i, M1) => some (some i, M1) | _ => none) := rfl
@[simp] theorem mSl_e (m : ME) (lo hi : MP) (l : Lo) (M : Mo) : mSl m lo hi l M = (match m l M with
  | some (d, M1) => match lo l M1 with
    | some (a, M2) => match hi l M2 with
      | some (b, M3) => match d with
        | .str z => if z.length ≤ sizeLine then some (.str (L2.cutS z a b), M3) else none
        | _ => match seqOf M3 d with
          | some (true, es) => some (.tup (cutD es a b), M3)
          | some (false, es) => some (.lst (cutD es a b), M3)
          | none => none
      | none => none
    | none => none
  | none => none) := rfl
@[simp] theorem mMetS_e (f : Str → Str → D) (mo ma : ME) (lo : Lo) (M : Mo) : mMetS f mo ma lo M = (match mo lo M with
  | some (.str a, M1) => match ma lo M1 with
    | some (.str b, M2) => some (f a b, M2)
    | _ => none
  | _ => none) := rfl
@[simp] theorem mChain_e (f g : F1) (ma mb mc : ME) (lo : Lo) (M : Mo) : mChain f g ma mb mc lo M = (match mTwo ma mb lo M with
  | some ([d, e], M1) => match f [d, e] M1 with
    | some (.bl true, M2) => (match mc lo M2 with
      | some (h, M3) => (match g [e, h] M3 with
        | some (.bl b, M4) => some (.bl b, M4)
        | _ => none)
      | none => none)
    | some (.bl false, M2) => some (.bl false, M2)
    | _ => none
  | _ => none) := rfl
end G

set_option Elab.async false
set_option linter.all false
set_option maxRecDepth 100000
/-! Loops and comprehensions over typed rows. -/
namespace G
open PySem PySem.Spec

/-- one turn of a loop -/
def runB (g : MG) (body : MS) (d : D) : MS := fun lo M => match g d lo M with | some (lo1, M1) => body lo1 M1 | none => none
@[simp] theorem runB_e (g : MG) (body : MS) (d : D) (lo : Lo) (M : Mo) : runB g body d lo M = (match g d lo M with | some (lo1, M1) => body lo1 M1 | none => none) := rfl
@[simp] theorem for_nil (g : MG) (body : MS) (lo : Lo) (M : Mo) : forLoop g body [] lo M = some (.nx lo M) := rfl
theorem for_cons (g : MG) (body : MS) (d : D) (ds : List D) (lo : Lo) (M : Mo) : forLoop g body (d :: ds) lo M = (match runB g body d lo M with
    | some (.nx lo2 M2) => forLoop g body ds lo2 M2
    | some (.ct lo2 M2) => forLoop g body ds lo2 M2
    | some (.bk lo2 M2) => some (.nx lo2 M2)
    | some (.rt d M2) => some (.rt d M2)
    | none => none) := by
  rw [forLoop, runB_e]
  cases g d lo M with
  | none => rfl
  | some p => rfl
theorem for_inv {α β : Type} {g : MG} {body : MS} {ei : α → D} {step : β → α → β} {R : β → Lo → Mo → Prop} : ∀ (xs : List α) (b : β) (lo : Lo) (M : Mo), (∀ b x lo M, x ∈ xs → R b lo M → ∃ lo' M', runB g body (ei x) lo M = some (.nx lo' M') ∧ R (step b x) lo' M') →
    R b lo M → ∃ lo' M', forLoop g body (xs.map ei) lo M = some (.nx lo' M') ∧ R (xs.foldl step b) lo' M'
  | [], b, lo, M, _, r => ⟨lo, M, rfl, r⟩
  | x :: xs, b, lo, M, h, r => by
    obtain ⟨lo1, M1, e, r1⟩ := h b x lo M List.mem_cons_self r
    obtain ⟨lo2, M2, e2, r2⟩ := for_inv xs (step b x) lo1 M1 (fun b y lo M hy => h b y lo M (List.mem_cons_of_mem _ hy)) r1
    refine ⟨lo2, M2, ?_, r2⟩
    rw [List.map_cons, for_cons, e]
    exact e2
/-- the first item of which p is true is handed back -/
theorem for_find {α : Type} {g : MG} {body : MS} {ei : α → D} {p : α → Bool} {res : α → D} {R : Lo → Prop} {M : Mo} : ∀ (xs : List α) (lo : Lo), (∀ x ∈ xs, ∀ lo, R lo → (p x = true → runB g body (ei x) lo M = some (.rt (res x) M)) ∧ (p x = false → ∃ lo', runB g body (ei x) lo M = some (.nx lo' M) ∧ R lo')) → R lo →
    (∀ x, xs.find? p = some x → forLoop g body (xs.map ei) lo M = some (.rt (res x) M)) ∧ (xs.find? p = none → ∃ lo', forLoop g body (xs.map ei) lo M = some (.nx lo' M) ∧ R lo')
  | [], lo, _, r => ⟨fun x h => by simp at h, fun _ => ⟨lo, rfl, r⟩⟩
  | x :: xs, lo, h, r => by
    obtain ⟨h1, h2⟩ := h x List.mem_cons_self lo r
    cases hp : p x with
    | true =>
      refine ⟨fun y hy => ?_, fun hn => by simp [hp] at hn⟩
      simp [hp] at hy
      subst hy
      rw [List.map_cons, for_cons, h1 hp]
    | false =>
      obtain ⟨lo1, e, r1⟩ := h2 hp
      obtain ⟨k1, k2⟩ := for_find xs lo1 (fun y hy => h y (List.mem_cons_of_mem _ hy)) r1
      refine ⟨fun y hy => ?_, fun hn => ?_⟩
      · simp [hp] at hy
        rw [List.map_cons, for_cons, e]
        exact k1 y hy
      · simp only [List.find?_cons, hp] at hn
        obtain ⟨lo2, e2, r2⟩ := k2 hn
        refine ⟨lo2, ?_, r2⟩
        rw [List.map_cons, for_cons, e]
        exact e2
theorem comp_typed {α β : Type} {g : MG} {c : MT} {m : ME} {vs : List Nat} {lo : Lo} {M : Mo} {ei : α → D} {eo : β → D} {p : α → Bool} {f : α → β} : ∀ (xs : List α), (∀ x ∈ xs, ∃ lo1, g (ei x) (wipeD lo vs) M = some (lo1, M) ∧ c lo1 M = some (p x, M) ∧ (p x = true → m lo1 M = some (eo (f x), M))) →
    compLoop g c m vs (xs.map ei) lo M = some (((xs.filter p).map f).map eo, M)
  | [], _ => rfl
  | x :: xs, h => by
    obtain ⟨lo1, e1, e2, e3⟩ := h x List.mem_cons_self
    have ih := comp_typed xs fun y hy => h y (List.mem_cons_of_mem _ hy)
    rw [List.map_cons, compLoop, e1]
    simp only [e2]
    cases hp : p x with
    | true => simp only [e3 hp, ih, List.filter_cons, hp, if_true, List.map_cons]
    | false => simp only [ih, List.filter_cons, hp, Bool.false_eq_true, if_false]
theorem comp_map {α β : Type} {g : MG} {m : ME} {vs : List Nat} {lo : Lo} {M : Mo} {ei : α → D} {eo : β → D} {f : α → β} (xs : List α) (h : ∀ x ∈ xs, ∃ lo1, g (ei x) (wipeD lo vs) M = some (lo1, M) ∧ m lo1 M = some (eo (f x), M)) :
    compLoop g tTrue m vs (xs.map ei) lo M = some ((xs.map f).map eo, M) := by
  have := comp_typed (c := tTrue) (p := fun _ => true) (f := f) (eo := eo) xs fun x hx => by
    obtain ⟨lo1, e1, e2⟩ := h x hx
    exact ⟨lo1, e1, rfl, fun _ => e2⟩
  rwa [List.filter_eq_self.mpr (fun _ _ => rfl)] at this
/-- the same, R knowing what is left -/
theorem for_inv2 {α β : Type} {g : MG} {body : MS} {ei : α → D} {step : β → α → β} {R : List α → β → Lo → Mo → Prop} (h : ∀ b x xs lo M, R (x :: xs) b lo M → ∃ lo' M', runB g body (ei x) lo M = some (.nx lo' M') ∧ R xs (step b x) lo' M') :
    ∀ (xs : List α) (b : β) (lo : Lo) (M : Mo), R xs b lo M → ∃ lo' M', forLoop g body (xs.map ei) lo M = some (.nx lo' M') ∧ R [] (xs.foldl step b) lo' M'
  | [], b, lo, M, r => ⟨lo, M, rfl, r⟩
  | x :: xs, b, lo, M, r => by
    obtain ⟨lo1, M1, e, r1⟩ := h b x xs lo M r
    obtain ⟨lo2, M2, e2, r2⟩ := for_inv2 h xs (step b x) lo1 M1 r1
    refine ⟨lo2, M2, ?_, r2⟩
    rw [List.map_cons, for_cons, e]
    exact e2
end G

set_option Elab.async false
set_option linter.all false
set_option maxRecDepth 100000
/-! Formulas: what formulas.py computes. -/
namespace Law
open PySem PySem.Spec G

inductive Op where
  | imp
  | and
  | or
deriving DecidableEq
def Op.w : Op → Str
  | .imp => "if"
  | .and => "and"
  | .or => "or"
def Op.ap : Op → Bool → Bool → Bool
  | .imp, a, b => !a || b
  | .and, a, b => a && b
  | .or, a, b => a || b
inductive Fm where
  | lt (n : Nat)
  | fls
  | bin (o : Op) (a b : Fm)
deriving DecidableEq
def enc : Fm → D
  | .lt n => .tup [.str "letter", .int n]
  | .fls => .tup [.str "false"]
  | .bin o a b => .tup [.str o.w, enc a, enc b]
def Fm.dp : Fm → Nat
  | .lt _ => 1
  | .fls => 1
  | .bin _ a b => max a.dp b.dp + 1
/-- the letters are of the first four -/
def Fm.ok : Fm → Bool
  | .lt n => decide (n < 4)
  | .fls => true
  | .bin _ a b => a.ok && b.ok
def Fm.val (r : List Bool) : Fm → Bool
  | .lt n => r.getD n false
  | .fls => false
  | .bin o a b => o.ap (a.val r) (b.val r)
def b2i (b : Bool) : Int := if b then 1 else 0
abbrev I (b : Bool) : D := .int (b2i b)
def rowD (r : List Bool) : D := .tup (r.map I)
theorem Op.w_dat (o : Op) : PyData.strOk o.w = true := by cases o <;> decide +kernel
theorem letter_dat : PyData.strOk ("letter" : Str) = true := by decide +kernel
theorem false_dat : PyData.strOk ("false" : Str) = true := by decide +kernel
@[simp] theorem enc_dat : ∀ f : Fm, (enc f).dat = true
  | .lt n => by simp [enc, D.dat, D.dats, letter_dat]
  | .fls => by simp [enc, D.dat, D.dats, false_dat]
  | .bin o a b => by simp [enc, D.dat, D.dats, Op.w_dat, enc_dat a, enc_dat b]
@[simp] theorem enc_dep : ∀ f : Fm, (enc f).dep = f.dp
  | .lt n => by simp [enc, D.dep, D.deps, Fm.dp]
  | .fls => by simp [enc, D.dep, D.deps, Fm.dp]
  | .bin o a b => by simp [enc, D.dep, D.deps, Fm.dp, enc_dep a, enc_dep b]
@[simp] theorem Op.w_inj (o p : Op) : o.w = p.w ↔ o = p := by cases o <;> cases p <;> simp [Op.w]
@[simp] theorem enc_inj : ∀ f g : Fm, enc f = enc g ↔ f = g
  | .lt n, .lt m => by simp [enc]; omega
  | .fls, .fls => by simp
  | .bin o a b, .bin p c d => by simp [enc, enc_inj a c, enc_inj b d]
  | .lt _, .fls | .fls, .lt _ => by simp [enc]
  | .lt _, .bin _ _ _ | .bin _ _ _, .lt _ => by simp [enc]
  | .fls, .bin _ _ _ | .bin _ _ _, .fls => by simp [enc]

theorem ev_joined (o : Op) (x y : Bool) (M : Mo) : fnF 3 b_joined_value [.str o.w, I x, I y] M = some (I (o.ap x y), M) := by
  cases o <;> cases x <;> cases y <;> simp [fnF, b_joined_value, Op.w, Op.ap, b2i]
/-- fv of the formulas that q allows -/
def SVal (fv : F1) (q : Fm → Prop) : Prop := ∀ f r M, q f → f.ok = true → r.length = 4 → fv [enc f, rowD r] M = some (I (f.val r), M)
theorem ev_value {fj fv : F1} (hj : ∀ o x y M, fj [.str (Op.w o), I x, I y] M = some (I (o.ap x y), M)) {q : Fm → Prop} (hv : SVal fv q) (f : Fm) (r : List Bool) (M : Mo) (hf : f.ok = true) (hr : r.length = 4) (hq : ∀ o a b, f = .bin o a b → q a ∧ q b) :
    fnF 2 (b_value_of fj fv) [enc f, rowD r] M = some (I (f.val r), M) := by
  cases f with
  | lt n =>
    have hn : n < 4 := by simpa [Fm.ok] using hf
    have e : (r.map I)[n]? = some (I (r.getD n false)) := by
      rw [List.getElem?_map, List.getD_eq_getElem?_getD]
      rw [List.getElem?_eq_getElem (by omega)]
      rfl
    have h := ev_at (c := .tup (r.map I)) (t := true) (M := M) rfl e
    simp [fnF, b_value_of, enc, rowD, h, Fm.val]
  | fls => simp [fnF, b_value_of, enc, rowD, Fm.val, b2i]
  | bin o a b =>
    obtain ⟨qa, qb⟩ := hq o a b rfl
    simp only [Fm.ok, Bool.and_eq_true] at hf
    have h1 := fun M => hv a r M qa hf.1 hr
    have h2 := fun M => hv b r M qb hf.2 hr
    have j := hj o (a.val r) (b.val r)
    cases o <;> simp only [Op.w] at j <;> simp [fnF, b_value_of, enc, h1, h2, j, Fm.val, Op.w]

/-! ### letters -/
def Fm.ls : Fm → List Int
  | .lt n => [n]
  | .fls => []
  | .bin _ a b => sortI (dedupI (a.ls ++ b.ls))
theorem mem_sortI {x : Int} {ns : List Int} : x ∈ sortI ns ↔ x ∈ ns := (sortBy_perm _ ns).mem_iff
theorem sortI_sorted (ns : List Int) : (sortI ns).Pairwise (fun a b => a ≤ b) := (sortBy_sorted (fun a b => by simp; omega) (fun a b c h1 h2 => by simp at h1 h2 ⊢; omega) ns).imp fun h => by simpa using h
theorem sortI_nodup {ns : List Int} (h : ns.Nodup) : (sortI ns).Nodup := (sortBy_perm _ ns).nodup_iff.mpr h
theorem sortI_strict {ns : List Int} (h : ns.Nodup) : (sortI ns).Pairwise (fun a b => a < b) := by
  have h1 := sortI_sorted ns
  have h2 := sortI_nodup h
  exact (h1.and h2).imp fun ⟨a, b⟩ => by omega
theorem Fm.ls_mem : ∀ {f : Fm} {x : Int}, f.ok = true → x ∈ f.ls → 0 ≤ x ∧ x < 4
  | .lt n, x, h, m => by
    simp [Fm.ls] at m
    simp [Fm.ok] at h
    omega
  | .fls, x, _, m => by simp [Fm.ls] at m
  | .bin _ a b, x, h, m => by
    rw [Fm.ls, mem_sortI, mem_dedupI, List.mem_append] at m
    simp only [Fm.ok, Bool.and_eq_true] at h
    exact m.elim (Fm.ls_mem h.1) (Fm.ls_mem h.2)
theorem Fm.ls_nodup : ∀ f : Fm, f.ls.Nodup
  | .lt n => by simp [Fm.ls]
  | .fls => by simp [Fm.ls]
  | .bin _ a b => by rw [Fm.ls]; exact sortI_nodup (dedupI_nodup _)
theorem Fm.ls_sorted : ∀ f : Fm, f.ls.Pairwise (fun a b => a < b)
  | .lt n => by simp [Fm.ls]
  | .fls => by simp [Fm.ls]
  | .bin _ a b => by rw [Fm.ls]; exact sortI_strict (dedupI_nodup _)
theorem Fm.ls_len {f : Fm} (h : f.ok = true) : f.ls.length ≤ 4 := by
  have e := L2.nat_nodup_len (f.ls.map Int.toNat) [0, 1, 2, 3] (by
    refine List.pairwise_map.mpr ((Fm.ls_nodup f).imp_of_mem fun {a b} ha hb hne e => ?_)
    have h1 := Fm.ls_mem h ha
    have h2 := Fm.ls_mem h hb
    omega) fun x hx => by
    obtain ⟨y, hy, rfl⟩ := List.mem_map.mp hx
    have := Fm.ls_mem h hy
    have : y = 0 ∨ y = 1 ∨ y = 2 ∨ y = 3 := by omega
    rcases this with rfl | rfl | rfl | rfl <;> simp
  simpa using e
@[simp] theorem intsOf_map (ns : List Int) : intsOf (ns.map D.int) = some ns := by
  induction ns with
  | nil => rfl
  | cons n ns ih => simp [intsOf, ih]
theorem ev_sortset_int {ns : List Int} {M : Mo} (h : ns.length < 64) : sortSetF [.lst (ns.map D.int)] M = some (.lst ((sortI (dedupI ns)).map D.int), M) := by
  show (if (ns.map D.int).length < 64 then _ else _) = _
  rw [List.length_map, if_pos h, intsOf_map]
def SLet (fl : F1) (q : Fm → Prop) : Prop := ∀ f M, q f → f.ok = true → fl [enc f] M = some (.lst (f.ls.map D.int), M)
theorem ev_letters {fl : F1} {q : Fm → Prop} (hl : SLet fl q) (f : Fm) (M : Mo) (hf : f.ok = true) (hq : ∀ o a b, f = .bin o a b → q a ∧ q b) : fnF 1 (b_letters_in fl) [enc f] M = some (.lst (f.ls.map D.int), M) := by
  cases f with
  | lt n => simp [fnF, b_letters_in, enc, Fm.ls]
  | fls => simp [fnF, b_letters_in, enc, Fm.ls]
  | bin o a b =>
    obtain ⟨qa, qb⟩ := hq o a b rfl
    simp only [Fm.ok, Bool.and_eq_true] at hf
    have h1 := fun M => hl a M qa hf.1
    have h2 := fun M => hl b M qb hf.2
    have l1 := Fm.ls_len hf.1
    have l2 := Fm.ls_len hf.2
    have hs := ev_sortset_int (ns := a.ls ++ b.ls) (M := M) (by rw [List.length_append]; omega)
    rw [List.map_append] at hs
    have hc : a.ls.length + b.ls.length ≤ 16777216 := by omega
    cases o <;> simp [fnF, b_letters_in, enc, h1, h2, Fm.ls, Op.w, hs, hc]

/-! ### rows -/
def sub4 (a b c d : Bool) : List Int := (if a then [0] else []) ++ (if b then [1] else []) ++ (if c then [2] else []) ++ (if d then [3] else [])
theorem ls_sub4 {f : Fm} (h : f.ok = true) : f.ls = sub4 (decide ((0 : Int) ∈ f.ls)) (decide ((1 : Int) ∈ f.ls)) (decide ((2 : Int) ∈ f.ls)) (decide ((3 : Int) ∈ f.ls)) := by
  have hs := Fm.ls_sorted f
  have hm : ∀ x ∈ f.ls, 0 ≤ x ∧ x < 4 := fun x hx => Fm.ls_mem h hx
  generalize f.ls = l at hs hm ⊢
  have s4 : (sub4 (decide ((0 : Int) ∈ l)) (decide ((1 : Int) ∈ l)) (decide ((2 : Int) ∈ l)) (decide ((3 : Int) ∈ l))).Pairwise (fun a b => a < b) := by
    generalize decide ((0 : Int) ∈ l) = a, decide ((1 : Int) ∈ l) = b, decide ((2 : Int) ∈ l) = c, decide ((3 : Int) ∈ l) = d
    revert a b c d
    decide
  have mem : ∀ x, x ∈ sub4 (decide ((0 : Int) ∈ l)) (decide ((1 : Int) ∈ l)) (decide ((2 : Int) ∈ l)) (decide ((3 : Int) ∈ l)) ↔ x ∈ l := by
    intro x
    unfold sub4
    constructor
    · intro hx
      simp only [List.mem_append] at hx
      rcases hx with ((hx | hx) | hx) | hx <;> (split at hx <;> simp at hx; subst hx; simp_all)
    · intro hx
      obtain ⟨h1, h2⟩ := hm x hx
      have : x = 0 ∨ x = 1 ∨ x = 2 ∨ x = 3 := by omega
      rcases this with rfl | rfl | rfl | rfl <;> simp [hx]
  have n1 : l.Nodup := hs.imp fun h e => by omega
  have n2 := s4.imp (S := fun a b => a ≠ b) fun h e => by omega
  exact ((List.perm_ext_iff_of_nodup n1 n2).mpr fun x => (mem x).symm).eq_of_pairwise (fun a b _ _ h1 h2 => by omega) hs s4
def bits (n : Nat) : List Bool := [n / 8 % 2 == 1, n / 4 % 2 == 1, n / 2 % 2 == 1, n % 2 == 1]
def allRows : List (List Bool) := (List.range 16).map bits
/-- the rows that are 1 at the letters ls alone -/
def rowsOf (ls : List Int) : List (List Bool) := allRows.filter fun r => (List.range 4).all fun k => !r.getD k false || decide ((k : Int) ∈ ls)
theorem ev_rows_body (a b c d : Bool) (M : Mo) : b_rows_of [some (.lst ((sub4 a b c d).map D.int)), none, none, none] M = some (.rt (.lst ((rowsOf (sub4 a b c d)).map rowD)) M) := by
  cases a <;> cases b <;> cases c <;> cases d <;> kernel_rfl
theorem ev_rows {f : Fm} (h : f.ok = true) (M : Mo) : fnF 4 b_rows_of [.lst (f.ls.map D.int)] M = some (.lst ((rowsOf f.ls).map rowD), M) := by
  have e := ev_rows_body (decide ((0 : Int) ∈ f.ls)) (decide ((1 : Int) ∈ f.ls)) (decide ((2 : Int) ∈ f.ls)) (decide ((3 : Int) ∈ f.ls)) M
  rw [← ls_sub4 h] at e
  simp [fnF, e]

theorem rows_len {ls : List Int} {r : List Bool} (h : r ∈ rowsOf ls) : r.length = 4 := by
  obtain ⟨n, _, rfl⟩ := List.mem_map.mp (List.mem_filter.mp h).1
  rfl
def againstF (f : Fm) : Option (List Bool) := (rowsOf f.ls).find? fun r => !f.val r
theorem ev_against {fl fr fv : F1} {f : Fm} {M : Mo} (hl : fl [enc f] M = some (.lst (f.ls.map D.int), M)) (hr : fr [.lst (f.ls.map D.int)] M = some (.lst ((rowsOf f.ls).map rowD), M)) (hv : ∀ r, r.length = 4 → fv [enc f, rowD r] M = some (I (f.val r), M)) :
    fnF 2 (b_against fl fr fv) [enc f] M = some (match againstF f with | some r => rowD r | none => .non, M) := by
  obtain ⟨h1, h2⟩ := for_find (g := gName 1) (body := sIf (tru (mBin eqF (mCallN 2 fv (mCons (mVar 0) (mCons (mVar 1) mNil))) (mC (.int 0)))) (sRet (mVar 1)) sNext) (ei := rowD) (p := fun r => !f.val r) (res := rowD) (R := fun lo => ∃ x, lo = [some (enc f), x]) (M := M) (rowsOf f.ls) [some (enc f), none]
    (fun r hr lo ⟨x, hlo⟩ => by
      subst hlo
      have := hv r (rows_len hr)
      cases hx : f.val r <;> simp [this, hx, b2i]) ⟨none, rfl⟩
  unfold againstF
  cases hf : (rowsOf f.ls).find? (fun r => !f.val r) with
  | some r => simp [fnF, b_against, hl, hr, h1 r hf]
  | none =>
    obtain ⟨lo', e, _⟩ := h2 hf
    simp [fnF, b_against, hl, hr, e]
/-- true in all rows -/
def taut (f : Fm) : Bool := allRows.all f.val
def keepIn (ls : List Int) (r : List Bool) : List Bool := [r.getD 0 false && decide ((0 : Int) ∈ ls), r.getD 1 false && decide ((1 : Int) ∈ ls), r.getD 2 false && decide ((2 : Int) ∈ ls), r.getD 3 false && decide ((3 : Int) ∈ ls)]
theorem keepIn_mem (ls : List Int) (r : List Bool) : keepIn ls r ∈ rowsOf ls := by
  unfold rowsOf keepIn
  rw [List.mem_filter]
  constructor
  · generalize (r.getD 0 false && decide ((0 : Int) ∈ ls)) = a, (r.getD 1 false && decide ((1 : Int) ∈ ls)) = b, (r.getD 2 false && decide ((2 : Int) ∈ ls)) = c, (r.getD 3 false && decide ((3 : Int) ∈ ls)) = d
    revert a b c d
    decide
  · simp [List.all_eq_true, List.range_succ]
    exact ⟨by by_cases h : (0 : Int) ∈ ls <;> simp [h], by by_cases h : (1 : Int) ∈ ls <;> simp [h], by by_cases h : (2 : Int) ∈ ls <;> simp [h], by by_cases h : (3 : Int) ∈ ls <;> simp [h]⟩
/-- a formula looks at its letters alone -/
theorem val_letters : ∀ (f : Fm) (r r' : List Bool), f.ok = true → (∀ k : Nat, (k : Int) ∈ f.ls → r.getD k false = r'.getD k false) → f.val r = f.val r'
  | .lt n, r, r', _, h => h n (by simp [Fm.ls])
  | .fls, _, _, _, _ => rfl
  | .bin o a b, r, r', hf, h => by
    simp only [Fm.ok, Bool.and_eq_true] at hf
    have m : ∀ k : Nat, (k : Int) ∈ a.ls ∨ (k : Int) ∈ b.ls → r.getD k false = r'.getD k false := fun k hk => h k (by rw [Fm.ls, mem_sortI, mem_dedupI, List.mem_append]; exact hk)
    rw [Fm.val, Fm.val, val_letters a r r' hf.1 fun k hk => m k (.inl hk), val_letters b r r' hf.2 fun k hk => m k (.inr hk)]
theorem val_keepIn {f : Fm} (hf : f.ok = true) (r : List Bool) : f.val (keepIn f.ls r) = f.val r := by
  refine val_letters f _ _ hf fun k hk => ?_
  obtain ⟨_, h4⟩ := Fm.ls_mem hf hk
  have : k = 0 ∨ k = 1 ∨ k = 2 ∨ k = 3 := by omega
  rcases this with rfl | rfl | rfl | rfl <;> simp [keepIn] <;> intro _ <;> exact_mod_cast hk
theorem mem_allRows {r : List Bool} (h : r.length = 4) : r ∈ allRows := by
  match r, h with
  | [a, b, c, d], _ =>
    revert a b c d
    decide
theorem allRows_len {r : List Bool} (h : r ∈ allRows) : r.length = 4 := by
  obtain ⟨n, _, rfl⟩ := List.mem_map.mp h
  rfl
theorem against_none {f : Fm} (hf : f.ok = true) : againstF f = none ↔ taut f = true := by
  unfold againstF taut
  rw [List.find?_eq_none, List.all_eq_true]
  constructor
  · intro h r hr
    have := h _ (keepIn_mem f.ls r)
    rw [val_keepIn hf] at this
    simpa using this
  · intro h r hr
    have := h r (List.mem_filter.mp hr).1
    simp [this]
theorem ev_theorem {fa : F1} {f : Fm} {M : Mo} (hf : f.ok = true) (h : fa [enc f] M = some (match againstF f with | some r => rowD r | none => .non, M)) : fnF 1 (b_is_theorem fa) [enc f] M = some (.bl (taut f), M) := by
  have e := against_none hf
  cases ha : againstF f with
  | none =>
    rw [ha] at h
    have t : taut f = true := e.mp ha
    simp [fnF, b_is_theorem, h, t]
  | some r =>
    rw [ha] at h
    have t : taut f = false := by
      cases ht : taut f with
      | false => rfl
      | true => rw [e.mpr ht] at ha; cases ha
    simp [fnF, b_is_theorem, h, t, rowD]
end Law

set_option Elab.async false
set_option linter.all false
set_option maxRecDepth 100000
/-! Sequents: what sequents.py computes. -/
namespace Law
open PySem PySem.Spec G

/-! ### sides: sets of formulas, in order -/
theorem enc_plain : ∀ f : Fm, (enc f).plain = true
  | .lt _ => rfl
  | .fls => rfl
  | .bin o a b => by simp [enc, D.plain, D.plains, enc_plain a, enc_plain b]
theorem enc_nk_dep : ∀ f : Fm, (enc f).nk.depth = f.dp
  | .lt _ => rfl
  | .fls => rfl
  | .bin o a b => by simp [enc, D.nk, D.nks, NestedKey.depth, NestedKey.depthAll, Fm.dp, enc_nk_dep a, enc_nk_dep b]
theorem beq_nk (f g : Fm) : NestedKey.beq (enc f).nk (enc g).nk = decide (f = g) := by
  rw [← NestedKey.decide_eq]
  refine decide_eq_decide.mpr ⟨fun h => ?_, fun h => by rw [h]⟩
  exact (enc_inj f g).mp (D.nk_inj _ _ (enc_plain f) (enc_plain g) h)
theorem kcomp_first {a b : Str} (h : a ≠ b) (xs ys : List NestedKey) : kcomp (.tup (.text a :: xs)) (.tup (.text b :: ys)) = true := by
  rw [kcomp, kcompAll]
  have e : NestedKey.beq (.text a) (.text b) = false := by simp [NestedKey.beq, h]
  rw [e]
  simp [kcomp]
theorem Op.w_ne (o : Op) : ("letter" : Str) ≠ o.w ∧ ("false" : Str) ≠ o.w ∧ o.w ≠ ("letter" : Str) ∧ o.w ≠ ("false" : Str) := by
  cases o <;> simp [Op.w]
theorem kcomp_enc : ∀ f g : Fm, kcomp (enc f).nk (enc g).nk = true
  | .lt n, .lt m => by
    simp only [enc, D.nk, D.nks, kcomp, kcompAll, NestedKey.beq_self, if_true]
    split <;> rfl
  | .fls, .fls => by simp [enc, D.nk, D.nks, kcomp, kcompAll, NestedKey.beq_self]
  | .bin o a b, .bin p c d => by
    have h1 := kcomp_enc a c
    have h2 := kcomp_enc b d
    simp only [enc, D.nk, D.nks, kcomp, kcompAll]
    split
    · split
      · split
        · rfl
        · exact h2
      · exact h1
    · rfl
  | .lt _, .fls => kcomp_first (by simp) _ _
  | .fls, .lt _ => kcomp_first (by simp) _ _
  | .lt _, .bin o _ _ => kcomp_first (Op.w_ne o).1 _ _
  | .fls, .bin o _ _ => kcomp_first (Op.w_ne o).2.1 _ _
  | .bin o _ _, .lt _ => kcomp_first (Op.w_ne o).2.2.1 _ _
  | .bin o _ _, .fls => kcomp_first (Op.w_ne o).2.2.2 _ _
def fle (a b : Fm) : Bool := leD (enc a) (enc b)
def dedupF : List Fm → List Fm
  | [] => []
  | f :: fs => if (fs.any fun g => decide (f = g)) = true then dedupF fs else f :: dedupF fs
def canon (fs : List Fm) : List Fm := sortBy fle (dedupF fs)
theorem insBy_map {α β : Type} (e : α → β) (le : β → β → Bool) (x : α) : ∀ l : List α, insBy le (e x) (l.map e) = (insBy (fun a b => le (e a) (e b)) x l).map e
  | [] => rfl
  | y :: ys => by
    rw [List.map_cons, insBy, insBy]
    split
    · rfl
    · rw [List.map_cons, insBy_map e le x ys]
theorem sortBy_map {α β : Type} (e : α → β) (le : β → β → Bool) : ∀ l : List α, sortBy le (l.map e) = (sortBy (fun a b => le (e a) (e b)) l).map e
  | [] => rfl
  | x :: xs => by rw [List.map_cons, sortBy, sortBy, sortBy_map e le xs, insBy_map]
theorem dedup_map : ∀ fs : List Fm, dedupD (fs.map enc) = (dedupF fs).map enc
  | [] => rfl
  | f :: fs => by
    have e : ((fs.map enc).any fun g => NestedKey.beq (enc f).nk g.nk) = fs.any fun g => decide (f = g) := by
      rw [List.any_map]
      congr 1
      funext g
      exact beq_nk f g
    rw [List.map_cons, dedupD, dedupF, e, dedup_map fs]
    split
    · rfl
    · rfl
theorem canon_map (fs : List Fm) : sortD (dedupD (fs.map enc)) = (canon fs).map enc := by
  rw [dedup_map, sortD, sortBy_map]
  rfl
theorem mem_dedupF {f : Fm} : ∀ {fs : List Fm}, f ∈ dedupF fs ↔ f ∈ fs
  | [] => Iff.rfl
  | g :: fs => by
    have ih := mem_dedupF (f := f) (fs := fs)
    rw [dedupF, List.mem_cons]
    split
    · rename_i h
      obtain ⟨x, hx, e⟩ := List.any_eq_true.mp h
      rw [ih]
      refine ⟨.inr, fun h => h.elim (fun z => ?_) id⟩
      rw [z, of_decide_eq_true e]
      exact hx
    · rw [List.mem_cons, ih]
theorem dedupF_nodup : ∀ fs : List Fm, (dedupF fs).Nodup
  | [] => List.nodup_nil
  | f :: fs => by
    rw [dedupF]
    split
    · exact dedupF_nodup fs
    · rename_i h
      exact List.nodup_cons.mpr ⟨fun m => h (List.any_eq_true.mpr ⟨f, mem_dedupF.mp m, by simp⟩), dedupF_nodup fs⟩
theorem mem_canon {f : Fm} {fs : List Fm} : f ∈ canon fs ↔ f ∈ fs := (sortBy_perm _ _).mem_iff.trans mem_dedupF
theorem canon_nodup (fs : List Fm) : (canon fs).Nodup := (sortBy_perm _ _).nodup_iff.mpr (dedupF_nodup fs)
theorem canon_sorted (fs : List Fm) : (canon fs).Pairwise (fun a b => fle a b = true) := sortBy_sorted (le := fle) (fun a b => leD_total (enc a) (enc b)) (fun a b c h1 h2 => leD_trans (enc a) (enc b) (enc c) h1 h2) _
theorem fle_antisymm {a b : Fm} (h1 : fle a b = true) (h2 : fle b a = true) : a = b := (enc_inj a b).mp (leD_antisymm (enc_plain a) (enc_plain b) h1 h2)
/-- in order, each once -/
def IsCanon (s : List Fm) : Prop := s.Nodup ∧ s.Pairwise (fun a b => fle a b = true)
theorem IsCanon.ext {s t : List Fm} (hs : IsCanon s) (ht : IsCanon t) (h : ∀ f, f ∈ s ↔ f ∈ t) : s = t :=
  ((List.perm_ext_iff_of_nodup hs.1 ht.1).mpr h).eq_of_pairwise (fun a b _ _ h1 h2 => fle_antisymm h1 h2) hs.2 ht.2
theorem canon_is (fs : List Fm) : IsCanon (canon fs) := ⟨canon_nodup fs, canon_sorted fs⟩
def wOne (s : List Fm) (f : Fm) : List Fm := canon (s ++ [f])
theorem mem_wOne {s : List Fm} {f g : Fm} : g ∈ wOne s f ↔ g ∈ s ∨ g = f := by
  unfold wOne
  rw [mem_canon, List.mem_append, List.mem_singleton]
theorem wOne_is (s : List Fm) (f : Fm) : IsCanon (wOne s f) := canon_is _
/-- short, and not deep -/
structure Small (s : List Fm) : Prop where
  len : s.length < 63
  dp : ∀ f ∈ s, f.dp ≤ 8
theorem tupsOk_enc {fs : List Fm} (h : ∀ f ∈ fs, f.dp ≤ 8) : tupsOk (fs.map enc) = true := by
  unfold tupsOk
  rw [Bool.and_eq_true, List.all_eq_true, List.all_eq_true]
  refine ⟨fun d hd => ?_, fun d hd => List.all_eq_true.mpr fun e he => ?_⟩
  · obtain ⟨f, hf, rfl⟩ := List.mem_map.mp hd
    have t : isTup (enc f) = true := by cases f <;> rfl
    simp [t, enc_plain, enc_nk_dep, h f hf]
  · obtain ⟨f, hf, rfl⟩ := List.mem_map.mp hd
    obtain ⟨g, hg, rfl⟩ := List.mem_map.mp he
    exact kcomp_enc f g
theorem intsOf_enc (f : Fm) (ds : List D) : intsOf (enc f :: ds) = none := by cases f <;> rfl
theorem ev_sortset_enc {fs : List Fm} {c : D} {t : Bool} {M : Mo} (hc : seqOf M c = some (t, fs.map enc)) (hn : fs ≠ []) (h1 : fs.length < 64) (h2 : ∀ f ∈ fs, f.dp ≤ 8) : sortSetF [c] M = some (.lst ((canon fs).map enc), M) := by
  unfold sortSetF
  simp only [hc, List.length_map, h1, if_true]
  cases fs with
  | nil => exact absurd rfl hn
  | cons f fs =>
    rw [show intsOf ((f :: fs).map enc) = none from intsOf_enc f _]
    simp only [tupsOk_enc h2, if_true, canon_map]
theorem ev_with_one {s : List Fm} {f : Fm} {M : Mo} (hs : Small s) (hf : f.dp ≤ 8) : fnF 2 b_with_one [.tup (s.map enc), enc f] M = some (.tup ((wOne s f).map enc), M) := by
  have e := ev_sortset_enc (c := .tup (s.map enc ++ [enc f])) (t := true) (fs := s ++ [f]) (M := M) (by rw [List.map_append]; rfl) (by simp) (by have := hs.len; simp; omega) (fun g hg => by
    rcases List.mem_append.mp hg with h | h
    · exact hs.dp g h
    · rw [List.mem_singleton.mp h]; exact hf)
  have l : s.length + 1 ≤ 16777216 := by have := hs.len; omega
  simp [fnF, b_with_one, e, l, wOne]
end Law

set_option Elab.async false
set_option linter.all false
set_option maxRecDepth 100000
/-! Sequents: premises, the step, the search. -/
namespace Law
open PySem PySem.Spec G

theorem dedupF_len : ∀ fs : List Fm, (dedupF fs).length ≤ fs.length
  | [] => Nat.le_refl _
  | f :: fs => by
    rw [dedupF]
    split
    · exact Nat.le_succ_of_le (dedupF_len fs)
    · exact Nat.succ_le_succ (dedupF_len fs)
theorem canon_len (fs : List Fm) : (canon fs).length ≤ fs.length := by
  unfold canon
  rw [(sortBy_perm _ _).length_eq]
  exact dedupF_len fs
theorem wOne_len (s : List Fm) (f : Fm) : (wOne s f).length ≤ s.length + 1 := by
  have := canon_len (s ++ [f])
  simpa [wOne] using this
theorem small_wOne {s : List Fm} {f : Fm} (h : s.length < 62) (hd : ∀ g ∈ s, g.dp ≤ 8) (hf : f.dp ≤ 8) : Small (wOne s f) :=
  ⟨by have := wOne_len s f; omega, fun g hg => (mem_wOne.mp hg).elim (hd g) fun e => by rw [e]; exact hf⟩
/-- the words of the rules; true: left -/
def Op.wd : Op → Bool → String
  | .imp, true => "ifleft"
  | .imp, false => "ifright"
  | .and, true => "andleft"
  | .and, false => "andright"
  | .or, true => "orleft"
  | .or, false => "orright"
def sw : Bool → String
  | true => "left"
  | false => "right"
/-- what a rule adds, premise by premise -/
def adds : Op → Bool → Fm → Fm → List (List Fm × List Fm)
  | .and, true, a, b => [([a, b], [])]
  | .or, true, a, b => [([a], []), ([b], [])]
  | .imp, true, a, b => [([], [a]), ([b], [])]
  | .and, false, a, b => [([], [a]), ([], [b])]
  | .or, false, a, b => [([], [a, b])]
  | .imp, false, a, b => [([a], [b])]
abbrev Sq := List Fm × List Fm
def addAll (s fs : List Fm) : List Fm := fs.foldl wOne s
def prem (o : Op) (l : Bool) (a b : Fm) (s : Sq) : List Sq := (adds o l a b).map fun p => (addAll s.1 p.1, addAll s.2 p.2)
def seqD (s : Sq) : D := .tup [.tup (s.1.map enc), .tup (s.2.map enc)]
theorem dats_enc : ∀ fs : List Fm, D.dats (fs.map enc) = true
  | [] => rfl
  | f :: fs => by rw [List.map_cons, D.dats, enc_dat, dats_enc fs]; rfl
theorem deps_enc {n : Nat} : ∀ {fs : List Fm}, (∀ f ∈ fs, f.dp ≤ n) → D.deps (fs.map enc) ≤ n
  | [], _ => Nat.zero_le _
  | f :: fs, h => by
    rw [List.map_cons, D.deps, enc_dep]
    have h1 := h f List.mem_cons_self
    have h2 := deps_enc fun g hg => h g (List.mem_cons_of_mem f hg)
    omega
theorem mem_enc {f : Fm} {fs : List Fm} : enc f ∈ fs.map enc ↔ f ∈ fs := by
  rw [List.mem_map]
  exact ⟨fun ⟨g, hg, e⟩ => by rw [← (enc_inj g f).mp e]; exact hg, fun h => ⟨f, h, rfl⟩⟩
theorem ev_in_enc {f : Fm} {fs : List Fm} {M : Mo} (hf : f.dp ≤ 60) (h : ∀ g ∈ fs, g.dp ≤ 60) : inF [enc f, .tup (fs.map enc)] M = some (.bl (decide (f ∈ fs)), M) := by
  rw [ev_inT (enc_dat f) (dats_enc fs) (by rw [enc_dep]; omega) (by have := deps_enc h; omega)]
  simp only [mem_enc]
theorem ev_nin_enc {f : Fm} {fs : List Fm} {M : Mo} (hf : f.dp ≤ 60) (h : ∀ g ∈ fs, g.dp ≤ 60) : ninF [enc f, .tup (fs.map enc)] M = some (.bl (!decide (f ∈ fs)), M) := by
  rw [ev_ninT (enc_dat f) (dats_enc fs) (by rw [enc_dep]; omega) (by have := deps_enc h; omega)]
  simp only [mem_enc]
@[simp] theorem g_FALSE_e : g_FALSE = enc .fls := rfl
theorem g_TRUE_e : g_TRUE = enc (.bin .imp .fls .fls) := rfl
@[simp] theorem at_bin0 (o : Op) (a b : Fm) (M : Mo) : atF [enc (.bin o a b), .int 0] M = some (.str o.w, M) := ev_at0 _ _ _
@[simp] theorem at_bin1 (o : Op) (a b : Fm) (M : Mo) : atF [enc (.bin o a b), .int 1] M = some (enc a, M) := ev_at1 _ _ _ _
@[simp] theorem at_bin2 (o : Op) (a b : Fm) (M : Mo) : atF [enc (.bin o a b), .int 2] M = some (enc b, M) := ev_at2 _ _ _ _ _
theorem ev_in_pairs (a : String) (M : Mo) : inF [.str (Str.ofString a), g_PAIRS] M = some (.bl (decide (a = "if" ∨ a = "and" ∨ a = "or")), M) := by
  unfold g_PAIRS
  rw [ev_inT (by simp [D.dat]) (by simp [D.dats, D.dat]) (by simp [D.dep]) (by simp [D.deps, D.dep])]
  simp
theorem ev_nin_pairs (a : String) (M : Mo) : ninF [.str (Str.ofString a), g_PAIRS] M = some (.bl (!decide (a = "if" ∨ a = "and" ∨ a = "or")), M) := by
  unfold g_PAIRS
  rw [ev_ninT (by simp [D.dat]) (by simp [D.dats, D.dat]) (by simp [D.dep]) (by simp [D.deps, D.dep])]
  simp
theorem ev_nin_two (a b c : String) (M : Mo) : ninF [.str (Str.ofString a), .tup [.str (Str.ofString b), .str (Str.ofString c)]] M = some (.bl (!decide (a = b ∨ a = c)), M) := by
  rw [ev_ninT (by simp [D.dat]) (by simp [D.dats, D.dat]) (by simp [D.dep]) (by simp [D.deps, D.dep])]
  simp
theorem ends_words : Txt.endswith ("andleft" : Str) ("left" : Str) = true ∧ Txt.endswith ("orleft" : Str) ("left" : Str) = true ∧ Txt.endswith ("ifleft" : Str) ("left" : Str) = true ∧
    Txt.endswith ("andright" : Str) ("left" : Str) = false ∧ Txt.endswith ("orright" : Str) ("left" : Str) = false ∧ Txt.endswith ("ifright" : Str) ("left" : Str) = false := by decide +kernel
@[simp] theorem len_if : "if".length = 2 := rfl
@[simp] theorem len_and : "and".length = 3 := rfl
@[simp] theorem len_or : "or".length = 2 := rfl
@[simp] theorem len_left : "left".length = 4 := rfl
@[simp] theorem len_right : "right".length = 5 := rfl
/-- fw adds to sides -/
def SWith (fw : F1) : Prop := ∀ s f M, Small s → f.dp ≤ 8 → fw [.tup (s.map enc), enc f] M = some (.tup ((wOne s f).map enc), M)
/-- a sequent of short sides -/
structure SmallS (s : Sq) : Prop where
  l : s.1.length < 60
  r : s.2.length < 60
  dl : ∀ f ∈ s.1, f.dp ≤ 8
  dr : ∀ f ∈ s.2, f.dp ≤ 8
theorem ev_premises {fw : F1} (hw : SWith fw) (s : Sq) (o : Op) (l : Bool) (a b : Fm) (M : Mo) (hs : SmallS s) (hm : Fm.bin o a b ∈ (if l then s.1 else s.2)) :
    fnF 8 (b_premises fw) [seqD s, .tup [.str (Str.ofString (o.wd l)), enc (.bin o a b)]] M = some (.lst ((prem o l a b s).map seqD), M) := by
  obtain ⟨L, R⟩ := s
  obtain ⟨h1, h2, h3, h4⟩ := hs
  simp only at h1 h2 h3 h4 hm
  have hd : (Fm.bin o a b).dp ≤ 8 := by
    cases l
    · exact h4 _ hm
    · exact h3 _ hm
  have ha : a.dp ≤ 8 := by rw [Fm.dp] at hd; omega
  have hb : b.dp ≤ 8 := by rw [Fm.dp] at hd; omega
  have sL : Small L := ⟨by omega, h3⟩
  have sR : Small R := ⟨by omega, h4⟩
  have wl1 := fun f hf M => hw L f M sL hf
  have wr1 := fun f hf M => hw R f M sR hf
  have wl2 := hw (wOne L a) b
  have wr2 := hw (wOne R a) b
  have sla : Small (wOne L a) := small_wOne (by omega) h3 ha
  have sra : Small (wOne R a) := small_wOne (by omega) h4 ha
  have iL := fun M => ev_nin_enc (f := .bin o a b) (fs := L) (M := M) (by omega) (fun g hg => by have := h3 g hg; omega)
  have iR := fun M => ev_nin_enc (f := .bin o a b) (fs := R) (M := M) (by omega) (fun g hg => by have := h4 g hg; omega)
  obtain ⟨e1, e2, e3, e4, e5, e6⟩ := ends_words
  cases o <;> cases l <;> simp only [if_true, Bool.false_eq_true, if_false] at hm <;>
    simp [fnF, b_premises, seqD, Op.wd, Op.w, prem, adds, addAll, ev_nin_pairs, ev_nin_two, iL, iR, hm, e1, e2, e3, e4, e5, e6, wl1, wr1, wl2, wr2, ha, hb, sla, sra]

/-! ### the step -/
theorem map_enc_inj : ∀ fs gs : List Fm, fs.map enc = gs.map enc ↔ fs = gs
  | [], [] => by simp
  | [], _ :: _ | _ :: _, [] => by simp
  | f :: fs, g :: gs => by simp [map_enc_inj fs gs]
theorem seqD_inj (s t : Sq) : seqD s = seqD t ↔ s = t := by
  obtain ⟨a, b⟩ := s
  obtain ⟨c, d⟩ := t
  simp [seqD, map_enc_inj]
theorem mem_seqD {s : Sq} {ts : List Sq} : seqD s ∈ ts.map seqD ↔ s ∈ ts := by
  rw [List.mem_map]
  exact ⟨fun ⟨g, hg, e⟩ => by rw [← (seqD_inj g s).mp e]; exact hg, fun h => ⟨s, h, rfl⟩⟩
def Flat (s : Sq) : Prop := (∀ f ∈ s.1, f.dp ≤ 8) ∧ ∀ f ∈ s.2, f.dp ≤ 8
theorem seqD_dat (s : Sq) : (seqD s).dat = true := by simp [seqD, D.dat, D.dats, dats_enc]
theorem seqD_dep {s : Sq} (h : Flat s) : (seqD s).dep ≤ 10 := by
  have h1 := deps_enc h.1
  have h2 := deps_enc h.2
  simp only [seqD, D.dep, D.deps]
  omega
theorem seqDs_dat : ∀ ts : List Sq, D.dats (ts.map seqD) = true
  | [] => rfl
  | t :: ts => by rw [List.map_cons, D.dats, seqD_dat, seqDs_dat ts]; rfl
theorem seqDs_dep : ∀ {ts : List Sq}, (∀ t ∈ ts, Flat t) → D.deps (ts.map seqD) ≤ 10
  | [], _ => Nat.zero_le _
  | t :: ts, h => by
    have h1 := seqD_dep (h t List.mem_cons_self)
    have h2 := seqDs_dep fun u hu => h u (List.mem_cons_of_mem t hu)
    rw [List.map_cons, D.deps]
    omega
theorem mem_addAll {g : Fm} : ∀ {fs : List Fm} {s : List Fm}, g ∈ addAll s fs ↔ g ∈ s ∨ g ∈ fs
  | [], s => by simp [addAll]
  | f :: fs, s => by
    show g ∈ addAll (wOne s f) fs ↔ _
    rw [mem_addAll, mem_wOne, List.mem_cons]
    constructor
    · rintro ((h | h) | h)
      · exact .inl h
      · exact .inr (.inl h)
      · exact .inr (.inr h)
    · rintro (h | h | h)
      · exact .inl (.inl h)
      · exact .inl (.inr h)
      · exact .inr h
theorem adds_sub {o : Op} {l : Bool} {a b : Fm} {p : List Fm × List Fm} (h : p ∈ adds o l a b) : (∀ x ∈ p.1, x = a ∨ x = b) ∧ ∀ x ∈ p.2, x = a ∨ x = b := by
  cases o <;> cases l <;> simp [adds] at h <;> rcases h with h | h <;> (try subst h) <;> simp_all
theorem prem_flat {o : Op} {l : Bool} {a b : Fm} {s : Sq} (h : Flat s) (hd : (Fm.bin o a b).dp ≤ 9) : ∀ t ∈ prem o l a b s, Flat t := by
  intro t ht
  obtain ⟨p, hp, rfl⟩ := List.mem_map.mp ht
  obtain ⟨q1, q2⟩ := adds_sub hp
  rw [Fm.dp] at hd
  refine ⟨fun f hf => ?_, fun f hf => ?_⟩
  · rcases mem_addAll.mp hf with z | z
    · exact h.1 f z
    · rcases q1 f z with e | e <;> rw [e] <;> omega
  · rcases mem_addAll.mp hf with z | z
    · exact h.2 f z
    · rcases q2 f z with e | e <;> rw [e] <;> omega
/-- the rule at this formula leads on -/
def leads (l : Bool) (s : Sq) : Fm → Bool
  | .bin o a b => !decide (s ∈ prem o l a b s)
  | _ => false
def stepD (l : Bool) : Fm → D
  | .bin o a b => .tup [.str (Str.ofString (o.wd l)), enc (.bin o a b)]
  | f => .tup [.non, enc f]
@[simp] theorem at_lt0 (n : Nat) (M : Mo) : atF [enc (.lt n), .int 0] M = some (.str "letter", M) := ev_at0 _ _ _
@[simp] theorem at_fls0 (M : Mo) : atF [enc .fls, .int 0] M = some (.str "false", M) := ev_at0 _ _ _
@[simp] theorem len_letter : "letter".length = 6 := rfl
@[simp] theorem len_false : "false".length = 5 := rfl
def side (l : Bool) (s : Sq) : List Fm := if l then s.1 else s.2
/-- fp gives the premises of s -/
def SPrem (fp : F1) (s : Sq) : Prop := ∀ o l a b M, Fm.bin o a b ∈ side l s → fp [seqD s, .tup [.str (Str.ofString (Op.wd o l)), enc (.bin o a b)]] M = some (.lst ((prem o l a b s).map seqD), M)
theorem side_flat {s : Sq} (h : Flat s) {l : Bool} {f : Fm} (m : f ∈ side l s) : f.dp ≤ 8 := by
  cases l
  · exact h.2 f m
  · exact h.1 f m
theorem ev_inner {fp : F1} {s : Sq} (hp : SPrem fp s) (hs : Flat s) (l : Bool) (M : Mo) (x y : Option D) :
    (∀ f, (side l s).find? (leads l s) = some f → forLoop (gName 3) (sSeq (sSet (mTup (mCons (mBin addF (mBin atF (mVar 3) (mC (.int 0))) (mVar 1)) (mCons (mVar 3) mNil))) (gName 4)) (sIf (tAndM (tru (mBin inF (mBin atF (mVar 3) (mC (.int 0))) (mC g_PAIRS))) (tru (mBin ninF (mVar 0) (mCallN 2 fp (mCons (mVar 0) (mCons (mVar 4) mNil)))))) (sRet (mVar 4)) sNext))
      ((side l s).map enc) [some (seqD s), some (.str (Str.ofString (sw l))), some (.tup ((side l s).map enc)), x, y] M = some (.rt (stepD l f) M)) ∧
    ((side l s).find? (leads l s) = none → ∃ x' y', forLoop (gName 3) (sSeq (sSet (mTup (mCons (mBin addF (mBin atF (mVar 3) (mC (.int 0))) (mVar 1)) (mCons (mVar 3) mNil))) (gName 4)) (sIf (tAndM (tru (mBin inF (mBin atF (mVar 3) (mC (.int 0))) (mC g_PAIRS))) (tru (mBin ninF (mVar 0) (mCallN 2 fp (mCons (mVar 0) (mCons (mVar 4) mNil)))))) (sRet (mVar 4)) sNext))
      ((side l s).map enc) [some (seqD s), some (.str (Str.ofString (sw l))), some (.tup ((side l s).map enc)), x, y] M = some (.nx [some (seqD s), some (.str (Str.ofString (sw l))), some (.tup ((side l s).map enc)), x', y'] M)) := by
  obtain ⟨h1, h2⟩ := for_find (g := gName 3) (body := sSeq (sSet (mTup (mCons (mBin addF (mBin atF (mVar 3) (mC (.int 0))) (mVar 1)) (mCons (mVar 3) mNil))) (gName 4)) (sIf (tAndM (tru (mBin inF (mBin atF (mVar 3) (mC (.int 0))) (mC g_PAIRS))) (tru (mBin ninF (mVar 0) (mCallN 2 fp (mCons (mVar 0) (mCons (mVar 4) mNil)))))) (sRet (mVar 4)) sNext))
    (ei := enc) (p := leads l s) (res := stepD l) (R := fun lo => ∃ x y, lo = [some (seqD s), some (.str (Str.ofString (sw l))), some (.tup ((side l s).map enc)), x, y]) (M := M) (side l s) [some (seqD s), some (.str (Str.ofString (sw l))), some (.tup ((side l s).map enc)), x, y]
    (fun f hf lo ⟨x, y, hlo⟩ => by
      subst hlo
      cases f with
      | lt n => cases l <;> simp [leads, sw, ev_in_pairs]
      | fls => cases l <;> simp [leads, sw, ev_in_pairs]
      | bin o a b =>
        have e := hp o l a b M hf
        have hd := side_flat hs hf
        have en : ninF [seqD s, .lst ((prem o l a b s).map seqD)] M = some (.bl (!decide (s ∈ prem o l a b s)), M) := by
          rw [ev_ninL (seqD_dat s) (seqDs_dat _) (by have := seqD_dep hs; omega) (by have := seqDs_dep (prem_flat (o := o) (l := l) (a := a) (b := b) hs (by omega)); omega)]
          simp only [mem_seqD]
        by_cases c : s ∈ prem o l a b s
        · have en' : ninF [seqD s, .lst ((prem o l a b s).map seqD)] M = some (.bl false, M) := by rw [en]; simp [c]
          cases o <;> cases l <;> simp only [Op.wd] at e <;> simp [leads, sw, ev_in_pairs, stepD, Op.w, Op.wd, e, en', c]
        · have en' : ninF [seqD s, .lst ((prem o l a b s).map seqD)] M = some (.bl true, M) := by rw [en]; simp [c]
          cases o <;> cases l <;> simp only [Op.wd] at e <;> simp [leads, sw, ev_in_pairs, stepD, Op.w, Op.wd, e, en', c]) ⟨x, y, rfl⟩
  refine ⟨h1, fun hn => ?_⟩
  obtain ⟨lo', e, x', y', rfl⟩ := h2 hn
  exact ⟨x', y', e⟩
/-- the step of s -/
def stepOf (s : Sq) : Option (Bool × Fm) := match s.1.find? (leads true s) with
  | some f => some (true, f)
  | none => match s.2.find? (leads false s) with
    | some f => some (false, f)
    | none => none
theorem kind_seqD (s : Sq) : kindOf (seqD s) = some (true, [.tup (s.1.map enc), .tup (s.2.map enc)]) := rfl
theorem kind_tup (ds : List D) : kindOf (.tup ds) = some (true, ds) := rfl
theorem ev_step_for {fp : F1} {s : Sq} (hp : SPrem fp s) (hs : Flat s) (M : Mo) : fnF 5 (b_step_for fp) [seqD s] M = some (match stepOf s with | some (l, f) => stepD l f | none => .non, M) := by
  obtain ⟨a1, a2⟩ := ev_inner hp hs true M none none
  unfold stepOf
  cases h1 : s.1.find? (leads true s) with
  | some f =>
    have e := a1 f h1
    simp only [side, if_true, sw] at e
    simp [fnF, b_step_for, kind_seqD, kind_tup, zipD, for_cons, e]
  | none =>
    obtain ⟨x, y, e⟩ := a2 h1
    obtain ⟨b1, b2⟩ := ev_inner hp hs false M x y
    simp only [side, if_true, sw] at e
    cases h2 : s.2.find? (leads false s) with
    | some f =>
      have e2 := b1 f h2
      simp only [side, Bool.false_eq_true, if_false, sw] at e2
      simp [fnF, b_step_for, kind_seqD, kind_tup, zipD, for_cons, e, e2]
    | none =>
      obtain ⟨x2, y2, e2⟩ := b2 h2
      simp only [side, Bool.false_eq_true, if_false, sw] at e2
      simp [fnF, b_step_for, kind_seqD, kind_tup, zipD, for_cons, e, e2]
end Law

set_option Elab.async false
set_option linter.all false
set_option maxRecDepth 100000
/-! Sequents: the search, what it finds, what it means. -/
namespace Law
open PySem PySem.Spec G

inductive Pf where
  | fls
  | ax (f : Fm)
  | node (l : Bool) (o : Op) (a b : Fm) (ps : List Pf)
mutual
def pfD : Pf → D
  | .fls => .tup [.str "false"]
  | .ax f => .tup [.str "axiom", enc f]
  | .node l o a b ps => .tup (.str (Str.ofString (o.wd l)) :: enc (.bin o a b) :: pfDs ps)
def pfDs : List Pf → List D
  | [] => []
  | p :: ps => pfD p :: pfDs ps
end
theorem pfDs_map : ∀ ps : List Pf, pfDs ps = ps.map pfD
  | [] => rfl
  | p :: ps => by rw [pfDs, pfDs_map ps]; rfl
mutual
theorem pfD_dat : ∀ p : Pf, (pfD p).dat = true
  | .fls => by simp [pfD, D.dat, D.dats]
  | .ax f => by simp [pfD, D.dat, D.dats]
  | .node l o a b ps => by rw [pfD, D.dat, D.dats, D.dats, enc_dat, pfDs_dat ps]; simp [D.dat]
theorem pfDs_dat : ∀ ps : List Pf, D.dats (pfDs ps) = true
  | [] => rfl
  | p :: ps => by rw [pfDs, D.dats, pfD_dat p, pfDs_dat ps]; rfl
end
theorem pfD_non (p : Pf) : pfD p ≠ .non := by cases p <;> simp [pfD]
def resD : Option Pf → D
  | some p => pfD p
  | none => .non
theorem resD_non (r : Option Pf) : resD r = .non ↔ r = none := by
  cases r with
  | none => simp [resD]
  | some p => simp [resD, pfD_non]
theorem resDs_dat : ∀ rs : List (Option Pf), D.dats (rs.map resD) = true
  | [] => rfl
  | none :: rs => by rw [List.map_cons, D.dats, resDs_dat rs]; rfl
  | some p :: rs => by rw [List.map_cons, D.dats, resDs_dat rs, resD, pfD_dat]; rfl
theorem resDs_dep {n : Nat} : ∀ {rs : List (Option Pf)}, (∀ r ∈ rs, (resD r).dep ≤ n) → D.deps (rs.map resD) ≤ n
  | [], _ => Nat.zero_le _
  | r :: rs, h => by
    have h1 := h r List.mem_cons_self
    have h2 := resDs_dep fun u hu => h u (List.mem_cons_of_mem r hu)
    rw [List.map_cons, D.deps]
    omega
def noneIn (rs : List (Option Pf)) : Bool := rs.any fun r => r.isNone
theorem mem_resD {rs : List (Option Pf)} : decide (D.non ∈ rs.map resD) = noneIn rs := by
  unfold noneIn
  induction rs with
  | nil => rfl
  | cons r rs ih =>
    cases r with
    | none => simp [resD]
    | some p =>
      have : ¬ D.non = pfD p := fun e => pfD_non p e.symm
      simp only [List.map_cons, resD, List.mem_cons, this, false_or, List.any_cons, Option.isNone_some, Bool.false_or]
      exact ih
theorem none_out : ∀ {rs : List (Option Pf)}, noneIn rs = false → rs.map resD = pfDs (rs.filterMap id)
  | [], _ => rfl
  | none :: rs, h => by simp [noneIn] at h
  | some p :: rs, h => by
    have := none_out (rs := rs) (by simpa [noneIn] using h)
    rw [List.map_cons, this]
    rfl
/-- what the search of s answers, r of the others -/
def searchOf (r : Sq → Option Pf) (s : Sq) : Option Pf := if Fm.fls ∈ s.1 then some .fls else match s.1.filter fun f => decide (f ∈ s.2) with
  | f :: _ => some (.ax f)
  | [] => match stepOf s with
    | some (l, .bin o a b) => if noneIn ((prem o l a b s).map r) = true then none else some (.node l o a b (((prem o l a b s).map r).filterMap id))
    | _ => none
theorem find_some {l : Bool} {s : Sq} {fs : List Fm} {f : Fm} (h : fs.find? (leads l s) = some f) : ∃ o a b, f = .bin o a b ∧ f ∈ fs ∧ s ∉ prem o l a b s := by
  have h1 := List.find?_some h
  have h2 := List.mem_of_find?_eq_some h
  cases f with
  | bin o a b =>
    simp [leads] at h1
    exact ⟨o, a, b, rfl, h2, h1⟩
  | _ => simp [leads] at h1
theorem stepOf_some {s : Sq} {l : Bool} {f : Fm} (h : stepOf s = some (l, f)) : ∃ o a b, f = .bin o a b ∧ f ∈ side l s ∧ s ∉ prem o l a b s := by
  unfold stepOf at h
  cases h1 : s.1.find? (leads true s) with
  | some g =>
    rw [h1] at h
    cases h
    exact find_some h1
  | none =>
    rw [h1] at h
    cases h2 : s.2.find? (leads false s) with
    | some g =>
      rw [h2] at h
      cases h
      exact find_some h2
    | none => rw [h2] at h; cases h
theorem ev_search {fp fs ft : F1} {s : Sq} {r : Sq → Option Pf} {M : Mo} (hp : SPrem fp s) (hs : Flat s) (hlen : s.1.length < 60) (ht : ft [seqD s] M = some (match stepOf s with | some (l, f) => stepD l f | none => .non, M))
    (hr : ∀ l o a b, stepOf s = some (l, .bin o a b) → ∀ t ∈ prem o l a b s, fs [seqD t] M = some (resD (r t), M) ∧ (resD (r t)).dep ≤ 60) : fnF 8 (b_search fp fs ft) [seqD s] M = some (resD (searchOf r s), M) := by
  have hin : inF [enc .fls, .tup (s.1.map enc)] M = some (.bl (decide (Fm.fls ∈ s.1)), M) := ev_in_enc (by simp [Fm.dp]) fun g hg => by have := hs.1 g hg; omega
  unfold searchOf
  have g2 : ∀ (x : Option D) (lo : Lo), (gTup 2 (gsCons (gName 1) (gsCons (gName 2) gsNil))) (seqD s) (x :: lo) M = some (((x :: lo).set 1 (some (.tup (s.1.map enc)))).set 2 (some (.tup (s.2.map enc))), M) := fun x lo => by simp [seqD]
  by_cases c1 : Fm.fls ∈ s.1
  · rw [if_pos c1]
    have e : inF [enc .fls, .tup (s.1.map enc)] M = some (.bl true, M) := by rw [hin]; simp [c1]
    simp [fnF, b_search, seqD, e, resD, pfD]
  · rw [if_neg c1]
    have e : inF [enc .fls, .tup (s.1.map enc)] M = some (.bl false, M) := by rw [hin]; simp [c1]
    have hlen2 : s.1.length ≤ 16777216 := by omega
    have hc : ∀ lo : Lo, lo = [some (seqD s), some (.tup (s.1.map enc)), some (.tup (s.2.map enc)), none, none, none, none, none] → compLoop (gName 6) (tru (mBin inF (mVar 6) (mVar 2))) (mVar 6) [6] (s.1.map enc) lo M = some ((s.1.filter fun f => decide (f ∈ s.2)).map enc, M) := fun lo hlo => by
      subst hlo
      have := comp_typed (g := gName 6) (c := tru (mBin inF (mVar 6) (mVar 2))) (m := mVar 6) (vs := [6]) (lo := [some (seqD s), some (.tup (s.1.map enc)), some (.tup (s.2.map enc)), none, none, none, none, none]) (M := M) (ei := enc) (eo := enc) (p := fun f => decide (f ∈ s.2)) (f := fun f => f) s.1 fun f hf => by
        have ei : inF [enc f, .tup (s.2.map enc)] M = some (.bl (decide (f ∈ s.2)), M) := ev_in_enc (by have := hs.1 f hf; omega) fun g hg => by have := hs.2 g hg; omega
        exact ⟨_, rfl, by simp [wipeD, ei], fun _ => by simp [wipeD]⟩
      simpa using this
    have hc := hc _ rfl
    cases hb : s.1.filter fun f => decide (f ∈ s.2) with
    | cons f fs' =>
      rw [hb] at hc
      simp [-gTup_e, fnF, b_search, g2, e, hc, resD, pfD, hlen2]
    | nil =>
      rw [hb] at hc
      cases hst : stepOf s with
      | none =>
        rw [hst] at ht
        simp [-gTup_e, fnF, b_search, g2, e, hc, hlen2, ht, resD]
      | some q =>
        obtain ⟨l, f⟩ := q
        obtain ⟨o, a, b, rfl, hm, _⟩ := stepOf_some hst
        rw [hst] at ht
        have e2 := hp o l a b M hm
        have hsd : stepD l (.bin o a b) = .tup [.str (Str.ofString (o.wd l)), enc (.bin o a b)] := rfl
        simp only [hsd] at ht
        have hr' := hr l o a b hst
        have plen : (prem o l a b s).length ≤ 2 := by cases o <;> cases l <;> simp [prem, adds]
        have hc2 := comp_map (g := gName 7) (m := mCallN 1 fs (mCons (mVar 7) mNil)) (vs := [7]) (lo := [some (seqD s), some (.tup (s.1.map enc)), some (.tup (s.2.map enc)), some (.lst []), some (.tup [.str (Str.ofString (o.wd l)), enc (.bin o a b)]), none, none, none]) (M := M) (ei := seqD) (eo := resD) (f := r) (prem o l a b s) fun t ht2 =>
          ⟨_, rfl, by simp [wipeD, (hr' t ht2).1]⟩
        have hin2 : inF [.non, .lst (((prem o l a b s).map r).map resD)] M = some (.bl (noneIn ((prem o l a b s).map r)), M) := by
          rw [ev_inL rfl (resDs_dat _) (by simp [D.dep]) (by
            have := resDs_dep (n := 60) (rs := (prem o l a b s).map r) fun x hx => by
              obtain ⟨t, ht3, rfl⟩ := List.mem_map.mp hx
              exact (hr' t ht3).2
            omega)]
          simp only [mem_resD]
        have pl2 : ((prem o l a b s).map seqD).length ≤ 16777216 := by rw [List.length_map]; omega
        have pl3 : 2 + (((prem o l a b s).map r).map resD).length ≤ 16777216 := by rw [List.length_map, List.length_map]; omega
        have pl4 : (prem o l a b s).length ≤ 16777216 := by omega
        show _ = some (resD (if noneIn ((prem o l a b s).map r) = true then none else some (.node l o a b (((prem o l a b s).map r).filterMap id))), M)
        generalize hps : prem o l a b s = ps at *
        generalize hrs : ps.map r = rs at *
        cases c2 : noneIn rs with
        | true =>
          rw [c2] at hin2
          simp [-gTup_e, fnF, b_search, g2, e, hc, hlen2, ht, e2, hc2, hin2, c2, resD, pl4]
        | false =>
          rw [c2] at hin2
          have no := none_out c2
          rw [no] at hin2 hc2 pl3
          have pl5 : (pfDs (rs.filterMap id)).length + 1 + 1 ≤ 16777216 := by omega
          simp [-gTup_e, fnF, b_search, g2, e, hc, hlen2, ht, e2, hc2, hin2, c2, resD, pfD, pl3, pl4]
end Law

set_option Elab.async false
set_option linter.all false
set_option maxRecDepth 100000
/-! The search finds a proof, or a row that refutes. Plain. -/
namespace Law
open PySem PySem.Spec G

theorem nodup_len {α : Type} [DecidableEq α] : ∀ (l d : List α), l.Nodup → (∀ x ∈ l, x ∈ d) → l.length ≤ d.length
  | [], _, _, _ => Nat.zero_le _
  | x :: l, d, hn, hs => by
    obtain ⟨h1, h2⟩ := List.nodup_cons.mp hn
    have hx := hs x List.mem_cons_self
    have ih := nodup_len l (d.erase x) h2 fun y hy => (List.mem_erase_of_ne (fun e : y = x => h1 (by rw [← e]; exact hy))).2 (hs y (List.mem_cons_of_mem _ hy))
    have e := List.length_erase_of_mem hx
    have hp : 0 < d.length := List.length_pos_of_mem hx
    rw [List.length_cons]
    omega
theorem filter_le {α : Type} {p q : α → Bool} : ∀ {l : List α}, (∀ x, q x = true → p x = true) → (l.filter q).length ≤ (l.filter p).length
  | [], _ => Nat.le_refl _
  | x :: l, h => by
    have ih := filter_le (l := l) h
    rw [List.filter_cons, List.filter_cons]
    cases hq : q x with
    | true => rw [h x hq]; simpa using ih
    | false => cases p x <;> simp <;> omega
theorem filter_lt {α : Type} {p q : α → Bool} : ∀ {l : List α}, (∀ x, q x = true → p x = true) → (∃ x ∈ l, p x = true ∧ q x = false) → (l.filter q).length < (l.filter p).length
  | [], _, ⟨x, hx, _⟩ => by cases hx
  | y :: l, h, ⟨x, hx, h1, h2⟩ => by
    rw [List.filter_cons, List.filter_cons]
    rcases List.mem_cons.mp hx with e | hx
    · subst e
      rw [h1, h2]
      have := filter_le (l := l) h
      simp
      omega
    · have ih := filter_lt (l := l) h ⟨x, hx, h1, h2⟩
      cases hq : q y with
      | true => rw [h y hq]; simpa using ih
      | false => cases p y <;> simp <;> omega
/-- the row r refutes s -/
def Refutes (r : List Bool) (s : Sq) : Prop := (∀ f ∈ s.1, f.val r = true) ∧ ∀ f ∈ s.2, f.val r = false
theorem refutes_side {r : List Bool} {s : Sq} : Refutes r s ↔ ∀ l f, f ∈ side l s → f.val r = l :=
  ⟨fun h l f hf => by cases l; exact h.2 f hf; exact h.1 f hf, fun h => ⟨fun f hf => h true f hf, fun f hf => h false f hf⟩⟩
theorem adds_sem (o : Op) (l : Bool) (a b : Fm) (r : List Bool) : (Fm.bin o a b).val r = l ↔ ∃ p ∈ adds o l a b, (∀ x ∈ p.1, x.val r = true) ∧ ∀ y ∈ p.2, y.val r = false := by
  rw [Fm.val]
  cases o <;> cases l <;> simp [adds, Op.ap] <;> cases a.val r <;> cases b.val r <;> simp
theorem mem_prem_side {o : Op} {l : Bool} {a b : Fm} {s t : Sq} (h : t ∈ prem o l a b s) : ∃ p ∈ adds o l a b, t = (addAll s.1 p.1, addAll s.2 p.2) := by
  obtain ⟨p, hp, e⟩ := List.mem_map.mp h
  exact ⟨p, hp, e.symm⟩
/-- what has its formulas in U -/
structure InU (U : List (Bool × Fm)) (s : Sq) : Prop where
  c1 : IsCanon s.1
  c2 : IsCanon s.2
  mem : ∀ l f, f ∈ side l s → (l, f) ∈ U
def Closed (U : List (Bool × Fm)) : Prop := ∀ l o a b, (l, Fm.bin o a b) ∈ U → ∀ p ∈ adds o l a b, (∀ x ∈ p.1, (true, x) ∈ U) ∧ ∀ y ∈ p.2, (false, y) ∈ U
theorem addAll_is {s : List Fm} (h : IsCanon s) : ∀ fs : List Fm, IsCanon (addAll s fs)
  | [] => h
  | f :: fs => addAll_is (wOne_is s f) fs
theorem InU.prem {U : List (Bool × Fm)} (hU : Closed U) {s t : Sq} (h : InU U s) {o : Op} {l : Bool} {a b : Fm} (m : Fm.bin o a b ∈ side l s) (ht : t ∈ prem o l a b s) : InU U t ∧ ∀ l f, f ∈ side l s → f ∈ side l t := by
  obtain ⟨p, hp, rfl⟩ := mem_prem_side ht
  obtain ⟨u1, u2⟩ := hU l o a b (h.mem l _ m) p hp
  refine ⟨⟨addAll_is h.c1 _, addAll_is h.c2 _, fun l f hf => ?_⟩, fun l f hf => ?_⟩
  · cases l
    · rcases mem_addAll.mp (show f ∈ addAll s.2 p.2 from hf) with z | z
      · exact h.mem false f z
      · exact u2 f z
    · rcases mem_addAll.mp (show f ∈ addAll s.1 p.1 from hf) with z | z
      · exact h.mem true f z
      · exact u1 f z
  · cases l
    · exact mem_addAll.mpr (.inl hf)
    · exact mem_addAll.mpr (.inl hf)
def miss (U : List (Bool × Fm)) (s : Sq) : Nat := (U.filter fun q => !decide (q.2 ∈ side q.1 s)).length
theorem miss_lt {U : List (Bool × Fm)} {s t : Sq} (hs : InU U s) (ht : InU U t) (sub : ∀ l f, f ∈ side l s → f ∈ side l t) (ne : s ≠ t) : miss U t < miss U s := by
  refine filter_lt (fun q hq => ?_) ?_
  · simp only [Bool.not_eq_true', decide_eq_false_iff_not] at hq ⊢
    exact fun z => hq (sub _ _ z)
  · have : ∃ l f, f ∈ side l t ∧ f ∉ side l s := by
      refine Classical.byContradiction fun no => ne ?_
      have all : ∀ l f, f ∈ side l t → f ∈ side l s := fun l f hf => Classical.byContradiction fun z => no ⟨l, f, hf, z⟩
      obtain ⟨s1, s2⟩ := s
      obtain ⟨t1, t2⟩ := t
      have e1 : s1 = t1 := hs.c1.ext ht.c1 fun f => ⟨sub true f, all true f⟩
      have e2 : s2 = t2 := hs.c2.ext ht.c2 fun f => ⟨sub false f, all false f⟩
      rw [e1, e2]
    obtain ⟨l, f, h1, h2⟩ := this
    exact ⟨(l, f), ht.mem l f h1, by simpa using h2, by simpa using h1⟩
mutual
/-- p is a proof of s -/
inductive Der : Sq → Pf → Prop
  | fls {s} : Fm.fls ∈ s.1 → Der s .fls
  | ax {s f} : f ∈ s.1 → f ∈ s.2 → Der s (.ax f)
  | node {s l o a b ps} : Fm.bin o a b ∈ side l s → DerAll (prem o l a b s) ps → Der s (.node l o a b ps)
inductive DerAll : List Sq → List Pf → Prop
  | nil : DerAll [] []
  | cons {s p ss ps} : Der s p → DerAll ss ps → DerAll (s :: ss) (p :: ps)
end
/-- the row of the letters on the left -/
def rowAt (s : Sq) : List Bool := [decide (Fm.lt 0 ∈ s.1), decide (Fm.lt 1 ∈ s.1), decide (Fm.lt 2 ∈ s.1), decide (Fm.lt 3 ∈ s.1)]
theorem rowAt_get {s : Sq} {n : Nat} (h : n < 4) : (rowAt s).getD n false = decide (Fm.lt n ∈ s.1) := by
  have : n = 0 ∨ n = 1 ∨ n = 2 ∨ n = 3 := by omega
  rcases this with rfl | rfl | rfl | rfl <;> rfl
theorem find_none {l : Bool} {s : Sq} {fs : List Fm} (h : fs.find? (leads l s) = none) {o : Op} {a b : Fm} (m : Fm.bin o a b ∈ fs) : s ∈ prem o l a b s := by
  have := List.find?_eq_none.mp h _ m
  simpa [leads] using this
theorem stepOf_none {s : Sq} (h : stepOf s = none) (l : Bool) {o : Op} {a b : Fm} (m : Fm.bin o a b ∈ side l s) : s ∈ prem o l a b s := by
  unfold stepOf at h
  cases h1 : s.1.find? (leads true s) with
  | some g => rw [h1] at h; cases h
  | none =>
    rw [h1] at h
    cases h2 : s.2.find? (leads false s) with
    | some g => rw [h2] at h; cases h
    | none =>
      cases l
      · exact find_none h2 m
      · exact find_none h1 m
/-- a full sequent that no rule leads on is refuted -/
theorem full_refuted {s : Sq} (h0 : Fm.fls ∉ s.1) (hx : ∀ f ∈ s.1, f ∉ s.2) (hst : stepOf s = none) : ∀ f : Fm, f.ok = true → ∀ l, f ∈ side l s → f.val (rowAt s) = l
  | .lt n, hf, l, m => by
    have hn : n < 4 := by simpa [Fm.ok] using hf
    rw [Fm.val, rowAt_get hn]
    cases l
    · exact decide_eq_false fun z => hx _ z m
    · exact decide_eq_true m
  | .fls, _, l, m => by
    cases l
    · rfl
    · exact absurd m h0
  | .bin o a b, hf, l, m => by
    simp only [Fm.ok, Bool.and_eq_true] at hf
    have ia := full_refuted h0 hx hst a hf.1
    have ib := full_refuted h0 hx hst b hf.2
    obtain ⟨p, hp, e⟩ := mem_prem_side (stepOf_none hst l m)
    obtain ⟨q1, q2⟩ := adds_sub hp
    refine (adds_sem o l a b _).mpr ⟨p, hp, fun x hx => ?_, fun y hy => ?_⟩
    · have : x ∈ side true s := by
        have z : x ∈ addAll s.1 p.1 := mem_addAll.mpr (.inr hx)
        have e1 : s.1 = addAll s.1 p.1 := congrArg Prod.fst e
        rw [← e1] at z
        exact z
      rcases q1 x hx with rfl | rfl
      · exact ia true this
      · exact ib true this
    · have : y ∈ side false s := by
        have z : y ∈ addAll s.2 p.2 := mem_addAll.mpr (.inr hy)
        have e1 : s.2 = addAll s.2 p.2 := congrArg Prod.snd e
        rw [← e1] at z
        exact z
      rcases q2 y hy with rfl | rfl
      · exact ia false this
      · exact ib false this
def srch : Nat → Sq → Option Pf
  | 0, s => searchOf (fun _ => none) s
  | n + 1, s => searchOf (srch n) s
/-- what is promised of an answer -/
structure Ans (n : Nat) (s : Sq) (res : Option Pf) : Prop where
  dep : (resD res).dep ≤ n + 11
  no : res = none → ∃ r, r.length = 4 ∧ Refutes r s
  yes : ∀ p, res = some p → Der s p
mutual
theorem pfs_dep {n : Nat} : ∀ {ps : List Pf}, (∀ p ∈ ps, (pfD p).dep ≤ n) → D.deps (pfDs ps) ≤ n
  | [], _ => Nat.zero_le _
  | p :: ps, h => by
    have h1 := h p List.mem_cons_self
    have h2 := pfs_dep fun q hq => h q (List.mem_cons_of_mem p hq)
    rw [pfDs, D.deps]
    omega
end
theorem search_ans {U : List (Bool × Fm)} {n : Nat} {s : Sq} {r : Sq → Option Pf} (hs : InU U s) (hd : ∀ q ∈ U, q.2.dp ≤ 8) (hok : ∀ q ∈ U, q.2.ok = true)
    (hr : ∀ l o a b, stepOf s = some (l, .bin o a b) → ∀ t ∈ prem o l a b s, ∃ m, m + 1 = n ∧ Ans m t (r t)) : Ans n s (searchOf r s) := by
  unfold searchOf
  by_cases c1 : Fm.fls ∈ s.1
  · rw [if_pos c1]
    exact ⟨by simp [resD, pfD, D.dep, D.deps], (fun h => by cases h), fun p h => by cases h; exact .fls c1⟩
  · rw [if_neg c1]
    cases hb : s.1.filter fun f => decide (f ∈ s.2) with
    | cons f fs =>
      have m : f ∈ s.1.filter fun f => decide (f ∈ s.2) := by rw [hb]; exact List.mem_cons_self
      rw [List.mem_filter] at m
      have m2 : f ∈ s.2 := by simpa using m.2
      have hf := hd _ (hs.mem true f m.1)
      exact ⟨by simp [resD, pfD, D.dep, D.deps]; simp only at hf; omega, (fun h => by cases h), fun p h => by cases h; exact .ax m.1 m2⟩
    | nil =>
      have hx : ∀ f ∈ s.1, f ∉ s.2 := fun f hf m2 => by
        have : f ∈ s.1.filter fun f => decide (f ∈ s.2) := List.mem_filter.mpr ⟨hf, by simpa using m2⟩
        rw [hb] at this
        cases this
      cases hst : stepOf s with
      | none => exact ⟨by simp [resD, D.dep], fun _ => ⟨rowAt s, rfl, refutes_side.mpr fun l f hf => full_refuted c1 hx hst f (hok _ (hs.mem l f hf)) l hf⟩, fun p h => by cases h⟩
      | some q =>
        obtain ⟨l, f⟩ := q
        obtain ⟨o, a, b, rfl, hm, hne⟩ := stepOf_some hst
        have hr' := hr l o a b hst
        show Ans n s (if noneIn ((prem o l a b s).map r) = true then none else some (.node l o a b (((prem o l a b s).map r).filterMap id)))
        cases hn : noneIn ((prem o l a b s).map r) with
        | true =>
          rw [if_pos rfl]
          refine ⟨by simp [resD, D.dep], fun _ => ?_, fun p h => by cases h⟩
          obtain ⟨x, hx1, hx2⟩ := List.any_eq_true.mp hn
          obtain ⟨t, ht, rfl⟩ := List.mem_map.mp hx1
          obtain ⟨m, _, an⟩ := hr' t ht
          obtain ⟨row, h4, hrow⟩ := an.no (Option.isNone_iff_eq_none.mp hx2)
          obtain ⟨p, hp, rfl⟩ := mem_prem_side ht
          exact ⟨row, h4, fun f hf => hrow.1 f (mem_addAll.mpr (.inl hf)), fun f hf => hrow.2 f (mem_addAll.mpr (.inl hf))⟩
        | false =>
          rw [if_neg (by simp)]
          have all : ∀ t ∈ prem o l a b s, ∃ p, r t = some p := fun t ht => by
            cases e : r t with
            | some p => exact ⟨p, rfl⟩
            | none =>
              have : noneIn ((prem o l a b s).map r) = true := List.any_eq_true.mpr ⟨r t, List.mem_map.mpr ⟨t, ht, rfl⟩, by rw [e]; rfl⟩
              rw [hn] at this
              cases this
          have ders : ∀ ts : List Sq, (∀ t ∈ ts, t ∈ prem o l a b s) → DerAll ts ((ts.map r).filterMap id) ∧ ∀ p ∈ (ts.map r).filterMap id, (pfD p).dep + 1 ≤ n + 11 := by
            intro ts
            induction ts with
            | nil => exact fun _ => ⟨.nil, fun p hp => by cases hp⟩
            | cons t ts ih =>
              intro hts
              obtain ⟨i1, i2⟩ := ih fun u hu => hts u (List.mem_cons_of_mem _ hu)
              obtain ⟨p, hp⟩ := all t (hts t List.mem_cons_self)
              obtain ⟨m, hm2, an⟩ := hr' t (hts t List.mem_cons_self)
              have e : ((t :: ts).map r).filterMap id = p :: (ts.map r).filterMap id := by simp [hp]
              rw [e]
              refine ⟨.cons (an.yes p hp) i1, fun q hq => ?_⟩
              rcases List.mem_cons.mp hq with z | z
              · subst z
                have := an.dep
                rw [hp] at this
                simp only [resD] at this
                omega
              · exact i2 q z
          obtain ⟨d1, d2⟩ := ders _ fun t ht => ht
          have hdb := hd _ (hs.mem l _ hm)
          refine ⟨?_, (fun h => by cases h), fun p h => by cases h; exact .node hm d1⟩
          have h2 := pfs_dep (n := n + 10) fun p hp => by have := d2 p hp; omega
          simp only [resD, pfD, D.dep, D.deps, enc_dep]
          simp only at hdb
          omega
/-- the whole search, level by level -/
theorem search_main {U : List (Bool × Fm)} (hU : Closed U) (hlen : U.length ≤ 48) (hd : ∀ q ∈ U, q.2.dp ≤ 8) (hok : ∀ q ∈ U, q.2.ok = true) {fS fP fT : Nat → F1} (hS : ∀ k, fS (k + 1) = fnF 8 (b_search (fP k) (fS k) (fT k)))
    (hP : ∀ k s, 2 ≤ k → SmallS s → SPrem (fP k) s) (hT : ∀ k s M, 3 ≤ k → SmallS s → fT k [seqD s] M = some (match stepOf s with | some (l, f) => stepD l f | none => .non, M)) :
    ∀ (n : Nat) (s : Sq), InU U s → miss U s ≤ n → n ≤ 46 → Ans n s (srch n s) ∧ ∀ k M, n + 4 ≤ k → fS k [seqD s] M = some (resD (srch n s), M) := by
  intro n
  have small : ∀ s, InU U s → SmallS s ∧ Flat s := fun s hs => by
    have l1 : s.1.length ≤ U.length := by
      have := nodup_len (s.1.map fun f => (true, f)) U (List.pairwise_map.mpr (hs.c1.1.imp fun h e => h (by cases e; rfl))) fun x hx => by
        obtain ⟨f, hf, rfl⟩ := List.mem_map.mp hx
        exact hs.mem true f hf
      simpa using this
    have l2 : s.2.length ≤ U.length := by
      have := nodup_len (s.2.map fun f => (false, f)) U (List.pairwise_map.mpr (hs.c2.1.imp fun h e => h (by cases e; rfl))) fun x hx => by
        obtain ⟨f, hf, rfl⟩ := List.mem_map.mp hx
        exact hs.mem false f hf
      simpa using this
    have d1 : ∀ f ∈ s.1, f.dp ≤ 8 := fun f hf => hd _ (hs.mem true f hf)
    have d2 : ∀ f ∈ s.2, f.dp ≤ 8 := fun f hf => hd _ (hs.mem false f hf)
    exact ⟨⟨by omega, by omega, d1, d2⟩, d1, d2⟩
  have lower : ∀ s, InU U s → ∀ l o a b, stepOf s = some (l, .bin o a b) → ∀ t ∈ prem o l a b s, InU U t ∧ miss U t < miss U s := fun s hs l o a b hst t ht => by
    obtain ⟨o', a', b', e, hm, hne⟩ := stepOf_some hst
    cases e
    obtain ⟨i1, i2⟩ := hs.prem hU hm ht
    exact ⟨i1, miss_lt hs i1 i2 fun e => hne (e ▸ ht)⟩
  induction n with
  | zero =>
    intro s hs hm _
    have no : ∀ l o a b, stepOf s = some (l, .bin o a b) → ∀ t ∈ prem o l a b s, False := fun l o a b hst t ht => by
      have := (lower s hs l o a b hst t ht).2
      omega
    refine ⟨search_ans hs hd hok fun l o a b hst t ht => (no l o a b hst t ht).elim, fun k M hk => ?_⟩
    obtain ⟨k, rfl⟩ : ∃ j, k = j + 1 := ⟨k - 1, by omega⟩
    rw [hS]
    exact ev_search (hP k s (by omega) (small s hs).1) (small s hs).2 (small s hs).1.l (hT k s M (by omega) (small s hs).1) fun l o a b hst t ht => (no l o a b hst t ht).elim
  | succ n ih =>
    intro s hs hm hn
    have step : ∀ l o a b, stepOf s = some (l, .bin o a b) → ∀ t ∈ prem o l a b s, Ans n t (srch n t) ∧ ∀ k M, n + 4 ≤ k → fS k [seqD t] M = some (resD (srch n t), M) := fun l o a b hst t ht => by
      obtain ⟨i1, i2⟩ := lower s hs l o a b hst t ht
      exact ih t i1 (by omega) (by omega)
    refine ⟨search_ans hs hd hok fun l o a b hst t ht => ⟨n, rfl, (step l o a b hst t ht).1⟩, fun k M hk => ?_⟩
    obtain ⟨k, rfl⟩ : ∃ j, k = j + 1 := ⟨k - 1, by omega⟩
    rw [hS]
    refine ev_search (hP k s (by omega) (small s hs).1) (small s hs).2 (small s hs).1.l (hT k s M (by omega) (small s hs).1) fun l o a b hst t ht => ?_
    obtain ⟨i1, i2⟩ := step l o a b hst t ht
    exact ⟨i2 k M (by omega), by have := i1.dep; omega⟩
end Law

set_option Elab.async false
set_option linter.all false
set_option maxRecDepth 100000
/-! Interpolants: what interpolants.py computes. -/
namespace Law
open PySem PySem.Spec G

def tru0 : Fm := .bin .imp .fls .fls
@[simp] theorem g_TRUE_t : g_TRUE = enc tru0 := rfl
theorem tru0_dp : tru0.dp = 2 := rfl
theorem ev_eq_enc {f g : Fm} {M : Mo} (hf : f.dp ≤ 64) (hg : g.dp ≤ 64) : eqF [enc f, enc g] M = some (.bl (decide (f = g)), M) := by
  rw [ev_eq (enc_dat f) (enc_dat g) (by rw [enc_dep]; exact hf) (by rw [enc_dep]; exact hg)]
  simp
def eitherF (a b : Fm) : Fm := if a = tru0 ∨ b = tru0 then tru0 else if a = .fls ∨ a = b then b else if b = .fls then a else .bin .or a b
def bothF (a b : Fm) : Fm := if a = .fls ∨ b = .fls then .fls else if a = tru0 ∨ a = b then b else if b = tru0 then a else .bin .and a b
def turnedF (a : Fm) : Fm := if a = .fls then tru0 else if a = tru0 then .fls else .bin .imp a .fls
theorem enc_bin (o : Op) (a b : Fm) : D.tup [.str o.w, enc a, enc b] = enc (.bin o a b) := rfl
theorem ev_either {a b : Fm} {M : Mo} (ha : a.dp ≤ 60) (hb : b.dp ≤ 60) : fnF 2 b_either [enc a, enc b] M = some (enc (eitherF a b), M) := by
  have e1 := fun M => ev_eq_enc (f := a) (g := tru0) (M := M) (by omega) (by rw [tru0_dp]; omega)
  have e2 := fun M => ev_eq_enc (f := b) (g := tru0) (M := M) (by omega) (by rw [tru0_dp]; omega)
  have e3 := fun M => ev_eq_enc (f := a) (g := .fls) (M := M) (by omega) (by simp [Fm.dp])
  have e4 := fun M => ev_eq_enc (f := a) (g := b) (M := M) (by omega) (by omega)
  have e5 := fun M => ev_eq_enc (f := b) (g := .fls) (M := M) (by omega) (by simp [Fm.dp])
  unfold eitherF
  by_cases c1 : a = tru0
  · subst c1; simp [fnF, b_either, e1]
  by_cases c2 : b = tru0
  · subst c2; simp [fnF, b_either, e1, e2, c1]
  by_cases c3 : a = .fls
  · subst c3; simp [fnF, b_either, e1, e2, e3, c1, c2]
  by_cases c4 : a = b
  · subst c4; simp [fnF, b_either, e1, e2, e3, e4, c1, c2, c3]
  by_cases c5 : b = .fls
  · subst c5; simp [fnF, b_either, e1, e2, e3, e4, e5, c1, c2, c3, c4]
  · simp [fnF, b_either, e1, e2, e3, e4, e5, c1, c2, c3, c4, c5]
    exact enc_bin .or a b
theorem ev_both {a b : Fm} {M : Mo} (ha : a.dp ≤ 60) (hb : b.dp ≤ 60) : fnF 2 b_both [enc a, enc b] M = some (enc (bothF a b), M) := by
  have e1 := fun M => ev_eq_enc (f := a) (g := .fls) (M := M) (by omega) (by simp [Fm.dp])
  have e2 := fun M => ev_eq_enc (f := b) (g := .fls) (M := M) (by omega) (by simp [Fm.dp])
  have e3 := fun M => ev_eq_enc (f := a) (g := tru0) (M := M) (by omega) (by rw [tru0_dp]; omega)
  have e4 := fun M => ev_eq_enc (f := a) (g := b) (M := M) (by omega) (by omega)
  have e5 := fun M => ev_eq_enc (f := b) (g := tru0) (M := M) (by omega) (by rw [tru0_dp]; omega)
  unfold bothF
  by_cases c1 : a = .fls
  · subst c1; simp [fnF, b_both, e1]
  by_cases c2 : b = .fls
  · subst c2; simp [fnF, b_both, e1, e2, c1]
  by_cases c3 : a = tru0
  · subst c3; simp [fnF, b_both, e1, e2, e3, c1, c2]
  by_cases c4 : a = b
  · subst c4; simp [fnF, b_both, e1, e2, e3, e4, c1, c2, c3]
  by_cases c5 : b = tru0
  · subst c5; simp [fnF, b_both, e1, e2, e3, e4, e5, c1, c2, c3, c4]
  · simp [fnF, b_both, e1, e2, e3, e4, e5, c1, c2, c3, c4, c5]
    exact enc_bin .and a b
theorem ev_contrary (f : Fm) (M : Mo) : fnF 1 b_contrary [enc f] M = some (enc (.bin .imp f .fls), M) := by
  simp [fnF, b_contrary]
  exact enc_bin .imp f .fls
theorem ev_turned {fc : F1} (hc : ∀ f M, fc [enc f] M = some (enc (.bin .imp f .fls), M)) {a : Fm} {M : Mo} (ha : a.dp ≤ 60) : fnF 1 (b_turned fc) [enc a] M = some (enc (turnedF a), M) := by
  have e1 := fun M => ev_eq_enc (f := a) (g := .fls) (M := M) (by omega) (by simp [Fm.dp])
  have e3 := fun M => ev_eq_enc (f := a) (g := tru0) (M := M) (by omega) (by rw [tru0_dp]; omega)
  unfold turnedF
  by_cases c1 : a = .fls
  · subst c1; simp [fnF, b_turned, e1]
  by_cases c2 : a = tru0
  · subst c2; simp [fnF, b_turned, e1, e3, c1]
  · simp [fnF, b_turned, e1, e3, c1, c2, hc]

/-! ### the two halves -/
structure Prt where
  l0 : List Fm
  l1 : List Fm
  r0 : List Fm
  r1 : List Fm
def setD (s : List Fm) : D := .tup (s.map enc)
def prtO (p : Prt) : MO := .ins 0 [("left", .tup [setD p.l0, setD p.l1]), ("right", .tup [setD p.r0, setD p.r1])]
@[simp] theorem ofString_beq (a b : String) : (Str.ofString a == Str.ofString b) = decide (a = b) := by
  by_cases h : a = b
  · subst h; simp
  · have : ¬ Str.ofString a = Str.ofString b := by simpa using h
    simp [h, this]
@[simp] theorem look_left (p : Prt) : List.lookup (Str.ofString "left") [(Str.ofString "left", D.tup [setD p.l0, setD p.l1]), (Str.ofString "right", D.tup [setD p.r0, setD p.r1])] = some (D.tup [setD p.l0, setD p.l1]) := by
  simp [List.lookup]
@[simp] theorem look_right (p : Prt) : List.lookup (Str.ofString "right") [(Str.ofString "left", D.tup [setD p.l0, setD p.l1]), (Str.ofString "right", D.tup [setD p.r0, setD p.r1])] = some (D.tup [setD p.r0, setD p.r1]) := by
  simp [List.lookup]
@[simp] theorem look_half (p : Prt) : List.lookup (Str.ofString "half_of") [(Str.ofString "left", D.tup [setD p.l0, setD p.l1]), (Str.ofString "right", D.tup [setD p.r0, setD p.r1])] = none := by
  simp [List.lookup]
@[simp] theorem look_more (p : Prt) : List.lookup (Str.ofString "more") [(Str.ofString "left", D.tup [setD p.l0, setD p.l1]), (Str.ofString "right", D.tup [setD p.r0, setD p.r1])] = none := by
  simp [List.lookup]
def half0 (p : Prt) (l : Bool) : List Fm := if l then p.l0 else p.r0
def halfOf (p : Prt) (l : Bool) (f : Fm) : Bool := !decide (f ∈ half0 p l)
structure PrtOk (p : Prt) : Prop where
  l0 : p.l0.length < 60 ∧ ∀ f ∈ p.l0, f.dp ≤ 8
  l1 : p.l1.length < 60 ∧ ∀ f ∈ p.l1, f.dp ≤ 8
  r0 : p.r0.length < 60 ∧ ∀ f ∈ p.r0, f.dp ≤ 8
  r1 : p.r1.length < 60 ∧ ∀ f ∈ p.r1, f.dp ≤ 8
theorem ev_half {M : Mo} {n : Nat} {p : Prt} (hM : M[n]? = some (prtO p)) (ok : PrtOk p) (l : Bool) (f : Fm) (hf : f.dp ≤ 8) : fnF 4 b_Parted_half_of [.ref n, .str (Str.ofString (sw l)), enc f] M = some (I (halfOf p l f), M) := by
  have e1 := ev_in_enc (f := f) (fs := p.l0) (M := M) (by omega) (fun g hg => by have := ok.l0.2 g hg; omega)
  have e2 := ev_in_enc (f := f) (fs := p.r0) (M := M) (by omega) (fun g hg => by have := ok.r0.2 g hg; omega)
  unfold prtO at hM
  cases l
  · by_cases c : f ∈ p.r0 <;> simp [fnF, b_Parted_half_of, sw, hM, halfOf, half0, setD, e2, c, b2i, List.lookup]
  · by_cases c : f ∈ p.l0 <;> simp [fnF, b_Parted_half_of, sw, hM, halfOf, half0, setD, e1, c, b2i, List.lookup]
theorem exit_len {M M' : Mo} {d : D} (h : M'.length ≤ M.length) : exitF M d M' = (d, M') := by
  unfold exitF
  rw [if_pos h]
theorem ev_init {M : Mo} {n : Nat} {a b : D} (hM : M[n]? = some (.ins 0 [])) : fnF 3 b_Parted___init__ [.ref n, a, b] M = some (.non, M.set n (.ins 0 [("left", a), ("right", b)])) := by
  have hl := (List.getElem?_eq_some_iff.mp hM).1
  have h2 : ∀ x : MO, (M.set n x)[n]? = some x := fun x => by rw [List.getElem?_set_self hl]
  simp [fnF, b_Parted___init__, hM, h2, putD, exit_len]
end Law

set_option Elab.async false
set_option linter.all false
set_option maxRecDepth 100000
/-! Interpolants: the parted sequents above a step. -/
namespace Law
open PySem PySem.Spec G

/-! ### the store's end -/
@[simp] theorem get_app0 (M : Mo) (a : MO) (r : Mo) : (M ++ a :: r)[M.length]? = some a := by simp
@[simp] theorem get_app1 (M : Mo) (a b : MO) (r : Mo) : (M ++ a :: b :: r)[M.length + 1]? = some b := by
  rw [List.getElem?_append_right (by omega)]; simp
@[simp] theorem get_app2 (M : Mo) (a b c : MO) (r : Mo) : (M ++ a :: b :: c :: r)[M.length + 2]? = some c := by
  rw [List.getElem?_append_right (by omega)]; simp
@[simp] theorem set_app0 (M : Mo) (a x : MO) (r : Mo) : (M ++ a :: r).set M.length x = M ++ x :: r := by
  rw [List.set_append_right _ _ (by omega)]; simp
@[simp] theorem set_app1 (M : Mo) (a b x : MO) (r : Mo) : (M ++ a :: b :: r).set (M.length + 1) x = M ++ a :: x :: r := by
  rw [List.set_append_right _ _ (by omega)]; simp
@[simp] theorem set_app2 (M : Mo) (a b c x : MO) (r : Mo) : (M ++ a :: b :: c :: r).set (M.length + 2) x = M ++ a :: b :: x :: r := by
  rw [List.set_append_right _ _ (by omega)]; simp
theorem get_old {M : Mo} {n : Nat} {x : MO} (h : M[n]? = some x) (r : Mo) : (M ++ r)[n]? = some x := by
  rw [List.getElem?_append_left (List.getElem?_eq_some_iff.mp h).1]; exact h
@[simp] theorem ev_listM_tup (ds : List D) (M : Mo) : listM [.tup ds] M = some (.ref M.length, M ++ [.lst ds]) := rfl
theorem ev_at_ref {M : Mo} {k i : Nat} {es : List D} {e : D} (h : M[k]? = some (.lst es)) (h2 : es[i]? = some e) : atF [.ref k, .int (i : Int)] M = some (e, M) :=
  ev_at (t := false) (by show (match M[k]? with | some (.lst ds) => some (false, ds) | _ => none) = _; rw [h]) h2
theorem ev_at_ref0 {M : Mo} {k : Nat} {a : D} {r : List D} (h : M[k]? = some (.lst (a :: r))) : atF [.ref k, .int 0] M = some (a, M) := ev_at_ref (i := 0) h rfl
theorem ev_at_ref1 {M : Mo} {k : Nat} {a b : D} {r : List D} (h : M[k]? = some (.lst (a :: b :: r))) : atF [.ref k, .int 1] M = some (b, M) := ev_at_ref (i := 1) h rfl
theorem ev_tup_ref {M : Mo} {k : Nat} {es : List D} (h : M[k]? = some (.lst es)) : tupleF [.ref k] M = some (.tup es, M) := by
  unfold tupleF
  simp only [seqOf, h]
theorem ix0 (n : Nat) : L2.ixN (n + 1) 0 = some 0 := by
  unfold L2.ixN
  rw [if_pos (by omega), if_pos (by omega)]
  rfl
theorem ix1 (n : Nat) : L2.ixN (n + 1 + 1) 1 = some 1 := by
  unfold L2.ixN
  rw [if_pos (by omega), if_pos (by omega)]
  rfl
theorem ev_setL0 {M : Mo} {k : Nat} {a v : D} {r : List D} (h : M[k]? = some (.lst (a :: r))) : setL (.ref k) (.int 0) v M = some (M.set k (.lst (v :: r))) := by
  unfold setL
  simp only [h, List.length_cons, ix0, List.set_cons_zero]
theorem ev_setL1 {M : Mo} {k : Nat} {a b v : D} {r : List D} (h : M[k]? = some (.lst (a :: b :: r))) : setL (.ref k) (.int 1) v M = some (M.set k (.lst (a :: v :: r))) := by
  unfold setL
  simp only [h, List.length_cons, ix1, List.set_cons_succ, List.set_cons_zero]
@[simp] theorem st_at0 (M r' : Mo) (a b : D) (r : List D) : atF [.ref M.length, .int 0] (M ++ .lst (a :: b :: r) :: r') = some (a, M ++ .lst (a :: b :: r) :: r') := ev_at_ref0 (get_app0 M _ r')
@[simp] theorem st_at1 (M r' : Mo) (a b : D) (r : List D) : atF [.ref M.length, .int 1] (M ++ .lst (a :: b :: r) :: r') = some (b, M ++ .lst (a :: b :: r) :: r') := ev_at_ref1 (get_app0 M _ r')
@[simp] theorem st_at2 (M r' : Mo) (z : MO) (a b : D) (r : List D) : atF [.ref (M.length + 1), .int 0] (M ++ z :: .lst (a :: b :: r) :: r') = some (a, M ++ z :: .lst (a :: b :: r) :: r') := ev_at_ref0 (get_app1 M z _ r')
@[simp] theorem st_at3 (M r' : Mo) (z : MO) (a b : D) (r : List D) : atF [.ref (M.length + 1), .int 1] (M ++ z :: .lst (a :: b :: r) :: r') = some (b, M ++ z :: .lst (a :: b :: r) :: r') := ev_at_ref1 (get_app1 M z _ r')
@[simp] theorem st_set0 (M r' : Mo) (a b v : D) (r : List D) : setL (.ref M.length) (.int 0) v (M ++ .lst (a :: b :: r) :: r') = some (M ++ .lst (v :: b :: r) :: r') := by rw [ev_setL0 (get_app0 M _ r'), set_app0]
@[simp] theorem st_set1 (M r' : Mo) (a b v : D) (r : List D) : setL (.ref M.length) (.int 1) v (M ++ .lst (a :: b :: r) :: r') = some (M ++ .lst (a :: v :: r) :: r') := by rw [ev_setL1 (get_app0 M _ r'), set_app0]
@[simp] theorem st_set2 (M r' : Mo) (z : MO) (a b v : D) (r : List D) : setL (.ref (M.length + 1)) (.int 0) v (M ++ z :: .lst (a :: b :: r) :: r') = some (M ++ z :: .lst (v :: b :: r) :: r') := by rw [ev_setL0 (get_app1 M z _ r'), set_app1]
@[simp] theorem st_set3 (M r' : Mo) (z : MO) (a b v : D) (r : List D) : setL (.ref (M.length + 1)) (.int 1) v (M ++ z :: .lst (a :: b :: r) :: r') = some (M ++ z :: .lst (a :: v :: r) :: r') := by rw [ev_setL1 (get_app1 M z _ r'), set_app1]
@[simp] theorem st_tup0 (M r' : Mo) (es : List D) : tupleF [.ref M.length] (M ++ .lst es :: r') = some (.tup es, M ++ .lst es :: r') := ev_tup_ref (get_app0 M _ r')
@[simp] theorem st_tup1 (M r' : Mo) (z : MO) (es : List D) : tupleF [.ref (M.length + 1)] (M ++ z :: .lst es :: r') = some (.tup es, M ++ z :: .lst es :: r') := ev_tup_ref (get_app1 M z _ r')
def addP (p : Prt) (h : Bool) (q : List Fm × List Fm) : Prt := if h then { p with l1 := addAll p.l1 q.1, r1 := addAll p.r1 q.2 } else { p with l0 := addAll p.l0 q.1, r0 := addAll p.r0 q.2 }
def SInit (fi : F1) : Prop := ∀ n a b M, M[n]? = some (.ins 0 []) → fi [.ref n, a, b] M = some (.non, M.set n (.ins 0 [("left", a), ("right", b)]))
theorem sp_with {fw : F1} (hw : SWith fw) {s : List Fm} {f : Fm} (M : Mo) (h1 : s.length < 62 ∧ ∀ g ∈ s, g.dp ≤ 8) (h2 : f.dp ≤ 8) : fw [setD s, enc f] M = some (setD (wOne s f), M) ∧ ((wOne s f).length ≤ s.length + 1 ∧ ∀ g ∈ wOne s f, g.dp ≤ 8) := by
  refine ⟨hw s f M ⟨by omega, h1.2⟩ h2, wOne_len s f, fun g hg => ?_⟩
  rcases mem_wOne.mp hg with h | h
  · exact h1.2 g h
  · rw [h]; exact h2
theorem ev_more {fi fw : F1} (hi : SInit fi) (hw : SWith fw) {M : Mo} {n : Nat} {p : Prt} (hM : M[n]? = some (prtO p)) (ok : PrtOk p) (h : Bool) {o : Op} {l : Bool} {a b : Fm} {q : List Fm × List Fm} (hq : q ∈ adds o l a b) (ha : a.dp ≤ 8) (hb : b.dp ≤ 8) :
    ∃ x y, fnF 7 (b_Parted_more fi fw) [.ref n, I h, .lst (q.1.map enc), .lst (q.2.map enc)] M = some (.ref (M.length + 2), M ++ [x, y, prtO (addP p h q)]) := by
  have hl := (List.getElem?_eq_some_iff.mp hM).1
  have go := fun r => get_old hM r
  unfold prtO at hM go
  obtain ⟨k0, k1, k2, k3⟩ := ok
  have A0 := fun M => sp_with hw M (s := p.l0) (f := a) ⟨by omega, k0.2⟩ ha
  have A1 := fun M => sp_with hw M (s := p.l1) (f := a) ⟨by omega, k1.2⟩ ha
  have B0 := fun M => sp_with hw M (s := p.l0) (f := b) ⟨by omega, k0.2⟩ hb
  have B1 := fun M => sp_with hw M (s := p.l1) (f := b) ⟨by omega, k1.2⟩ hb
  have C0 := fun M => sp_with hw M (s := p.r0) (f := a) ⟨by omega, k2.2⟩ ha
  have C1 := fun M => sp_with hw M (s := p.r1) (f := a) ⟨by omega, k3.2⟩ ha
  have D0 := fun M => sp_with hw M (s := p.r0) (f := b) ⟨by omega, k2.2⟩ hb
  have D1 := fun M => sp_with hw M (s := p.r1) (f := b) ⟨by omega, k3.2⟩ hb
  have AB0 := fun M => (sp_with hw M (s := wOne p.l0 a) (f := b) ⟨by have := (A0 M).2.1; omega, (A0 M).2.2⟩ hb).1
  have AB1 := fun M => (sp_with hw M (s := wOne p.l1 a) (f := b) ⟨by have := (A1 M).2.1; omega, (A1 M).2.2⟩ hb).1
  have CD0 := fun M => (sp_with hw M (s := wOne p.r0 a) (f := b) ⟨by have := (C0 M).2.1; omega, (C0 M).2.2⟩ hb).1
  have CD1 := fun M => (sp_with hw M (s := wOne p.r1 a) (f := b) ⟨by have := (C1 M).2.1; omega, (C1 M).2.2⟩ hb).1
  have A0 := fun M => (A0 M).1
  have A1 := fun M => (A1 M).1
  have B0 := fun M => (B0 M).1
  have B1 := fun M => (B1 M).1
  have C0 := fun M => (C0 M).1
  have C1 := fun M => (C1 M).1
  have D0 := fun M => (D0 M).1
  have D1 := fun M => (D1 M).1
  have init : ∀ (x y : MO) (u v : D), fi [.ref (M.length + 2), u, v] (M ++ [x, y, .ins 0 []]) = some (.non, M ++ [x, y, .ins 0 [("left", u), ("right", v)]]) := fun x y u v => by
    rw [hi _ _ _ _ (get_app2 M x y _ []), set_app2]
  have nk : exitF M (.ref (M.length + 2)) = fun M' => exitF M (.ref (M.length + 2)) M' := rfl
  have ex : ∀ (x y : MO) (fs : List (Str × D)), exitF M (.ref (M.length + 2)) (M ++ [x, y, .ins 0 fs]) = (.ref (M.length + 2), M ++ [x, y, .ins 0 fs]) := fun x y fs => by
    unfold exitF
    rw [if_neg (by simp), if_pos (okT_self _ M _), if_neg (by simp [D.closed])]
    simp
  have cases5 : (q = ([a, b], []) ∨ q = ([], [a, b])) ∨ (q = ([a], [b]) ∨ q = ([], [a])) ∨ ((q = ([a], []) ∨ q = ([b], [])) ∨ q = ([], [b])) := by
    cases o <;> cases l <;> simp [adds] at hq <;> (try rcases hq with hq | hq) <;> simp_all
  cases h
  · show ∃ x y, fnF 7 (b_Parted_more fi fw) [.ref n, .int 0, .lst (q.1.map enc), .lst (q.2.map enc)] M = _
    rcases cases5 with (e | e) | (e | e) | ((e | e) | e) <;> subst e <;>
      simp [fnF, b_Parted_more, hM, go, List.lookup, for_cons, b2i, addP, addAll, A0, A1, B0, B1, C0, C1, D0, D1, AB0, AB1, CD0, CD1, init, ex, prtO]
  · show ∃ x y, fnF 7 (b_Parted_more fi fw) [.ref n, .int 1, .lst (q.1.map enc), .lst (q.2.map enc)] M = _
    rcases cases5 with (e | e) | (e | e) | ((e | e) | e) <;> subst e <;>
      simp [fnF, b_Parted_more, hM, go, List.lookup, for_cons, b2i, addP, addAll, A0, A1, B0, B1, C0, C1, D0, D1, AB0, AB1, CD0, CD1, init, ex, prtO]
end Law

set_option Elab.async false
set_option linter.all false
set_option maxRecDepth 100000
/-! Interpolants: uppers_of, axiom_between, between. -/
namespace Law
open PySem PySem.Spec G

def half1 (p : Prt) (l : Bool) : List Fm := if l then p.l1 else p.r1
/-- each k holds its parted sequent -/
inductive Holds (M : Mo) : List Nat → List Prt → Prop
  | nil : Holds M [] []
  | cons {k ks q qs} : M[k]? = some (prtO q) → Holds M ks qs → Holds M (k :: ks) (q :: qs)
def SMore (fm : F1) (p : Prt) : Prop := ∀ (M : Mo) (n : Nat) (h : Bool) (o : Op) (l : Bool) (a b : Fm) (q : List Fm × List Fm), M[n]? = some (prtO p) → q ∈ adds o l a b → a.dp ≤ 8 → b.dp ≤ 8 →
  ∃ x y, fm [.ref n, I h, .lst (q.1.map enc), .lst (q.2.map enc)] M = some (.ref (M.length + 2), M ++ [x, y, prtO (addP p h q)])
theorem exit_refs1 (M E : Mo) (i : Nat) : exitF M (.lst [.ref (M.length + i)]) (M ++ E) = (.lst [.ref (M.length + i)], M ++ E) := by
  unfold exitF
  by_cases h : (M ++ E).length ≤ M.length
  · rw [if_pos h]
  · rw [if_neg h, if_pos (okT_self _ M E), if_neg (by simp [D.closed, D.closeds])]
theorem exit_refs2 (M E : Mo) (i j : Nat) : exitF M (.lst [.ref (M.length + i), .ref (M.length + j)]) (M ++ E) = (.lst [.ref (M.length + i), .ref (M.length + j)], M ++ E) := by
  unfold exitF
  by_cases h : (M ++ E).length ≤ M.length
  · rw [if_pos h]
  · rw [if_neg h, if_pos (okT_self _ M E), if_neg (by simp [D.closed, D.closeds])]
theorem ev_uppers {fm : F1} {p : Prt} (hm : SMore fm p) {M : Mo} {n : Nat} (hM : M[n]? = some (prtO p)) (h : Bool) (o : Op) (l : Bool) (a b : Fm) (ps : List Pf) (ha : a.dp ≤ 8) (hb : b.dp ≤ 8) :
    ∃ ks E, fnF 6 (b_uppers_of fm) [.ref n, pfD (.node l o a b ps), I h] M = some (.lst (ks.map .ref), M ++ E) ∧ Holds (M ++ E) ks ((adds o l a b).map (addP p h)) ∧ ks.length = (adds o l a b).length := by
  have lm : ∀ E : Mo, (M ++ E)[n]? = some (prtO p) := fun E => get_old hM E
  have look : List.lookup (Str.ofString "more") [(Str.ofString "left", D.tup [setD p.l0, setD p.l1]), (Str.ofString "right", D.tup [setD p.r0, setD p.r1])] = none := look_more p
  have one : ∀ q : List Fm × List Fm, adds o l a b = [q] → ∃ x y, fm [.ref n, I h, .lst (q.1.map enc), .lst (q.2.map enc)] M = some (.ref (M.length + 2), M ++ [x, y, prtO (addP p h q)]) := fun q e => hm M n h o l a b q hM (by rw [e]; exact List.mem_cons_self) ha hb
  have two : ∀ q r : List Fm × List Fm, adds o l a b = [q, r] → ∃ x y z w, fm [.ref n, I h, .lst (q.1.map enc), .lst (q.2.map enc)] M = some (.ref (M.length + 2), M ++ [x, y, prtO (addP p h q)]) ∧
      fm [.ref n, I h, .lst (r.1.map enc), .lst (r.2.map enc)] (M ++ [x, y, prtO (addP p h q)]) = some (.ref (M.length + 5), M ++ [x, y, prtO (addP p h q), z, w, prtO (addP p h r)]) := fun q r e => by
    obtain ⟨x, y, e1⟩ := hm M n h o l a b q hM (by rw [e]; exact List.mem_cons_self) ha hb
    obtain ⟨z, w, e2⟩ := hm (M ++ [x, y, prtO (addP p h q)]) n h o l a b r (lm _) (by rw [e]; exact List.mem_cons_of_mem _ List.mem_cons_self) ha hb
    refine ⟨x, y, z, w, e1, ?_⟩
    rw [e2]
    simp
  have fin1 : ∀ (q : List Fm × List Fm) (x y : MO), adds o l a b = [q] → fnF 6 (b_uppers_of fm) [.ref n, pfD (.node l o a b ps), I h] M = some (.lst [.ref (M.length + 2)], M ++ [x, y, prtO (addP p h q)]) →
      ∃ ks E, fnF 6 (b_uppers_of fm) [.ref n, pfD (.node l o a b ps), I h] M = some (.lst (ks.map .ref), M ++ E) ∧ Holds (M ++ E) ks ((adds o l a b).map (addP p h)) ∧ ks.length = (adds o l a b).length := fun q x y e e2 => by
    refine ⟨[M.length + 2], [x, y, prtO (addP p h q)], e2, ?_, by rw [e]; rfl⟩
    rw [e]
    exact .cons (get_app2 M x y _ []) .nil
  have fin2 : ∀ (q r : List Fm × List Fm) (x y z w : MO), adds o l a b = [q, r] → fnF 6 (b_uppers_of fm) [.ref n, pfD (.node l o a b ps), I h] M = some (.lst [.ref (M.length + 2), .ref (M.length + 5)], M ++ [x, y, prtO (addP p h q), z, w, prtO (addP p h r)]) →
      ∃ ks E, fnF 6 (b_uppers_of fm) [.ref n, pfD (.node l o a b ps), I h] M = some (.lst (ks.map .ref), M ++ E) ∧ Holds (M ++ E) ks ((adds o l a b).map (addP p h)) ∧ ks.length = (adds o l a b).length := fun q r x y z w e e2 => by
    refine ⟨[M.length + 2, M.length + 5], [x, y, prtO (addP p h q), z, w, prtO (addP p h r)], e2, ?_, by rw [e]; rfl⟩
    rw [e]
    exact .cons (get_app2 M x y _ _) (.cons (by rw [List.getElem?_append_right (by omega)]; simp) .nil)
  have pD : pfD (.node l o a b ps) = .tup (.str (Str.ofString (o.wd l)) :: enc (.bin o a b) :: pfDs ps) := by rw [pfD]
  have ex1 := exit_refs1 M
  have ex2 := exit_refs2 M
  unfold prtO at hM lm
  cases o <;> cases l
  · obtain ⟨x, y, e⟩ := one ([a], [b]) rfl
    refine fin1 _ x y rfl ?_
    simp only [List.map_cons, List.map_nil] at e
    rw [pD]
    simp [fnF, b_uppers_of, Op.wd, hM, look, e, ex1]
  · obtain ⟨x, y, z, w, e, e2⟩ := two ([], [a]) ([b], []) rfl
    refine fin2 _ _ x y z w rfl ?_
    simp only [List.map_cons, List.map_nil] at e e2
    rw [pD]
    simp [fnF, b_uppers_of, Op.wd, hM, lm, look, e, e2, ex2]
  · obtain ⟨x, y, z, w, e, e2⟩ := two ([], [a]) ([], [b]) rfl
    refine fin2 _ _ x y z w rfl ?_
    simp only [List.map_cons, List.map_nil] at e e2
    rw [pD]
    simp [fnF, b_uppers_of, Op.wd, hM, lm, look, e, e2, ex2]
  · obtain ⟨x, y, e⟩ := one ([a, b], []) rfl
    refine fin1 _ x y rfl ?_
    simp only [List.map_cons, List.map_nil] at e
    rw [pD]
    simp [fnF, b_uppers_of, Op.wd, hM, look, e, ex1]
  · obtain ⟨x, y, e⟩ := one ([], [a, b]) rfl
    refine fin1 _ x y rfl ?_
    simp only [List.map_cons, List.map_nil] at e
    rw [pD]
    simp [fnF, b_uppers_of, Op.wd, hM, look, e, ex1]
  · obtain ⟨x, y, z, w, e, e2⟩ := two ([a], []) ([b], []) rfl
    refine fin2 _ _ x y z w rfl ?_
    simp only [List.map_cons, List.map_nil] at e e2
    rw [pD]
    simp [fnF, b_uppers_of, Op.wd, hM, lm, look, e, e2, ex2]
/-- between, at an axiom -/
def axF (p : Prt) (f : Fm) : Fm := if halfOf p true f = halfOf p false f then (if halfOf p true f = false then .fls else tru0) else if halfOf p true f = false then f else turnedF f
def SHalf (fh : F1) (p : Prt) : Prop := ∀ (M : Mo) (n : Nat) (l : Bool) (f : Fm), M[n]? = some (prtO p) → f.dp ≤ 8 → fh [.ref n, .str (Str.ofString (sw l)), enc f] M = some (I (halfOf p l f), M)
theorem ev_axiom {fh ft : F1} {p : Prt} (hh : SHalf fh p) (ht : ∀ f M, Fm.dp f ≤ 60 → ft [enc f] M = some (enc (turnedF f), M)) {M : Mo} {n : Nat} (hM : M[n]? = some (prtO p)) (f : Fm) (hf : f.dp ≤ 8) :
    fnF 4 (b_axiom_between fh ft) [.ref n, enc f] M = some (enc (axF p f), M) := by
  have e1 := hh M n true f hM hf
  have e2 := hh M n false f hM hf
  have e3 := fun M => ht f M (by omega)
  have look : List.lookup (Str.ofString "half_of") [(Str.ofString "left", D.tup [setD p.l0, setD p.l1]), (Str.ofString "right", D.tup [setD p.r0, setD p.r1])] = none := look_half p
  unfold prtO at hM
  simp only [sw] at e1 e2
  unfold axF
  cases h1 : halfOf p true f <;> cases h2 : halfOf p false f <;> rw [h1] at e1 <;> rw [h2] at e2 <;> simp [fnF, b_axiom_between, hM, look, e1, e2, e3, b2i]
end Law

set_option Elab.async false
set_option linter.all false
set_option maxRecDepth 100000
/-! Interpolants: between, and what it means. -/
namespace Law
open PySem PySem.Spec G

def joinB (h : Bool) : List Fm → Fm
  | [x] => x
  | [x, y] => if h = false then eitherF x y else bothF x y
  | _ => .fls
mutual
def betF : Pf → Prt → Fm
  | .fls, q => if Fm.fls ∈ q.l0 then .fls else tru0
  | .ax f, q => axF q f
  | .node l o a b ps, q => joinB (halfOf q l (.bin o a b)) (betFs ps ((adds o l a b).map (addP q (halfOf q l (.bin o a b)))))
def betFs : List Pf → List Prt → List Fm
  | p :: ps, q :: qs => betF p q :: betFs ps qs
  | _, _ => []
end
@[simp] theorem seq_tup (M : Mo) (es : List D) : seqOf M (.tup es) = some (true, es) := rfl
@[simp] theorem seq_lst (M : Mo) (es : List D) : seqOf M (.lst es) = some (false, es) := rfl
theorem len_one {α : Type} {l : List α} (h : l.length = 0 + 1) : ∃ x, l = [x] := match l, h with | [x], _ => ⟨x, rfl⟩
theorem len_two {α : Type} {l : List α} (h : l.length = 0 + 1 + 1) : ∃ x y, l = [x, y] := match l, h with | [x, y], _ => ⟨x, y, rfl⟩
theorem cut2 (x y : D) (r : List D) : cutD (x :: y :: r) (some 2) none = r := by
  unfold cutD
  rw [HT.sIx_none]
  have : HT.sIx (x :: y :: r).length 0 (some 2) = 2 := by
    rw [show (some (2 : Int)) = some ((2 : Nat) : Int) from rfl, HT.sIx_nat]
    simp
  rw [this]
  simp
theorem zip_refs : ∀ (ks : List Nat) (ps : List Pf), zipD (ks.map D.ref) (pfDs ps) = (ks.zip ps).map fun p => D.tup [.ref p.1, pfD p.2]
  | [], _ => by simp [zipD]
  | k :: ks, [] => by simp [zipD, pfDs]
  | k :: ks, p :: ps => by
    have := zip_refs ks ps
    unfold zipD at this
    simp only [zipD, pfDs, List.map_cons, List.zip_cons_cons, this]
theorem enc_closed (n : Nat) : ∀ f : Fm, (enc f).closed n = true
  | .lt _ => by simp [enc, D.closed, D.closeds]
  | .fls => by simp [enc, D.closed, D.closeds]
  | .bin o a b => by simp [enc, D.closed, D.closeds, enc_closed n a, enc_closed n b]
theorem exit_enc (M E : Mo) (f : Fm) : exitF M (enc f) (M ++ E) = (enc f, M) := exit_cut (enc_closed _ f)
theorem ev_between_fls {fh fa fb fo fe fu : F1} {M : Mo} {n : Nat} {p : Prt} (hM : M[n]? = some (prtO p)) (ok : PrtOk p) : fnF 7 (b_between fh fa fb fo fe fu) [.ref n, pfD .fls] M = some (enc (betF .fls p), M) := by
  have e1 := ev_in_enc (f := .fls) (fs := p.l0) (M := M) (by simp [Fm.dp]) (fun g hg => by have := ok.l0.2 g hg; omega)
  unfold prtO at hM
  rw [betF]
  by_cases c : Fm.fls ∈ p.l0 <;> simp [fnF, b_between, pfD, hM, look_left, c, e1, setD, List.lookup]
theorem ev_between_ax {fh fa fb fo fe fu : F1} {M : Mo} {n : Nat} {p : Prt} (f : Fm) (h : fa [.ref n, enc f] M = some (enc (axF p f), M)) : fnF 7 (b_between fh fa fb fo fe fu) [.ref n, pfD (.ax f)] M = some (enc (betF (.ax f) p), M) := by
  rw [betF]
  simp [fnF, b_between, pfD, h]
theorem ev_between_node {fh fa fb fo fe fu : F1} {M : Mo} {n : Nat} {p : Prt} (hM : M[n]? = some (prtO p)) (l : Bool) (o : Op) (a b : Fm) (ps : List Pf) (hh : fh [.ref n, .str (Str.ofString (sw l)), enc (.bin o a b)] M = some (I (halfOf p l (.bin o a b)), M)) {ks : List Nat} {E : Mo}
    (hu : fu [.ref n, pfD (.node l o a b ps), I (halfOf p l (.bin o a b))] M = some (.lst (ks.map .ref), M ++ E)) (hks : ks.length = (adds o l a b).length) (hps : ps.length = (adds o l a b).length) {ts : List (Nat × Pf × Fm)} (hb : ∀ t ∈ ts, fb [.ref t.1, pfD t.2.1] (M ++ E) = some (enc t.2.2, M ++ E)) (hz : ts.map (fun t => (t.1, t.2.1)) = ks.zip ps)
    (hg : ts.map (fun t => t.2.2) = betFs ps ((adds o l a b).map (addP p (halfOf p l (.bin o a b))))) (he : ∀ x y M, (x ∈ betFs ps ((adds o l a b).map (addP p (halfOf p l (.bin o a b))))) → (y ∈ betFs ps ((adds o l a b).map (addP p (halfOf p l (.bin o a b))))) → fe [enc x, enc y] M = some (enc (eitherF x y), M) ∧ fo [enc x, enc y] M = some (enc (bothF x y), M)) :
    fnF 7 (b_between fh fa fb fo fe fu) [.ref n, pfD (.node l o a b ps)] M = some (enc (betF (.node l o a b ps) p), M) := by
  have pD : pfD (.node l o a b ps) = .tup (.str (Str.ofString (o.wd l)) :: enc (.bin o a b) :: pfDs ps) := by rw [pfD]
  have look : List.lookup (Str.ofString "half_of") [(Str.ofString "left", D.tup [setD p.l0, setD p.l1]), (Str.ofString "right", D.tup [setD p.r0, setD p.r1])] = none := look_half p
  rw [betF]
  rw [pD] at hu ⊢
  unfold prtO at hM
  generalize halfOf p l (.bin o a b) = h at *
  obtain ⟨e1, e2, e3, e4, e5, e6⟩ := ends_words
  have hc := comp_map (g := gTup 2 (gsCons (gName 5) (gsCons (gName 6) gsNil))) (m := mCallN 2 fb (mCons (mVar 5) (mCons (mVar 6) mNil))) (vs := [5, 6]) (lo := [some (.ref n), some (.tup (.str (Str.ofString (o.wd l)) :: enc (.bin o a b) :: pfDs ps)), some (.str (Str.ofString (sw l))), some (I h), none, none, none]) (M := M ++ E)
    (ei := fun t : Nat × Pf × Fm => D.tup [.ref t.1, pfD t.2.1]) (eo := enc) (f := fun t => t.2.2) ts fun t ht => ⟨_, rfl, by simp [wipeD, hb t ht]⟩
  rw [hg] at hc
  have hz2 : ts.map (fun t : Nat × Pf × Fm => D.tup [.ref t.1, pfD t.2.1]) = (ks.zip ps).map fun p => D.tup [.ref p.1, pfD p.2] := by
    rw [← hz, List.map_map]
    rfl
  rw [hz2] at hc
  have zl : (ks.zip ps).length = (adds o l a b).length := by rw [List.length_zip, hks, hps, Nat.min_self]
  have rl : (betFs ps ((adds o l a b).map (addP p h))).length = (adds o l a b).length := by rw [← hg, List.length_map, ← zl, ← hz, List.length_map]
  have zl2 : min ks.length ps.length ≤ 16777216 := by rw [← List.length_zip, zl]; cases o <;> cases l <;> simp [adds]
  generalize betFs ps ((adds o l a b).map (addP p h)) = rs at *
  have pair : ∀ M, inF [.str (Str.ofString (match o with | .imp => "if" | .and => "and" | .or => "or")), g_PAIRS] M = some (.bl true, M) := fun M => by rw [ev_in_pairs]; cases o <;> simp
  have kl : kindOf (.lst (ks.map D.ref)) = some (false, ks.map D.ref) := rfl
  have ext := exit_enc M E
  cases o <;> cases l <;> simp only [Op.wd, sw] at hh hu hc ⊢ <;> simp only [adds, List.length_cons, List.length_nil] at rl <;>
    first
      | (obtain ⟨x, rfl⟩ := len_one rl
         cases h <;> simp [joinB, fnF, b_between, hM, look, Op.w, ev_nin_pairs, hh, hu, hc, kl, kind_tup, zip_refs, cut2, e1, e2, e3, e4, e5, e6, zl2, ext])
      | (obtain ⟨x, y, rfl⟩ := len_two rl
         obtain ⟨he1, he2⟩ := he x y (M ++ E) (by simp) (by simp)
         cases h <;> simp [joinB, fnF, b_between, hM, look, Op.w, ev_nin_pairs, hh, hu, hc, kl, kind_tup, zip_refs, cut2, e1, e2, e3, e4, e5, e6, zl2, ext, he1, he2, b2i])
end Law

set_option Elab.async false
set_option linter.all false
set_option maxRecDepth 100000
set_option maxHeartbeats 1000000
/-! Interpolants: between, over whole proofs. -/
namespace Law
open PySem PySem.Spec G

/-- the halves have their formulas in U -/
structure PrtU (U : List (Bool × Fm)) (q : Prt) : Prop where
  c0 : ∀ l, IsCanon (half0 q l)
  c1 : ∀ l, IsCanon (half1 q l)
  m0 : ∀ l f, f ∈ half0 q l → (l, f) ∈ U
  m1 : ∀ l f, f ∈ half1 q l → (l, f) ∈ U
def Split (q : Prt) (s : Sq) : Prop := ∀ l f, f ∈ side l s ↔ f ∈ half0 q l ∨ f ∈ half1 q l
theorem canon_small {U : List (Bool × Fm)} {s : List Fm} {l : Bool} (hc : IsCanon s) (hm : ∀ f ∈ s, (l, f) ∈ U) : s.length ≤ U.length := by
  have := nodup_len (s.map fun f => (l, f)) U (List.pairwise_map.mpr (hc.1.imp fun h e => h (by cases e; rfl))) fun x hx => by
    obtain ⟨f, hf, rfl⟩ := List.mem_map.mp hx
    exact hm f hf
  simpa using this
theorem PrtU.ok {U : List (Bool × Fm)} {q : Prt} (h : PrtU U q) (hlen : U.length ≤ 48) (hd : ∀ x ∈ U, x.2.dp ≤ 8) : PrtOk q := by
  have a := canon_small (h.c0 true) (h.m0 true)
  have b := canon_small (h.c1 true) (h.m1 true)
  have c := canon_small (h.c0 false) (h.m0 false)
  have d := canon_small (h.c1 false) (h.m1 false)
  simp only [half0, half1, if_true, Bool.false_eq_true, if_false] at a b c d
  exact ⟨⟨by omega, fun f hf => hd _ (h.m0 true f hf)⟩, ⟨by omega, fun f hf => hd _ (h.m1 true f hf)⟩, ⟨by omega, fun f hf => hd _ (h.m0 false f hf)⟩, ⟨by omega, fun f hf => hd _ (h.m1 false f hf)⟩⟩
/-- what the rule adds to a side -/
def addOn (ad : List Fm × List Fm) (l : Bool) : List Fm := if l then ad.1 else ad.2
theorem half0_add (q : Prt) (h : Bool) (ad : List Fm × List Fm) (l : Bool) : half0 (addP q h ad) l = if h then half0 q l else addAll (half0 q l) (addOn ad l) := by
  cases h <;> cases l <;> rfl
theorem half1_add (q : Prt) (h : Bool) (ad : List Fm × List Fm) (l : Bool) : half1 (addP q h ad) l = if h then addAll (half1 q l) (addOn ad l) else half1 q l := by
  cases h <;> cases l <;> rfl
theorem PrtU.add {U : List (Bool × Fm)} {q : Prt} (hq : PrtU U q) (h : Bool) {ad : List Fm × List Fm} (ha : ∀ l x, x ∈ addOn ad l → (l, x) ∈ U) : PrtU U (addP q h ad) := by
  refine ⟨fun l => ?_, fun l => ?_, fun l f hf => ?_, fun l f hf => ?_⟩
  · rw [half0_add]
    cases h
    · exact addAll_is (hq.c0 l) _
    · exact hq.c0 l
  · rw [half1_add]
    cases h
    · exact hq.c1 l
    · exact addAll_is (hq.c1 l) _
  · rw [half0_add] at hf
    cases h
    · rcases mem_addAll.mp hf with z | z
      · exact hq.m0 l f z
      · exact ha l f z
    · exact hq.m0 l f hf
  · rw [half1_add] at hf
    cases h
    · exact hq.m1 l f hf
    · rcases mem_addAll.mp hf with z | z
      · exact hq.m1 l f z
      · exact ha l f z
theorem Split.add {q : Prt} {s : Sq} (hs : Split q s) (h : Bool) (ad : List Fm × List Fm) : Split (addP q h ad) (addAll s.1 ad.1, addAll s.2 ad.2) := by
  intro l f
  rw [half0_add, half1_add]
  have e : f ∈ side l (addAll s.1 ad.1, addAll s.2 ad.2) ↔ f ∈ side l s ∨ f ∈ addOn ad l := by
    cases l
    · exact mem_addAll
    · exact mem_addAll
  rw [e, hs l f]
  cases h
  · simp only [Bool.false_eq_true, if_false, mem_addAll]
    constructor
    · rintro ((z | z) | z)
      · exact .inl (.inl z)
      · exact .inr z
      · exact .inl (.inr z)
    · rintro ((z | z) | z)
      · exact .inl (.inl z)
      · exact .inr z
      · exact .inl (.inr z)
  · simp only [if_true, mem_addAll]
    constructor
    · rintro ((z | z) | z)
      · exact .inl z
      · exact .inr (.inl z)
      · exact .inr (.inr z)
    · rintro (z | z | z)
      · exact .inl (.inl z)
      · exact .inl (.inr z)
      · exact .inr z
/-- r makes the half as it is: left true, right false -/
def Sat0 (r : List Bool) (q : Prt) : Prop := ∀ l f, f ∈ half0 q l → f.val r = l
def Sat1 (r : List Bool) (q : Prt) : Prop := ∀ l f, f ∈ half1 q l → f.val r = l
def Ls0 (q : Prt) (x : Int) : Prop := ∃ l f, f ∈ half0 q l ∧ x ∈ f.ls
def Ls1 (q : Prt) (x : Int) : Prop := ∃ l f, f ∈ half1 q l ∧ x ∈ f.ls
/-- I is between the halves of q -/
structure Btw (q : Prt) (i : Fm) : Prop where
  lo : ∀ r, Sat0 r q → i.val r = true
  hi : ∀ r, i.val r = true → ¬ Sat1 r q
  ls : ∀ x ∈ i.ls, Ls0 q x ∧ Ls1 q x
  ok : i.ok = true
theorem val_tru0 (r : List Bool) : tru0.val r = true := rfl
theorem ls_tru0 : tru0.ls = [] := by decide
theorem eitherF_val (a b : Fm) (r : List Bool) : (eitherF a b).val r = (a.val r || b.val r) := by
  unfold eitherF
  split
  · rename_i h
    rcases h with h | h <;> rw [h] <;> simp [val_tru0]
  · split
    · rename_i h
      rcases h with h | h
      · rw [h]; simp [Fm.val]
      · rw [h]; simp
    · split
      · rename_i h; rw [h]; simp [Fm.val]
      · rfl
theorem bothF_val (a b : Fm) (r : List Bool) : (bothF a b).val r = (a.val r && b.val r) := by
  unfold bothF
  split
  · rename_i h
    rcases h with h | h <;> rw [h] <;> simp [Fm.val]
  · split
    · rename_i h
      rcases h with h | h
      · rw [h]; simp [val_tru0]
      · rw [h]; simp
    · split
      · rename_i h; rw [h]; simp [val_tru0]
      · rfl
theorem bin_ls {o : Op} {a b : Fm} {x : Int} : x ∈ (Fm.bin o a b).ls ↔ x ∈ a.ls ∨ x ∈ b.ls := by
  rw [Fm.ls, mem_sortI, mem_dedupI, List.mem_append]
theorem eitherF_ls {a b : Fm} {x : Int} (h : x ∈ (eitherF a b).ls) : x ∈ a.ls ∨ x ∈ b.ls := by
  unfold eitherF at h
  split at h
  · rw [ls_tru0] at h; cases h
  · split at h
    · exact .inr h
    · split at h
      · exact .inl h
      · exact bin_ls.mp h
theorem bothF_ls {a b : Fm} {x : Int} (h : x ∈ (bothF a b).ls) : x ∈ a.ls ∨ x ∈ b.ls := by
  unfold bothF at h
  split at h
  · cases h
  · split at h
    · exact .inr h
    · split at h
      · exact .inl h
      · exact bin_ls.mp h
theorem eitherF_ok {a b : Fm} (ha : a.ok = true) (hb : b.ok = true) : (eitherF a b).ok = true := by
  unfold eitherF
  split
  · rfl
  · split
    · exact hb
    · split
      · exact ha
      · simp [Fm.ok, ha, hb]
theorem bothF_ok {a b : Fm} (ha : a.ok = true) (hb : b.ok = true) : (bothF a b).ok = true := by
  unfold bothF
  split
  · rfl
  · split
    · exact hb
    · split
      · exact ha
      · simp [Fm.ok, ha, hb]
theorem eitherF_dp {a b : Fm} {n : Nat} (hn : 1 ≤ n) (ha : a.dp ≤ n) (hb : b.dp ≤ n) : (eitherF a b).dp ≤ n + 1 := by
  unfold eitherF
  split
  · rw [tru0_dp]; omega
  · split
    · omega
    · split
      · omega
      · rw [Fm.dp]; omega
theorem bothF_dp {a b : Fm} {n : Nat} (hn : 1 ≤ n) (ha : a.dp ≤ n) (hb : b.dp ≤ n) : (bothF a b).dp ≤ n + 1 := by
  unfold bothF
  split
  · rw [Fm.dp]; omega
  · split
    · omega
    · split
      · omega
      · rw [Fm.dp]; omega
theorem half0_of {q : Prt} {l : Bool} {f : Fm} : halfOf q l f = false ↔ f ∈ half0 q l := by
  unfold halfOf
  simp
theorem half_in {q : Prt} {s : Sq} (hs : Split q s) {l : Bool} {f : Fm} (h : f ∈ side l s) : (halfOf q l f = false ∧ f ∈ half0 q l) ∨ (halfOf q l f = true ∧ f ∈ half1 q l) := by
  cases hh : halfOf q l f with
  | false => exact .inl ⟨rfl, half0_of.mp hh⟩
  | true =>
    refine .inr ⟨rfl, ((hs l f).mp h).resolve_left fun z => ?_⟩
    rw [half0_of.mpr z] at hh
    cases hh
theorem turnedF_val (a : Fm) (r : List Bool) : (turnedF a).val r = !a.val r := by
  unfold turnedF
  split
  · rename_i h; rw [h]; rfl
  · split
    · rename_i h; rw [h]; rfl
    · show (!a.val r || false) = _
      simp
theorem turnedF_ls {a : Fm} {x : Int} (h : x ∈ (turnedF a).ls) : x ∈ a.ls := by
  unfold turnedF at h
  split at h
  · rw [ls_tru0] at h; cases h
  · split at h
    · cases h
    · rcases bin_ls.mp h with z | z
      · exact z
      · cases z
theorem turnedF_ok {a : Fm} (h : a.ok = true) : (turnedF a).ok = true := by
  unfold turnedF
  split
  · rfl
  · split
    · rfl
    · simp [Fm.ok, h]
theorem turnedF_dp (a : Fm) : (turnedF a).dp ≤ a.dp + 2 := by
  unfold turnedF
  split
  · rw [tru0_dp]; omega
  · split
    · rw [Fm.dp]; omega
    · rw [Fm.dp, Fm.dp]; omega
theorem dp_pos (f : Fm) : 1 ≤ f.dp := by cases f <;> simp [Fm.dp]
theorem btw_ax {q : Prt} {s : Sq} (hs : Split q s) {f : Fm} (hf : f.ok = true) (h1 : f ∈ s.1) (h2 : f ∈ s.2) : Btw q (axF q f) := by
  have a := half_in hs (l := true) h1
  have b := half_in hs (l := false) h2
  unfold axF
  rcases a with ⟨e1, m1⟩ | ⟨e1, m1⟩ <;> rcases b with ⟨e2, m2⟩ | ⟨e2, m2⟩ <;> rw [e1, e2]
  · refine ⟨fun r hr => ?_, fun r hr => ?_, fun x hx => ?_, rfl⟩
    · have := (hr true f m1).symm.trans (hr false f m2); cases this
    · cases hr
    · cases hx
  · refine ⟨fun r hr => hr true f m1, fun r hr hs1 => ?_, fun x hx => ⟨⟨true, f, m1, hx⟩, ⟨false, f, m2, hx⟩⟩, hf⟩
    have := (hs1 false f m2).symm.trans hr
    cases this
  · simp only [if_neg (show ¬ true = false by decide)]
    refine ⟨fun r hr => ?_, fun r hr hs1 => ?_, fun x hx => ⟨⟨false, f, m2, turnedF_ls hx⟩, ⟨true, f, m1, turnedF_ls hx⟩⟩, turnedF_ok hf⟩
    · rw [turnedF_val, hr false f m2]; rfl
    · rw [turnedF_val, hs1 true f m1] at hr; cases hr
  · simp only [if_true, if_neg (show ¬ true = false by decide)]
    refine ⟨fun r hr => rfl, fun r hr hs1 => ?_, fun x hx => ?_, rfl⟩
    · have := (hs1 true f m1).symm.trans (hs1 false f m2); cases this
    · rw [ls_tru0] at hx; cases hx
theorem btw_fls {q : Prt} {s : Sq} (hs : Split q s) (h1 : Fm.fls ∈ s.1) : Btw q (if Fm.fls ∈ q.l0 then .fls else tru0) := by
  rcases half_in hs (l := true) h1 with ⟨_, m1⟩ | ⟨e, m1⟩
  · have m : Fm.fls ∈ q.l0 := m1
    rw [if_pos m]
    exact ⟨fun r hr => hr true .fls m1, (fun r hr => by cases hr), (fun x hx => by cases hx), rfl⟩
  · have m : Fm.fls ∉ q.l0 := fun z => by
      rw [half0_of.mpr (show Fm.fls ∈ half0 q true from z)] at e
      cases e
    rw [if_neg m]
    refine ⟨fun r hr => rfl, fun r hr hs1 => ?_, fun x hx => ?_, rfl⟩
    · have := hs1 true .fls m1; cases this
    · rw [ls_tru0] at hx; cases hx
/-- each formula is between its halves -/
inductive EachB (q : Prt) (h : Bool) : List (List Fm × List Fm) → List Fm → Prop
  | nil : EachB q h [] []
  | cons {ad i ads is} : Btw (addP q h ad) i → EachB q h ads is → EachB q h (ad :: ads) (i :: is)
theorem adds_ls {o : Op} {l : Bool} {a b : Fm} {ad : List Fm × List Fm} (h : ad ∈ adds o l a b) {k : Bool} {f : Fm} (hf : f ∈ addOn ad k) {x : Int} (hx : x ∈ f.ls) : x ∈ (Fm.bin o a b).ls := by
  obtain ⟨q1, q2⟩ := adds_sub h
  rw [bin_ls]
  cases k
  · rcases q2 f hf with rfl | rfl
    · exact .inl hx
    · exact .inr hx
  · rcases q1 f hf with rfl | rfl
    · exact .inl hx
    · exact .inr hx
theorem EachB.get {q : Prt} {h : Bool} : ∀ {ads is}, EachB q h ads is → ∀ ad ∈ ads, ∃ i ∈ is, Btw (addP q h ad) i
  | _, _, .nil, ad, m => by cases m
  | _, _, .cons b t, ad, m => by
    rcases List.mem_cons.mp m with e | m
    · rw [e]; exact ⟨_, List.mem_cons_self, b⟩
    · obtain ⟨i, hi, hb⟩ := t.get ad m
      exact ⟨i, List.mem_cons_of_mem _ hi, hb⟩
theorem EachB.back {q : Prt} {h : Bool} : ∀ {ads is}, EachB q h ads is → ∀ i ∈ is, ∃ ad ∈ ads, Btw (addP q h ad) i
  | _, _, .nil, i, m => by cases m
  | _, _, .cons b t, i, m => by
    rcases List.mem_cons.mp m with e | m
    · rw [e]; exact ⟨_, List.mem_cons_self, b⟩
    · obtain ⟨ad, hi, hb⟩ := t.back i m
      exact ⟨ad, List.mem_cons_of_mem _ hi, hb⟩
theorem EachB.len {q : Prt} {h : Bool} : ∀ {ads is}, EachB q h ads is → is.length = ads.length
  | _, _, .nil => rfl
  | _, _, .cons _ t => by rw [List.length_cons, List.length_cons, t.len]
theorem sat_add0 {q : Prt} {r : List Bool} {ad : List Fm × List Fm} (h : Sat0 r q) (ha : ∀ k f, f ∈ addOn ad k → f.val r = k) : Sat0 r (addP q false ad) := fun l f hf => by
  rw [half0_add] at hf
  rcases mem_addAll.mp hf with z | z
  · exact h l f z
  · exact ha l f z
theorem sat_add1 {q : Prt} {r : List Bool} {ad : List Fm × List Fm} (h : Sat1 r q) (ha : ∀ k f, f ∈ addOn ad k → f.val r = k) : Sat1 r (addP q true ad) := fun l f hf => by
  rw [half1_add] at hf
  rcases mem_addAll.mp hf with z | z
  · exact h l f z
  · exact ha l f z
theorem sem_add {o : Op} {l : Bool} {a b : Fm} {r : List Bool} (h : (Fm.bin o a b).val r = l) : ∃ ad ∈ adds o l a b, ∀ k f, f ∈ addOn ad k → f.val r = k := by
  obtain ⟨ad, hd, h1, h2⟩ := (adds_sem o l a b r).mp h
  exact ⟨ad, hd, fun k f hf => by cases k; exact h2 f hf; exact h1 f hf⟩
/-- the formula put together at a step is between -/
theorem btw_node {q : Prt} {s : Sq} (hs : Split q s) {o : Op} {l : Bool} {a b : Fm} (hm : Fm.bin o a b ∈ side l s) {is : List Fm} (he : EachB q (halfOf q l (.bin o a b)) (adds o l a b) is) :
    Btw q (joinB (halfOf q l (.bin o a b)) is) := by
  -- letters go back
  have ls0 : ∀ {h : Bool} {ad : List Fm × List Fm}, ad ∈ adds o l a b → (h = false → Fm.bin o a b ∈ half0 q l) → ∀ x, Ls0 (addP q h ad) x → Ls0 q x := by
    rintro h ad hd hh x ⟨k, f, hf, hx⟩
    rw [half0_add] at hf
    cases h
    · rcases mem_addAll.mp hf with z | z
      · exact ⟨k, f, z, hx⟩
      · exact ⟨l, _, hh rfl, adds_ls hd z hx⟩
    · exact ⟨k, f, hf, hx⟩
  have ls1 : ∀ {h : Bool} {ad : List Fm × List Fm}, ad ∈ adds o l a b → (h = true → Fm.bin o a b ∈ half1 q l) → ∀ x, Ls1 (addP q h ad) x → Ls1 q x := by
    rintro h ad hd hh x ⟨k, f, hf, hx⟩
    rw [half1_add] at hf
    cases h
    · exact ⟨k, f, hf, hx⟩
    · rcases mem_addAll.mp hf with z | z
      · exact ⟨k, f, z, hx⟩
      · exact ⟨l, _, hh rfl, adds_ls hd z hx⟩
  have hl := he.len
  have pos : is.length = 1 ∨ is.length = 2 := by rw [hl]; cases o <;> cases l <;> simp [adds]
  rcases half_in hs hm with ⟨e, m⟩ | ⟨e, m⟩
  · rw [e] at he ⊢
    have sat0_eq : ∀ r ad, Sat1 r q → Sat1 r (addP q false ad) := fun r ad h k f hf => by rw [half1_add] at hf; exact h k f hf
    -- at least one premise is made true
    have lo : ∀ r, Sat0 r q → ∃ i ∈ is, i.val r = true := fun r hr => by
      obtain ⟨ad, hd, ha⟩ := sem_add (hr l _ m)
      obtain ⟨i, hi, hb⟩ := he.get ad hd
      exact ⟨i, hi, hb.lo r (sat_add0 hr ha)⟩
    have hi : ∀ i ∈ is, ∀ r, i.val r = true → ¬ Sat1 r q := fun i hi r hv hs1 => by
      obtain ⟨ad, hd, hb⟩ := he.back i hi
      exact hb.hi r hv (sat0_eq r ad hs1)
    have lsx : ∀ i ∈ is, ∀ x ∈ i.ls, Ls0 q x ∧ Ls1 q x := fun i hi x hx => by
      obtain ⟨ad, hd, hb⟩ := he.back i hi
      obtain ⟨h1, h2⟩ := hb.ls x hx
      exact ⟨ls0 hd (fun _ => m) x h1, ls1 hd (fun z => by cases z) x h2⟩
    have oks : ∀ i ∈ is, i.ok = true := fun i hi => by
      obtain ⟨ad, hd, hb⟩ := he.back i hi
      exact hb.ok
    rcases pos with hp | hp
    · obtain ⟨x, rfl⟩ := len_one hp
      exact ⟨fun r hr => by obtain ⟨i, hi, hv⟩ := lo r hr; rw [List.mem_singleton.mp hi] at hv; exact hv, hi x (by simp), lsx x (by simp), oks x (by simp)⟩
    · obtain ⟨x, y, rfl⟩ := len_two hp
      show Btw q (eitherF x y)
      refine ⟨fun r hr => ?_, fun r hr => ?_, fun z hz => (eitherF_ls hz).elim (lsx x (by simp) z) (lsx y (by simp) z), eitherF_ok (oks x (by simp)) (oks y (by simp))⟩
      · obtain ⟨i, hi, hv⟩ := lo r hr
        rw [eitherF_val]
        simp only [List.mem_cons, List.not_mem_nil, or_false] at hi
        rcases hi with rfl | rfl <;> rw [hv] <;> simp
      · rw [eitherF_val, Bool.or_eq_true] at hr
        exact hr.elim (hi x (by simp) r) (hi y (by simp) r)
  · rw [e] at he ⊢
    have sat0_eq : ∀ r ad, Sat0 r q → Sat0 r (addP q true ad) := fun r ad h k f hf => by rw [half0_add] at hf; exact h k f hf
    have lo : ∀ i ∈ is, ∀ r, Sat0 r q → i.val r = true := fun i hi r hr => by
      obtain ⟨ad, hd, hb⟩ := he.back i hi
      exact hb.lo r (sat0_eq r ad hr)
    have hi : ∀ r, Sat1 r q → ∃ i ∈ is, ¬ i.val r = true := fun r hs1 => by
      obtain ⟨ad, hd, ha⟩ := sem_add (hs1 l _ m)
      obtain ⟨i, hi, hb⟩ := he.get ad hd
      exact ⟨i, hi, fun hv => hb.hi r hv (sat_add1 hs1 ha)⟩
    have lsx : ∀ i ∈ is, ∀ x ∈ i.ls, Ls0 q x ∧ Ls1 q x := fun i hi x hx => by
      obtain ⟨ad, hd, hb⟩ := he.back i hi
      obtain ⟨h1, h2⟩ := hb.ls x hx
      exact ⟨ls0 hd (fun z => by cases z) x h1, ls1 hd (fun _ => m) x h2⟩
    have oks : ∀ i ∈ is, i.ok = true := fun i hi => by
      obtain ⟨ad, hd, hb⟩ := he.back i hi
      exact hb.ok
    rcases pos with hp | hp
    · obtain ⟨x, rfl⟩ := len_one hp
      exact ⟨lo x (by simp), fun r hr hs1 => by obtain ⟨i, hi2, hv⟩ := hi r hs1; rw [List.mem_singleton.mp hi2] at hv; exact hv hr, lsx x (by simp), oks x (by simp)⟩
    · obtain ⟨x, y, rfl⟩ := len_two hp
      show Btw q (bothF x y)
      refine ⟨fun r hr => ?_, fun r hr hs1 => ?_, fun z hz => (bothF_ls hz).elim (lsx x (by simp) z) (lsx y (by simp) z), bothF_ok (oks x (by simp)) (oks y (by simp))⟩
      · rw [bothF_val, lo x (by simp) r hr, lo y (by simp) r hr]; rfl
      · rw [bothF_val, Bool.and_eq_true] at hr
        obtain ⟨i, hi2, hv⟩ := hi r hs1
        simp only [List.mem_cons, List.not_mem_nil, or_false] at hi2
        rcases hi2 with rfl | rfl
        · exact hv hr.1
        · exact hv hr.2
end Law

set_option Elab.async false
set_option linter.all false
set_option maxRecDepth 100000
set_option maxHeartbeats 1000000
/-! Interpolants: between, over whole proofs, level by level. -/
namespace Law
open PySem PySem.Spec G

structure BetTower (fB fH fA fO fE fU : Nat → F1) : Prop where
  hB : ∀ k, fB (k + 1) = fnF 7 (b_between (fH k) (fA k) (fB k) (fO k) (fE k) (fU k))
  hH : ∀ k p, 1 ≤ k → PrtOk p → SHalf (fH k) p
  hA : ∀ k p n f M, 3 ≤ k → PrtOk p → Fm.dp f ≤ 8 → M[n]? = some (prtO p) → fA k [.ref n, enc f] M = some (enc (axF p f), M)
  hE : ∀ k a b M, 1 ≤ k → Fm.dp a ≤ 60 → Fm.dp b ≤ 60 → fE k [enc a, enc b] M = some (enc (eitherF a b), M)
  hO : ∀ k a b M, 1 ≤ k → Fm.dp a ≤ 60 → Fm.dp b ≤ 60 → fO k [enc a, enc b] M = some (enc (bothF a b), M)
  hU : ∀ k p, 3 ≤ k → PrtOk p → ∀ n h o l a b ps M, M[n]? = some (prtO p) → Fm.dp a ≤ 8 → Fm.dp b ≤ 8 → ∃ ks E, fU k [.ref n, pfD (.node l o a b ps), I h] M = some (.lst (ks.map .ref), M ++ E) ∧ Holds (M ++ E) ks ((adds o l a b).map (addP p h)) ∧ ks.length = (adds o l a b).length
structure UOk (U : List (Bool × Fm)) : Prop where
  cl : Closed U
  len : U.length ≤ 48
  dp : ∀ q ∈ U, q.2.dp ≤ 8
  ok : ∀ q ∈ U, q.2.ok = true
theorem axF_dp {p : Prt} {f : Fm} : (axF p f).dp ≤ f.dp + 1 := by
  have h1 := dp_pos f
  have h2 : (turnedF f).dp ≤ f.dp + 1 := by
    unfold turnedF
    split
    · rw [tru0_dp]; omega
    · split
      · rw [Fm.dp]; omega
      · rw [Fm.dp, Fm.dp]; omega
  unfold axF
  split
  · split
    · rw [Fm.dp]; omega
    · rw [tru0_dp]; omega
  · split
    · omega
    · exact h2
theorem derAll_len : ∀ {ss : List Sq} {ps : List Pf}, DerAll ss ps → ps.length = ss.length
  | _, _, .nil => rfl
  | _, _, .cons _ t => by rw [List.length_cons, List.length_cons, derAll_len t]
section
variable {U : List (Bool × Fm)} {fB fH fA fO fE fU : Nat → F1}
mutual
theorem bet_der (hU : UOk U) (T : BetTower fB fH fA fO fE fU) : ∀ {s : Sq} {p : Pf}, Der s p → InU U s → ∀ q : Prt, PrtU U q → Split q s → (pfD p).dep ≤ 57 →
    Btw q (betF p q) ∧ (betF p q).dp ≤ (pfD p).dep + 1 ∧ ∀ k n M, (pfD p).dep + 4 ≤ k → M[n]? = some (prtO q) → fB k [.ref n, pfD p] M = some (enc (betF p q), M)
  | s, _, .fls h, hs, q, hq, sp, hd => by
    have ok := hq.ok hU.len hU.dp
    refine ⟨by rw [betF]; exact btw_fls sp h, ?_, fun k n M hk hM => ?_⟩
    · rw [betF]
      simp only [pfD, D.dep, D.deps]
      split
      · simp [Fm.dp]
      · rw [tru0_dp]; omega
    · obtain ⟨k, rfl⟩ : ∃ j, k = j + 1 := ⟨k - 1, by omega⟩
      rw [T.hB]
      exact ev_between_fls hM ok
  | s, _, .ax (f := f) h1 h2, hs, q, hq, sp, hd => by
    have ok := hq.ok hU.len hU.dp
    have hf := hU.dp _ (hs.mem true f h1)
    have e : (pfD (.ax f)).dep = f.dp + 1 := by simp [pfD, D.dep, D.deps]
    rw [e]
    refine ⟨by rw [betF]; exact btw_ax sp (hU.ok _ (hs.mem true f h1)) h1 h2, ?_, fun k n M hk hM => ?_⟩
    · rw [betF]
      have := axF_dp (p := q) (f := f)
      omega
    · obtain ⟨k, rfl⟩ : ∃ j, k = j + 1 := ⟨k - 1, by omega⟩
      rw [T.hB]
      have := dp_pos f
      exact ev_between_ax f (T.hA k q n f M (by omega) ok hf hM)
  | s, _, .node (l := l) (o := o) (a := a) (b := b) (ps := ps) hm ds, hs, q, hq, sp, hd => by
    have ok := hq.ok hU.len hU.dp
    have e : (pfD (.node l o a b ps)).dep = max (Fm.bin o a b).dp (D.deps (pfDs ps)) + 1 := by
      simp only [pfD, D.dep, D.deps, enc_dep]
      omega
    have hab := hU.dp _ (hs.mem l _ hm)
    simp only [Fm.dp] at hab
    have adU : ∀ ad ∈ adds o l a b, ∀ k x, x ∈ addOn ad k → (k, x) ∈ U := fun ad had k x hx => by
      obtain ⟨u1, u2⟩ := hU.cl l o a b (hs.mem l _ hm) ad had
      cases k
      · exact u2 x hx
      · exact u1 x hx
    rw [e] at hd
    have inP : ∀ t ∈ prem o l a b s, InU U t := fun t ht => (hs.prem hU.cl hm ht).1
    obtain ⟨r1, r2, r3⟩ := bet_all hU T ds inP s (adds o l a b) q (halfOf q l (.bin o a b)) rfl adU hq sp (by omega)
    have hb : (betF (.node l o a b ps) q) = joinB (halfOf q l (.bin o a b)) (betFs ps ((adds o l a b).map (addP q (halfOf q l (.bin o a b))))) := by rw [betF]
    have rl := r1.len
    refine ⟨by rw [hb]; exact btw_node sp hm r1, ?_, fun k n M hk hM => ?_⟩
    · rw [hb, e]
      have pos : (betFs ps ((adds o l a b).map (addP q (halfOf q l (.bin o a b))))).length = 1 ∨ (betFs ps ((adds o l a b).map (addP q (halfOf q l (.bin o a b))))).length = 2 := by rw [rl]; cases o <;> cases l <;> simp [adds]
      generalize betFs ps ((adds o l a b).map (addP q (halfOf q l (.bin o a b)))) = is at r2 pos
      rcases pos with hp | hp
      · obtain ⟨x, rfl⟩ := len_one hp
        have := r2 x (by simp)
        simp only [joinB]
        omega
      · obtain ⟨x, y, rfl⟩ := len_two hp
        have h1 := r2 x (by simp)
        have h2 := r2 y (by simp)
        simp only [joinB]
        split
        · have := eitherF_dp (n := D.deps (pfDs ps) + 1) (by omega) h1 h2
          omega
        · have := bothF_dp (n := D.deps (pfDs ps) + 1) (by omega) h1 h2
          omega
    · obtain ⟨k, rfl⟩ : ∃ j, k = j + 1 := ⟨k - 1, by omega⟩
      rw [e] at hk
      rw [T.hB]
      obtain ⟨ks, E, u1, u2, u3⟩ := T.hU k q (by omega) ok n (halfOf q l (.bin o a b)) o l a b ps M hM (by omega) (by omega)
      obtain ⟨ts, t1, t2, t3⟩ := r3 ks (M ++ E) u2
      have plen : ps.length = (adds o l a b).length := by
        have := derAll_len ds
        rw [this]
        simp [prem]
      exact ev_between_node hM l o a b ps (T.hH k q (by omega) ok M n l (.bin o a b) hM (by rw [Fm.dp]; omega)) u1 u3 plen (fun t ht => t3 t ht k (by omega)) t1 t2 fun x y M hx hy => by
        have h1 := r2 x hx
        have h2 := r2 y hy
        exact ⟨T.hE k x y M (by omega) (by omega) (by omega), T.hO k x y M (by omega) (by omega) (by omega)⟩
theorem bet_all (hU : UOk U) (T : BetTower fB fH fA fO fE fU) : ∀ {ss : List Sq} {ps : List Pf}, DerAll ss ps → (∀ t ∈ ss, InU U t) → ∀ (s : Sq) (ads : List (List Fm × List Fm)) (q : Prt) (h : Bool), ss = ads.map (fun ad => (addAll s.1 ad.1, addAll s.2 ad.2)) →
    (∀ ad ∈ ads, ∀ k x, x ∈ addOn ad k → (k, x) ∈ U) → PrtU U q → Split q s → D.deps (pfDs ps) ≤ 56 →
    EachB q h ads (betFs ps (ads.map (addP q h))) ∧ (∀ i ∈ betFs ps (ads.map (addP q h)), i.dp ≤ D.deps (pfDs ps) + 1) ∧
    ∀ ks M, Holds M ks (ads.map (addP q h)) → ∃ ts : List (Nat × Pf × Fm), ts.map (fun t => (t.1, t.2.1)) = ks.zip ps ∧ ts.map (fun t => t.2.2) = betFs ps (ads.map (addP q h)) ∧ ∀ t ∈ ts, ∀ k, D.deps (pfDs ps) + 4 ≤ k → fB k [.ref t.1, pfD t.2.1] M = some (enc t.2.2, M)
  | _, _, .nil, _, s, ads, q, h, hss, _, _, _, _ => by
    have : ads = [] := List.map_eq_nil_iff.mp hss.symm
    subst this
    refine ⟨.nil, (fun i hi => by simp [betFs] at hi), fun ks M hks => ?_⟩
    cases hks
    exact ⟨[], rfl, rfl, (fun t ht => by cases ht)⟩
  | _, _, .cons (s := t) (p := p) (ss := ss) (ps := ps) d ds, hin, s, ads, q, h, hss, hadU, hq, sp, hd => by
    match ads, hss with
    | ad :: ads, hss =>
      rw [List.map_cons, List.cons.injEq] at hss
      obtain ⟨rfl, rfl⟩ := hss
      rw [pfDs, D.deps] at hd
      have hqa := hq.add h (hadU ad List.mem_cons_self)
      obtain ⟨a1, a2, a3⟩ := bet_der hU T d (hin _ List.mem_cons_self) (addP q h ad) hqa (sp.add h ad) (by omega)
      obtain ⟨b1, b2, b3⟩ := bet_all hU T ds (fun t ht => hin t (List.mem_cons_of_mem _ ht)) s ads q h rfl (fun x hx => hadU x (List.mem_cons_of_mem _ hx)) hq sp (by omega)
      have e : betFs (p :: ps) ((ad :: ads).map (addP q h)) = betF p (addP q h ad) :: betFs ps (ads.map (addP q h)) := by rw [List.map_cons, betFs]
      rw [e, pfDs, D.deps]
      refine ⟨.cons a1 b1, fun i hi => ?_, fun ks M hks => ?_⟩
      · rcases List.mem_cons.mp hi with z | z
        · rw [z]; omega
        · have := b2 i z; omega
      · cases hks with
        | cons hk hks =>
          obtain ⟨ts, t1, t2, t3⟩ := b3 _ M hks
          refine ⟨(_, p, betF p (addP q h ad)) :: ts, by rw [List.map_cons, t1, List.zip_cons_cons], by rw [List.map_cons, t2], fun t ht k hk2 => ?_⟩
          rcases List.mem_cons.mp ht with z | z
          · rw [z]
            exact a3 k _ M (by omega) hk
          · exact t3 t z k (by omega)
end
end
end Law

set_option Elab.async false
set_option linter.all false
set_option maxRecDepth 100000
/-! The law's draws. -/
namespace Law
open PySem PySem.Spec G

theorem ev_mul_r {a b : Int} (M : Mo) (h1 : -(2 ^ 64) < b) (h2 : b < 2 ^ 64) : mulF [.int a, .int b] M = some (.int (a * b), M) := by
  show (if _ then _ else _) = _
  rw [if_pos]
  simp only [Bool.or_eq_true, Bool.and_eq_true, decide_eq_true_eq]
  exact .inr ⟨h1, h2⟩
theorem cut_map (ns : List Int) (a b : Option Int) : ∃ ms : List Int, cutD (ns.map D.int) a b = ms.map D.int := by
  unfold cutD
  rw [← List.map_drop, ← List.map_take]
  exact ⟨_, rfl⟩
def poolD (ns : List Int) (i left count salt : Int) : List D := [.lst (ns.map .int), .int i, .int left, .int count, .int salt]
theorem ev_pool (ns : List Int) : ∃ salt, fnFK 3 b__law_pool [.rol (ns.map .int)] [] = some (.ref 0, [.lst (poolD ns 0 0 0 salt)]) := by
  obtain ⟨ms, hm⟩ := cut_map ns none (some 63)
  obtain ⟨lo', M', e, rfl, x, rfl⟩ := for_inv (g := gName 2) (body := sSet (mBin modF (mCall intF (mCons (mBin addF (mBin mulF (mVar 1) (mC (.int 31))) (mVar 2)) mNil)) (mC (.int 1000003))) (gName 1)) (ei := D.int) (step := fun (s c : Int) => (s * 31 + c) % 1000003)
    (R := fun s lo M => M = [] ∧ ∃ x, lo = [some (.rol (ns.map .int)), some (.int s), x]) ms 7 [some (.rol (ns.map .int)), some (.int 7), none] [] (fun s c lo M _ ⟨hM, x, hlo⟩ => by
      subst hM hlo
      refine ⟨[some (.rol (ns.map .int)), some (.int ((s * 31 + c) % 1000003)), some (.int c)], [], ?_, rfl, _, rfl⟩
      simp [ev_mul_r]) ⟨rfl, none, rfl⟩
  refine ⟨ms.foldl (fun (s c : Int) => (s * 31 + c) % 1000003) 7, ?_⟩
  simp [fnFK, b__law_pool, seqOf, hm, e, poolD]
theorem rgD4 : rgD 0 4 = ([0, 1, 2, 3] : List Int).map D.int := by decide +kernel
theorem ev_spread (c : Int) (M : Mo) : ∃ t, fnF 4 b__law_spread [.int c] M = some (.int t, M) := by
  obtain ⟨lo', M', e, rfl, a, t, x, rfl⟩ := for_inv (g := gName 3) (body := sSeq (sSet (mBin modF (mCall intF (mCons (mBin addF (mBin addF (mBin mulF (mVar 1) (mC (.int 48271))) (mC (.int 12345))) (mVar 3)) mNil)) (mC (.int 2147483647))) (gName 1)) (sSet (mBin addF (mBin mulF (mVar 2) (mC (.int 2147483647))) (mVar 1)) (gName 2)))
    (ei := D.int) (step := fun (s : Unit) (c : Int) => ()) (R := fun _ lo M' => M' = M ∧ ∃ a t x, lo = [some (.int c), some (.int a), some (.int t), x]) [0, 1, 2, 3] () [some (.int c), some (.int (c % 2147483647)), some (.int 1), none] M (fun s k lo M' _ ⟨hM, a, t, x, hlo⟩ => by
      subst hM hlo
      refine ⟨[some (.int c), some (.int ((a * 48271 + 12345 + k) % 2147483647)), some (.int (t * 2147483647 + (a * 48271 + 12345 + k) % 2147483647)), some (.int k)], M', ?_, rfl, _, _, _, rfl⟩
      simp [ev_mul_r]) ⟨rfl, _, _, _, rfl⟩
  refine ⟨t, ?_⟩
  rw [← rgD4] at e
  simp [fnF, b__law_spread, e]

/-! ### the pool, at the store's first place -/
@[simp] theorem pl_at0 (a b c d e : D) (R : Mo) : atF [.ref 0, .int 0] (.lst [a, b, c, d, e] :: R) = some (a, .lst [a, b, c, d, e] :: R) := ev_at (t := false) (i := 0) rfl rfl
@[simp] theorem pl_at1 (a b c d e : D) (R : Mo) : atF [.ref 0, .int 1] (.lst [a, b, c, d, e] :: R) = some (b, .lst [a, b, c, d, e] :: R) := ev_at (t := false) (i := 1) rfl rfl
@[simp] theorem pl_at2 (a b c d e : D) (R : Mo) : atF [.ref 0, .int 2] (.lst [a, b, c, d, e] :: R) = some (c, .lst [a, b, c, d, e] :: R) := ev_at (t := false) (i := 2) rfl rfl
@[simp] theorem pl_at3 (a b c d e : D) (R : Mo) : atF [.ref 0, .int 3] (.lst [a, b, c, d, e] :: R) = some (d, .lst [a, b, c, d, e] :: R) := ev_at (t := false) (i := 3) rfl rfl
@[simp] theorem pl_at4 (a b c d e : D) (R : Mo) : atF [.ref 0, .int 4] (.lst [a, b, c, d, e] :: R) = some (e, .lst [a, b, c, d, e] :: R) := ev_at (t := false) (i := 4) rfl rfl
@[simp] theorem pl_set1 (a b c d e v : D) (R : Mo) : setL (.ref 0) (.int 1) v (.lst [a, b, c, d, e] :: R) = some (.lst [a, v, c, d, e] :: R) := rfl
@[simp] theorem pl_set2 (a b c d e v : D) (R : Mo) : setL (.ref 0) (.int 2) v (.lst [a, b, c, d, e] :: R) = some (.lst [a, b, v, d, e] :: R) := rfl
@[simp] theorem pl_set3 (a b c d e v : D) (R : Mo) : setL (.ref 0) (.int 3) v (.lst [a, b, c, d, e] :: R) = some (.lst [a, b, c, v, e] :: R) := rfl
@[simp] theorem exit_same_len (a b : MO) (R : Mo) (d : D) : exitF (a :: R) d (b :: R) = (d, b :: R) := by
  unfold exitF
  rw [if_pos (by simp)]
/-- the pool of a script -/
def PoolOk (P : List D) : Prop := ∃ ns i left count salt, 0 ≤ i ∧ P = poolD ns i left count salt
theorem ev_draw {fs : F1} (hs : ∀ c M, ∃ t, fs [.int c] M = some (.int t, M)) {P : List D} (hP : PoolOk P) (R : Mo) (many : Int) (h1 : 0 < many) (h2 : many < 1073741824) :
    ∃ v P', fnF 5 (b__law_draw fs) [.ref 0, .int many] (.lst P :: R) = some (.int v, .lst P' :: R) ∧ 0 ≤ v ∧ v < many ∧ PoolOk P' := by
  obtain ⟨ns, i, left, count, salt, hi, rfl⟩ := hP
  have m0 : ∀ a : Int, 0 ≤ a % many ∧ a % many < many := fun a => ⟨Int.emod_nonneg _ (by omega), Int.emod_lt_of_pos _ h1⟩
  have first : ∃ i' left' x, 0 ≤ i' ∧ (sIf (tAndM (tru (mBin leF (mBin atF (mVar 0) (mC (.int 2))) (mC (.int 0)))) (tru (mBin ltF (mBin atF (mVar 0) (mC (.int 1))) (mCall lenF (mCons (mBin atF (mVar 0) (mC (.int 0))) mNil))))) (sSeq (sSet (mBin atF (mBin atF (mVar 0) (mC (.int 0))) (mBin atF (mVar 0) (mC (.int 1)))) (gName 2)) (sSeq (sSet (mBin addF (mBin atF (mVar 0) (mC (.int 1))) (mC (.int 1))) (gSub (mVar 0) (mC (.int 1)) setL)) (sSeq (sSet (mVar 2) (gSub (mVar 0) (mC (.int 2)) setL)) (sIf (tru (mBin ltF (mVar 2) (mC (.int 1000000000000000000)))) (sSet (mCallN 1 fs (mCons (mVar 2) mNil)) (gSub (mVar 0) (mC (.int 2)) setL)) sNext)))) sNext)
      [some (.ref 0), some (.int many), none, none, none] (.lst (poolD ns i left count salt) :: R) = some (.nx [some (.ref 0), some (.int many), x, none, none] (.lst (poolD ns i' left' count salt) :: R)) := by
    by_cases c1 : left ≤ 0
    · by_cases c2 : i < ns.length
      · obtain ⟨cell, hc⟩ : ∃ c, ns[i.toNat]? = some c := ⟨_, List.getElem?_eq_getElem (by omega)⟩
        have hat : ∀ R, atF [.lst (ns.map .int), .int i] R = some (.int cell, R) := fun R => by
          have := ev_at (c := .lst (ns.map D.int)) (t := false) (i := i.toNat) (e := .int cell) (M := R) rfl (by rw [List.getElem?_map, hc]; rfl)
          rwa [show ((i.toNat : Nat) : Int) = i by omega] at this
        by_cases c3 : cell < 1000000000000000000
        · obtain ⟨t, ht⟩ := hs cell (.lst [.lst (ns.map .int), .int (i + 1), .int cell, .int count, .int salt] :: R)
          exact ⟨i + 1, t, some (.int cell), by omega, by simp [poolD, c1, c2, c3, hat, ht]⟩
        · exact ⟨i + 1, cell, some (.int cell), by omega, by simp [poolD, c1, c2, c3, hat]⟩
      · exact ⟨i, left, none, hi, by simp [poolD, c1, c2]⟩
    · exact ⟨i, left, none, hi, by simp [poolD, c1]⟩
  obtain ⟨i', left', x, hi', e1⟩ := first
  have rest : ∃ v P', (sSeq (sSet (mBin addF (mBin atF (mVar 0) (mC (.int 3))) (mC (.int 1))) (gSub (mVar 0) (mC (.int 3)) setL)) (sSeq (sIf (tru (mBin leF (mBin atF (mVar 0) (mC (.int 2))) (mC (.int 0)))) (sSeq (sSet (mBin modF (mCall intF (mCons (mBin addF (mBin addF (mBin mulF (mBin atF (mVar 0) (mC (.int 4))) (mC (.int 48271))) (mBin mulF (mBin atF (mVar 0) (mC (.int 3))) (mC (.int 69621)))) (mC (.int 1))) mNil)) (mC (.int 2147483647))) (gName 3)) (sSeq (sSet (mBin modF (mCall intF (mCons (mBin addF (mBin mulF (mVar 3) (mC (.int 16807))) (mBin atF (mVar 0) (mC (.int 3)))) mNil)) (mC (.int 2147483629))) (gName 3)) (sRet (mBin modF (mBin fdivF (mVar 3) (mC (.int 5))) (mVar 1))))) sNext) (sSeq (sSet (mBin modF (mCall intF (mCons (mBin atF (mVar 0) (mC (.int 2))) mNil)) (mVar 1)) (gName 4)) (sSeq (sSet (mBin fdivF (mBin atF (mVar 0) (mC (.int 2))) (mVar 1)) (gSub (mVar 0) (mC (.int 2)) setL)) (sRet (mVar 4))))))
      [some (.ref 0), some (.int many), x, none, none] (.lst (poolD ns i' left' count salt) :: R) = some (.rt (.int v) (.lst P' :: R)) ∧ 0 ≤ v ∧ v < many ∧ PoolOk P' := by
    by_cases c : left' ≤ 0
    · refine ⟨(((salt * 48271 + (count + 1) * 69621 + 1) % 2147483647 * 16807 + (count + 1)) % 2147483629 / 5) % many, poolD ns i' left' (count + 1) salt, ?_, (m0 _).1, (m0 _).2, ⟨_, _, _, _, _, hi', rfl⟩⟩
      simp [c, ev_mul_r, h1, poolD]
    · refine ⟨left' % many, poolD ns i' (left' / many) (count + 1) salt, ?_, (m0 _).1, (m0 _).2, ⟨_, _, _, _, _, hi', rfl⟩⟩
      simp [c, ev_mul_r, h1, h2, poolD]
  obtain ⟨v, P', e2, e3, e4, e5⟩ := rest
  refine ⟨v, P', ?_, e3, e4, e5⟩
  have eb : b__law_draw fs [some (.ref 0), some (.int many), none, none, none] (.lst (poolD ns i left count salt) :: R) = some (.rt (.int v) (.lst P' :: R)) := by
    unfold b__law_draw
    rw [sSeq_e, e1]
    exact e2
  simp [fnF, eb]
end Law

set_option Elab.async false
set_option linter.all false
set_option maxRecDepth 100000
set_option maxHeartbeats 2000000
/-! The universe of two formulas. -/
namespace Law
open PySem PySem.Spec G

/-! ### the universe -/
def uni : Bool → Fm → List (Bool × Fm)
  | l, .lt n => [(l, .lt n)]
  | l, .fls => [(l, .fls)]
  | l, .bin .imp a b => (l, .bin .imp a b) :: (uni (!l) a ++ uni l b)
  | l, .bin .and a b => (l, .bin .and a b) :: (uni l a ++ uni l b)
  | l, .bin .or a b => (l, .bin .or a b) :: (uni l a ++ uni l b)
theorem uni_self (l : Bool) (f : Fm) : (l, f) ∈ uni l f := by
  cases f with
  | lt n => simp [uni]
  | fls => simp [uni]
  | bin o a b => cases o <;> simp [uni]
theorem uni_sub : ∀ (l : Bool) (f : Fm) (k : Bool) (g : Fm), (k, g) ∈ uni l f → ∀ x, x ∈ uni k g → x ∈ uni l f
  | l, .lt n, k, g, h, x, hx => by
    simp [uni] at h
    obtain ⟨rfl, rfl⟩ := h
    exact hx
  | l, .fls, k, g, h, x, hx => by
    simp [uni] at h
    obtain ⟨rfl, rfl⟩ := h
    exact hx
  | l, .bin o a b, k, g, h, x, hx => by
    have ia := uni_sub l a k g
    have ia2 := uni_sub (!l) a k g
    have ib := uni_sub l b k g
    cases o <;> simp only [uni, List.mem_cons, List.mem_append, Prod.mk.injEq] at h ⊢ <;> rcases h with ⟨rfl, rfl⟩ | h | h <;>
      first
        | (simp only [uni, List.mem_cons, List.mem_append] at hx; exact hx)
        | exact .inr (.inl (ia h x hx))
        | exact .inr (.inl (ia2 h x hx))
        | exact .inr (.inr (ib h x hx))
theorem uni_closed (l : Bool) (f : Fm) : Closed (uni l f) := by
  intro k o a b h p hp
  have sub := uni_sub l f k (.bin o a b) h
  have hself := uni_self
  cases o <;> cases k <;> simp [adds] at hp <;> (try rcases hp with hp | hp) <;> (try subst hp) <;> (try simp only [hp]) <;> refine ⟨fun x hx => sub _ ?_, fun x hx => sub _ ?_⟩ <;> simp at hx <;> (try rcases hx with hx | hx) <;> (try subst hx) <;> simp [uni, hself]
def Fm.nd : Fm → Nat
  | .lt _ => 1
  | .fls => 1
  | .bin _ a b => a.nd + b.nd + 1
theorem uni_len : ∀ (l : Bool) (f : Fm), (uni l f).length = f.nd
  | l, .lt n => rfl
  | l, .fls => rfl
  | l, .bin o a b => by
    have ia := uni_len l a
    have ia2 := uni_len (!l) a
    have ib := uni_len l b
    cases o <;> simp [uni, Fm.nd, ia, ia2, ib]
theorem uni_dp : ∀ (l : Bool) (f : Fm) (x : Bool × Fm), x ∈ uni l f → x.2.dp ≤ f.dp ∧ (f.ok = true → x.2.ok = true)
  | l, .lt n, x, h => by simp [uni] at h; subst h; exact ⟨Nat.le_refl _, id⟩
  | l, .fls, x, h => by simp [uni] at h; subst h; exact ⟨Nat.le_refl _, id⟩
  | l, .bin o a b, x, h => by
    have ia := uni_dp l a x
    have ia2 := uni_dp (!l) a x
    have ib := uni_dp l b x
    rw [Fm.dp]
    simp only [Fm.ok, Bool.and_eq_true]
    cases o <;> simp only [uni, List.mem_cons, List.mem_append] at h <;> rcases h with rfl | h | h <;>
      first
        | exact ⟨by simp [Fm.dp], fun ⟨h1, h2⟩ => by simp [Fm.ok, h1, h2]⟩
        | exact ⟨by have := (ia h).1; omega, fun ⟨h1, h2⟩ => (ia h).2 h1⟩
        | exact ⟨by have := (ia2 h).1; omega, fun ⟨h1, h2⟩ => (ia2 h).2 h1⟩
        | exact ⟨by have := (ib h).1; omega, fun ⟨h1, h2⟩ => (ib h).2 h2⟩
theorem closed_app {U V : List (Bool × Fm)} (hU : Closed U) (hV : Closed V) : Closed (U ++ V) := by
  intro l o a b h p hp
  rcases List.mem_append.mp h with h | h
  · obtain ⟨h1, h2⟩ := hU l o a b h p hp
    exact ⟨fun x hx => List.mem_append_left _ (h1 x hx), fun x hx => List.mem_append_left _ (h2 x hx)⟩
  · obtain ⟨h1, h2⟩ := hV l o a b h p hp
    exact ⟨fun x hx => List.mem_append_right _ (h1 x hx), fun x hx => List.mem_append_right _ (h2 x hx)⟩
theorem nd_dp : ∀ f : Fm, f.nd + 1 ≤ 2 ^ f.dp
  | .lt _ => by simp [Fm.nd, Fm.dp]
  | .fls => by simp [Fm.nd, Fm.dp]
  | .bin o a b => by
    have ha := nd_dp a
    have hb := nd_dp b
    have h1 : 2 ^ a.dp ≤ 2 ^ max a.dp b.dp := Nat.pow_le_pow_right (by omega) (by omega)
    have h2 : 2 ^ b.dp ≤ 2 ^ max a.dp b.dp := Nat.pow_le_pow_right (by omega) (by omega)
    rw [Fm.nd, Fm.dp, Nat.pow_succ]
    omega
theorem one_canon (f : Fm) : IsCanon [f] := ⟨by simp, by simp⟩
theorem nil_canon : IsCanon [] := ⟨by simp, by simp⟩
theorem taut_iff {f : Fm} (hf : f.ok = true) : taut f = true ↔ ∀ r, f.val r = true := by
  unfold taut
  rw [List.all_eq_true]
  constructor
  · intro h r
    rw [← val_keepIn hf r]
    exact h _ (List.mem_filter.mp (keepIn_mem f.ls r)).1
  · exact fun h r _ => h r
theorem imp_val (a b : Fm) (r : List Bool) : (Fm.bin .imp a b).val r = (!a.val r || b.val r) := rfl
/-- the first parted sequent -/
def prt0 (low high : Fm) : Prt := ⟨[low], [], [], [high]⟩
/-- the connectives -/
def Fm.cn : Fm → Nat
  | .bin _ a b => a.cn + b.cn + 1
  | _ => 0
theorem nd_cn : ∀ f : Fm, f.nd = 2 * f.cn + 1
  | .lt _ => rfl
  | .fls => rfl
  | .bin o a b => by
    have := nd_cn a
    have := nd_cn b
    rw [Fm.nd, Fm.cn]
    omega
theorem uni_nd : ∀ (l : Bool) (f : Fm) (x : Bool × Fm), x ∈ uni l f → x.2.nd ≤ f.nd
  | l, .lt n, x, h => by simp [uni] at h; subst h; exact Nat.le_refl _
  | l, .fls, x, h => by simp [uni] at h; subst h; exact Nat.le_refl _
  | l, .bin o a b, x, h => by
    have ia := uni_nd l a x
    have ia2 := uni_nd (!l) a x
    have ib := uni_nd l b x
    rw [Fm.nd]
    cases o <;> simp only [uni, List.mem_cons, List.mem_append] at h <;> rcases h with rfl | h | h <;>
      first
        | exact Nat.le_refl _
        | (have := ia h; omega)
        | (have := ia2 h; omega)
        | (have := ib h; omega)
/-- what is compound -/
def comp : Bool × Fm → Bool
  | (_, .bin _ _ _) => true
  | _ => false
theorem uni_comp : ∀ (l : Bool) (f : Fm), ((uni l f).filter comp).length = f.cn
  | l, .lt n => by simp [uni, comp, Fm.cn]
  | l, .fls => by simp [uni, comp, Fm.cn]
  | l, .bin o a b => by
    have ia := uni_comp l a
    have ia2 := uni_comp (!l) a
    have ib := uni_comp l b
    have hc : ∀ o, comp (l, Fm.bin o a b) = true := fun _ => rfl
    cases o <;> rw [uni, List.filter_cons_of_pos (hc _), List.filter_append, List.length_cons, List.length_append, Fm.cn] <;> omega
end Law

set_option Elab.async false
set_option linter.all false
set_option maxRecDepth 100000
set_option maxHeartbeats 1000000
/-! k83: the law's own formulas. -/
namespace Law
open PySem PySem.Spec G

/-- fd draws -/
def SDrw (fd : F1) : Prop := ∀ P R (many : Int), PoolOk P → 0 < many → many < 1073741824 → ∃ v P', fd [.ref 0, .int many] (.lst P :: R) = some (.int v, .lst P' :: R) ∧ 0 ≤ v ∧ v < many ∧ PoolOk P'
def SLit (fs : F1) (deep : Nat) : Prop := ∀ P R (c : Nat), PoolOk P → 0 < c → c ≤ 4 → ∃ f P', fs [.ref 0, .int (deep : Int), .int (c : Int)] (.lst P :: R) = some (enc f, .lst P' :: R) ∧ f.dp ≤ deep + 1 ∧ f.ok = true ∧ PoolOk P'
theorem ev_little {fd fs : F1} (hd : SDrw fd) {deep : Nat} (hs : ∀ d, d + 1 = deep → SLit fs d) : SLit (fnF 5 (b__law_little fd fs)) deep := by
  intro P R c hP hc1 hc2
  have leaf : ∀ P, PoolOk P → ∃ f P', (sRet (mIf (tru (mBin gtF (mCallN 2 fd (mCons (mVar 0) (mCons (mC (.int 9)) mNil))) (mC (.int 0)))) (mTup (mCons (mC (.str "letter")) (mCons (mCallN 2 fd (mCons (mVar 0) (mCons (mVar 2) mNil))) mNil))) (mTup (mCons (mC (.str "false")) mNil))))
      [some (.ref 0), some (.int (deep : Int)), some (.int (c : Int)), none, none] (.lst P :: R) = some (.rt (enc f) (.lst P' :: R)) ∧ f.dp = 1 ∧ f.ok = true ∧ PoolOk P' := fun P hP => by
    obtain ⟨v, P1, e1, v0, v9, hP1⟩ := hd P R 9 hP (by omega) (by omega)
    by_cases c1 : 0 < v
    · obtain ⟨w, P2, e2, w0, w9, hP2⟩ := hd P1 R c hP1 (by omega) (by omega)
      refine ⟨.lt w.toNat, P2, ?_, rfl, by simp [Fm.ok]; omega, hP2⟩
      simp [e1, e2, c1, enc]
      omega
    · exact ⟨.fls, P1, by simp [e1, c1, enc], rfl, rfl, hP1⟩
  by_cases c0 : deep = 0
  · obtain ⟨f, P', e, h1, h2, h3⟩ := leaf P hP
    refine ⟨f, P', ?_, by omega, h2, h3⟩
    have eb : b__law_little fd fs [some (.ref 0), some (.int (deep : Int)), some (.int (c : Int)), none, none] (.lst P :: R) = some (.rt (enc f) (.lst P' :: R)) := by
      unfold b__law_little
      rw [sSeq_e, sIf_e]
      have t : (tOrM (tru (mBin eqF (mVar 1) (mC (.int 0)))) (tru (mBin eqF (mCallN 2 fd (mCons (mVar 0) (mCons (mC (.int 4)) mNil))) (mC (.int 0))))) [some (.ref 0), some (.int (deep : Int)), some (.int (c : Int)), none, none] (.lst P :: R) = some (true, .lst P :: R) := by
        simp [c0]
      rw [t]
      simp only [e]
    simp [fnF, eb]
  · obtain ⟨v, P1, e1, v0, v9, hP1⟩ := hd P R 4 hP (by omega) (by omega)
    by_cases c1 : v = 0
    · obtain ⟨f, P', e, h1, h2, h3⟩ := leaf P1 hP1
      refine ⟨f, P', ?_, by omega, h2, h3⟩
      have eb : b__law_little fd fs [some (.ref 0), some (.int (deep : Int)), some (.int (c : Int)), none, none] (.lst P :: R) = some (.rt (enc f) (.lst P' :: R)) := by
        unfold b__law_little
        rw [sSeq_e, sIf_e]
        have t : (tOrM (tru (mBin eqF (mVar 1) (mC (.int 0)))) (tru (mBin eqF (mCallN 2 fd (mCons (mVar 0) (mCons (mC (.int 4)) mNil))) (mC (.int 0))))) [some (.ref 0), some (.int (deep : Int)), some (.int (c : Int)), none, none] (.lst P :: R) = some (true, .lst P1 :: R) := by
          simp [c0, e1, c1]
        rw [t]
        simp only [e]
      simp [fnF, eb]
    · obtain ⟨d, rfl⟩ : ∃ d, d + 1 = deep := ⟨deep - 1, by omega⟩
      obtain ⟨u, P2, e2, u0, u9, hP2⟩ := hd P1 R 4 hP1 (by omega) (by omega)
      obtain ⟨f, P3, e3, f1, f2, hP3⟩ := hs d rfl P2 R c hP2 hc1 hc2
      obtain ⟨g, P4, e4, g1, g2, hP4⟩ := hs d rfl P3 R c hP3 hc1 hc2
      have ed : ((d + 1 : Nat) : Int) - 1 = (d : Int) := by omega
      have hcases : u = 0 ∨ u = 1 ∨ u = 2 ∨ u = 3 := by omega
      have fin : ∀ o : Op, u = 0 ∧ o = .imp ∨ u = 1 ∧ o = .imp ∨ u = 2 ∧ o = .and ∨ u = 3 ∧ o = .or → ∃ f P', fnF 5 (b__law_little fd fs) [.ref 0, .int ((d + 1 : Nat) : Int), .int (c : Int)] (.lst P :: R) = some (enc f, .lst P' :: R) ∧ f.dp ≤ d + 1 + 1 ∧ f.ok = true ∧ PoolOk P' := fun o ho => by
        refine ⟨.bin o f g, P4, ?_, by rw [Fm.dp]; omega, by simp [Fm.ok, f2, g2], hP4⟩
        have c00 : ¬ (d : Int) + 1 = 0 := by omega
        rcases ho with ⟨rfl, rfl⟩ | ⟨rfl, rfl⟩ | ⟨rfl, rfl⟩ | ⟨rfl, rfl⟩ <;> simp [fnF, b__law_little, c00, e1, c1, e2, e3, e4, enc, Op.w]
      rcases hcases with rfl | rfl | rfl | rfl
      · exact fin .imp (.inl ⟨rfl, rfl⟩)
      · exact fin .imp (.inr (.inl ⟨rfl, rfl⟩))
      · exact fin .and (.inr (.inr (.inl ⟨rfl, rfl⟩)))
      · exact fin .or (.inr (.inr (.inr ⟨rfl, rfl⟩)))
theorem ev_pick {fd : F1} (hd : SDrw fd) {P : List D} (hP : PoolOk P) (R : Mo) (xs : List Fm) (h0 : 0 < xs.length) (h1 : xs.length < 100) : ∃ f P', f ∈ xs ∧ fnF 2 (b__law_pick fd) [.ref 0, .lst (xs.map enc)] (.lst P :: R) = some (enc f, .lst P' :: R) ∧ PoolOk P' := by
  obtain ⟨v, P1, e1, v0, v9, hP1⟩ := hd P R xs.length hP (by omega) (by omega)
  obtain ⟨n, rfl⟩ : ∃ n : Nat, (n : Int) = v := ⟨v.toNat, by omega⟩
  have hn : n < xs.length := by omega
  have hat : atF [.lst (xs.map enc), .int (n : Int)] (.lst P1 :: R) = some (enc xs[n], .lst P1 :: R) := ev_at (t := false) rfl (by rw [List.getElem?_map, List.getElem?_eq_getElem hn]; rfl)
  exact ⟨xs[n], P1, List.getElem_mem hn, by simp [fnF, b__law_pick, e1, hat], hP1⟩
theorem ev_deny (f : Fm) (M : Mo) : fnF 1 b__law_deny [enc f] M = some (enc (.bin .imp f .fls), M) := by
  simp [fnF, b__law_deny]
  exact enc_bin .imp f .fls
def SHold (fv : F1) (q : Fm → Prop) : Prop := ∀ f r M, q f → f.ok = true → r.length = 4 → fv [enc f, rowD r] M = some (.bl (f.val r), M)
theorem ev_holds {fv : F1} {q : Fm → Prop} (hv : SHold fv q) (f : Fm) (r : List Bool) (M : Mo) (hf : f.ok = true) (hr : r.length = 4) (hq : ∀ o a b, f = .bin o a b → q a ∧ q b) :
    fnF 4 (b__law_holds_in fv) [enc f, rowD r] M = some (.bl (f.val r), M) := by
  cases f with
  | lt n =>
    have hn : n < 4 := by simpa [Fm.ok] using hf
    have e : (r.map I)[n]? = some (I (r.getD n false)) := by
      rw [List.getElem?_map, List.getD_eq_getElem?_getD]
      rw [List.getElem?_eq_getElem (by omega)]
      rfl
    have h := ev_at (c := .tup (r.map I)) (t := true) (M := M) rfl e
    have a1 : ∀ M, atF [enc (.lt n), .int 1] M = some (.int (n : Int), M) := fun M => ev_at1 _ _ _ _
    cases hb : r.getD n false <;> rw [hb] at h <;> simp [-List.getD_eq_getElem?_getD, fnF, b__law_holds_in, a1, rowD, h, Fm.val, hb, b2i]
  | fls => simp [fnF, b__law_holds_in, Fm.val]
  | bin o a b =>
    obtain ⟨qa, qb⟩ := hq o a b rfl
    simp only [Fm.ok, Bool.and_eq_true] at hf
    have h1 := fun M => hv a r M qa hf.1 hr
    have h2 := fun M => hv b r M qb hf.2 hr
    rw [Fm.val]
    cases ha : a.val r <;> cases hb : b.val r <;> rw [ha] at h1 <;> rw [hb] at h2 <;> cases o <;> simp [fnF, b__law_holds_in, h1, h2, Op.w, Op.ap]
end Law

set_option Elab.async false
set_option linter.all false
set_option maxRecDepth 100000
set_option maxHeartbeats 1000000
/-! k83: rows, letters, what lies between. -/
namespace Law
open PySem PySem.Spec G

theorem allrows_body (M : Mo) : b__law_all_rows [none, none, none] M = some (.rt (.lst (allRows.map rowD)) M) := by kernel_rfl
theorem ev_allrows (M : Mo) : fnF 3 b__law_all_rows [] M = some (.lst (allRows.map rowD), M) := by
  have e := allrows_body M
  simp [fnF, e]
theorem ev_always {fr fv : F1} (hr : ∀ M, fr [] M = some (.lst (allRows.map rowD), M)) {f : Fm} (hv : ∀ r M, r.length = 4 → fv [enc f, rowD r] M = some (.bl (f.val r), M)) (M : Mo) : fnF 2 (b__law_always fr fv) [enc f] M = some (.bl (taut f), M) := by
  have hc := comp_typed (g := gName 1) (c := tNotM (tru (mCallN 2 fv (mCons (mVar 0) (mCons (mVar 1) mNil))))) (m := mVar 1) (vs := [1]) (lo := [some (enc f), none]) (M := M) (ei := rowD) (eo := rowD) (p := fun r => !f.val r) (f := fun r => r) allRows fun r hrr => by
    refine ⟨[some (enc f), some (rowD r)], by simp [wipeD], ?_, fun _ => by simp⟩
    simp [hv r M (allRows_len hrr)]
  have ht : taut f = decide (allRows.filter (fun r => !f.val r) = []) := by
    unfold taut
    rw [Bool.eq_iff_iff, decide_eq_true_eq, List.filter_eq_nil_iff, List.all_eq_true]
    exact ⟨fun h r hr => by simp [h r hr], fun h r hr => by simpa using h r hr⟩
  have hl : allRows.length ≤ 16777216 := by decide
  rw [ht]
  simp [fnF, b__law_always, hr, hc, hl]
/-- the letters as they stand -/
def Fm.occ : Fm → List Int
  | .lt n => [n]
  | .fls => []
  | .bin _ a b => a.occ ++ b.occ
theorem mem_occ : ∀ {f : Fm} {x : Int}, x ∈ f.occ ↔ x ∈ f.ls
  | .lt n, x => by simp [Fm.occ, Fm.ls]
  | .fls, x => by simp [Fm.occ, Fm.ls]
  | .bin o a b, x => by rw [bin_ls, Fm.occ, List.mem_append, mem_occ, mem_occ]
theorem occ_len : ∀ f : Fm, f.occ.length ≤ f.nd
  | .lt n => by simp [Fm.occ, Fm.nd]
  | .fls => by simp [Fm.occ]
  | .bin o a b => by
    have := occ_len a
    have := occ_len b
    simp only [Fm.occ, List.length_append, Fm.nd]
    omega
theorem cut_1 (x : D) : cutD [x] (some 1) none = [] := rfl
theorem cut_3 (x y z : D) : cutD [x, y, z] (some 1) none = [y, z] := rfl
def SOcc (fl : F1) (q : Fm → Prop) : Prop := ∀ f M, q f → f.nd ≤ 16777216 → fl [enc f] M = some (.lst (f.occ.map D.int), M)
theorem ev_occ {fl : F1} {q : Fm → Prop} (hl : SOcc fl q) (f : Fm) (M : Mo) (hn : f.nd ≤ 16777216) (hq : ∀ o a b, f = .bin o a b → q a ∧ q b) : fnF 3 (b__law_letters_of fl) [enc f] M = some (.lst (f.occ.map D.int), M) := by
  cases f with
  | lt n => simp [fnF, b__law_letters_of, enc, Fm.occ]
  | fls => simp [fnF, b__law_letters_of, enc, Fm.occ, cut_1, seqOf]
  | bin o a b =>
    obtain ⟨qa, qb⟩ := hq o a b rfl
    rw [Fm.nd] at hn
    have h1 := fun M => hl a M qa (by omega)
    have h2 := fun M => hl b M qb (by omega)
    have l1 := occ_len a
    have l2 := occ_len b
    have hc : a.occ.length + b.occ.length ≤ 16777216 := by omega
    have hc1 : a.occ.length ≤ 16777216 := by omega
    cases o <;> simp [fnF, b__law_letters_of, enc, h1, h2, Fm.occ, Op.w, hc, hc1, cut_3, seqOf, for_cons]
theorem ev_nin_int {x : Int} {ns : List Int} {M : Mo} : ninF [.int x, .lst (ns.map D.int)] M = some (.bl (!decide (x ∈ ns)), M) := by
  have hd : ∀ ns : List Int, D.dats (ns.map D.int) = true ∧ D.deps (ns.map D.int) = 0 := by
    intro ns
    induction ns with
    | nil => exact ⟨rfl, rfl⟩
    | cons n ns ih => simp [D.dats, D.deps, D.dat, D.dep, ih.1, ih.2]
  rw [ev_ninL rfl (hd ns).1 (by simp [D.dep]) (by rw [(hd ns).2]; omega)]
  simp
theorem ev_ne_nil (M : Mo) : neF [.lst [], .lst []] M = some (.bl false, M) := by
  rw [ev_ne rfl rfl (by simp [D.dep, D.deps]) (by simp [D.dep, D.deps])]
  simp
theorem ev_lies {fa fl : F1} {one two v : Fm} {M : Mo} (hn : v.nd ≤ 16777216) (h1 : fl [enc one] M = some (.lst (one.occ.map D.int), M)) (h2 : fl [enc two] M = some (.lst (two.occ.map D.int), M)) (h3 : fl [enc v] M = some (.lst (v.occ.map D.int), M))
    (t1 : fa [enc (.bin .imp one v)] M = some (.bl true, M)) (t2 : fa [enc (.bin .imp v two)] M = some (.bl true, M)) (hv : ∀ x ∈ v.ls, x ∈ one.ls ∧ x ∈ two.ls) :
    fnF 4 (b__law_lies fa fl) [enc one, enc two, enc v] M = some (.bl true, M) := by
  have e1 : fa [.tup [.str "if", enc one, enc v]] M = some (.bl true, M) := t1
  have e2 : fa [.tup [.str "if", enc v, enc two]] M = some (.bl true, M) := t2
  have hc := comp_typed (g := gName 3) (c := tOrM (tru (mBin ninF (mVar 3) (mCallN 1 fl (mCons (mVar 0) mNil)))) (tru (mBin ninF (mVar 3) (mCallN 1 fl (mCons (mVar 1) mNil))))) (m := mVar 3) (vs := [3]) (lo := [some (enc one), some (enc two), some (enc v), none]) (M := M) (ei := D.int) (eo := D.int) (p := fun _ => false) (f := fun r => r) v.occ fun x hx => by
    obtain ⟨m1, m2⟩ := hv x (mem_occ.mp hx)
    have n1 := mem_occ.mpr m1
    have n2 := mem_occ.mpr m2
    refine ⟨[some (enc one), some (enc two), some (enc v), some (.int x)], by simp [wipeD], ?_, fun h => by cases h⟩
    simp [h1, h2, ev_nin_int, n1, n2]
  have h0 : ∀ l : List Int, l.filter (fun _ => false) = [] := fun l => by simp
  simp only [h0, List.map_nil] at hc
  have hl : v.occ.length ≤ 16777216 := by have := occ_len v; omega
  simp [fnF, b__law_lies, h3, hc, hl, ev_ne_nil, e1, e2]
end Law

set_option Elab.async false
set_option linter.all false
set_option maxRecDepth 100000
set_option maxHeartbeats 1000000
/-! k83: trimmed. -/
namespace Law
open PySem PySem.Spec G

theorem ev_premises_long {fw : F1} (hw : SWith fw) (s : Sq) (o : Op) (l : Bool) (a b : Fm) (r : List D) (M : Mo) (hs : SmallS s) (hm : Fm.bin o a b ∈ (if l then s.1 else s.2)) :
    fnF 8 (b_premises fw) [seqD s, .tup (.str (Str.ofString (o.wd l)) :: enc (.bin o a b) :: r)] M = some (.lst ((prem o l a b s).map seqD), M) := by
  obtain ⟨L, R⟩ := s
  obtain ⟨h1, h2, h3, h4⟩ := hs
  simp only at h1 h2 h3 h4 hm
  have hd : (Fm.bin o a b).dp ≤ 8 := by
    cases l
    · exact h4 _ hm
    · exact h3 _ hm
  have ha : a.dp ≤ 8 := by rw [Fm.dp] at hd; omega
  have hb : b.dp ≤ 8 := by rw [Fm.dp] at hd; omega
  have sL : Small L := ⟨by omega, h3⟩
  have sR : Small R := ⟨by omega, h4⟩
  have wl1 := fun f hf M => hw L f M sL hf
  have wr1 := fun f hf M => hw R f M sR hf
  have wl2 := hw (wOne L a) b
  have wr2 := hw (wOne R a) b
  have sla : Small (wOne L a) := small_wOne (by omega) h3 ha
  have sra : Small (wOne R a) := small_wOne (by omega) h4 ha
  have iL := fun M => ev_nin_enc (f := .bin o a b) (fs := L) (M := M) (by omega) (fun g hg => by have := h3 g hg; omega)
  have iR := fun M => ev_nin_enc (f := .bin o a b) (fs := R) (M := M) (by omega) (fun g hg => by have := h4 g hg; omega)
  obtain ⟨e1, e2, e3, e4, e5, e6⟩ := ends_words
  cases o <;> cases l <;> simp only [if_true, Bool.false_eq_true, if_false] at hm <;>
    simp [fnF, b_premises, seqD, Op.wd, Op.w, prem, adds, addAll, ev_nin_pairs, ev_nin_two, iL, iR, hm, e1, e2, e3, e4, e5, e6, wl1, wr1, wl2, wr2, ha, hb, sla, sra]
theorem ev_eq_seq {s t : Sq} (hs : Flat s) (ht : Flat t) (M : Mo) : eqF [seqD t, seqD s] M = some (.bl (decide (t = s)), M) := by
  rw [ev_eq (seqD_dat t) (seqD_dat s) (by have := seqD_dep ht; omega) (by have := seqD_dep hs; omega)]
  simp only [seqD_inj]
theorem cut_up2 (x y : D) (r : List D) : cutD (x :: y :: r) none (some 2) = [x, y] := by
  unfold cutD
  have : HT.sIx (x :: y :: r).length (x :: y :: r).length (some 2) = 2 := by
    simp [HT.sIx]
  rw [this]
  rfl
theorem kind_lst (ds : List D) : kindOf (.lst ds) = some (false, ds) := rfl
section
variable {fp ft : F1} {s : Sq} {M : Mo}
theorem trim_head (hs : Flat s) (hlen : s.1.length < 60) (v : D) :
    (Fm.fls ∈ s.1 → fnF 9 (b_trimmed fp ft) [seqD s, v] M = some (pfD .fls, M)) ∧
    (∀ f fs, Fm.fls ∉ s.1 → s.1.filter (fun f => decide (f ∈ s.2)) = f :: fs → fnF 9 (b_trimmed fp ft) [seqD s, v] M = some (pfD (.ax f), M)) := by
  have hin : inF [enc .fls, .tup (s.1.map enc)] M = some (.bl (decide (Fm.fls ∈ s.1)), M) := ev_in_enc (by simp [Fm.dp]) fun g hg => by have := hs.1 g hg; omega
  have g2 : ∀ (lo : Lo), (gTup 2 (gsCons (gName 2) (gsCons (gName 3) gsNil))) (seqD s) lo M = some ((lo.set 2 (some (.tup (s.1.map enc)))).set 3 (some (.tup (s.2.map enc))), M) := fun lo => by simp [seqD]
  refine ⟨fun c1 => ?_, fun f fs c1 hb => ?_⟩
  · have e : inF [enc .fls, .tup (s.1.map enc)] M = some (.bl true, M) := by rw [hin]; simp [c1]
    simp [-gTup_e, fnF, b_trimmed, g2, e, pfD]
  · have e : inF [enc .fls, .tup (s.1.map enc)] M = some (.bl false, M) := by rw [hin]; simp [c1]
    have hc := comp_typed (g := gName 8) (c := tru (mBin inF (mVar 8) (mVar 3))) (m := mVar 8) (vs := [8]) (lo := [some (seqD s), some v, some (.tup (s.1.map enc)), some (.tup (s.2.map enc)), none, none, none, none, none]) (M := M) (ei := enc) (eo := enc) (p := fun f => decide (f ∈ s.2)) (f := fun f => f) s.1 fun f hf => by
      have ei : inF [enc f, .tup (s.2.map enc)] M = some (.bl (decide (f ∈ s.2)), M) := ev_in_enc (by have := hs.1 f hf; omega) fun g hg => by have := hs.2 g hg; omega
      exact ⟨_, rfl, by simp [wipeD, ei], fun _ => by simp [wipeD]⟩
    rw [hb] at hc
    have hlen2 : s.1.length ≤ 16777216 := by omega
    simp [-gTup_e, fnF, b_trimmed, g2, e, hc, pfD, hlen2]
theorem trim_node (hs : Flat s) (hlen : s.1.length < 60) (c1 : Fm.fls ∉ s.1) (hb : s.1.filter (fun f => decide (f ∈ s.2)) = []) {l : Bool} {o : Op} {a b : Fm} {ps qs : List Pf} {ts : List Sq} (hp : fp [seqD s, pfD (.node l o a b ps)] M = some (.lst (ts.map seqD), M))
    (hts : ∀ t ∈ ts, Flat t) :
    (∀ t p q, ts = [t] → ps = [p] → ft [seqD t, pfD p] M = some (pfD q, M) → fnF 9 (b_trimmed fp ft) [seqD s, pfD (.node l o a b ps)] M = some (pfD (if t = s then q else .node l o a b [q]), M)) ∧
    (∀ t p q t2 p2 q2, ts = [t, t2] → ps = [p, p2] → ft [seqD t, pfD p] M = some (pfD q, M) → ft [seqD t2, pfD p2] M = some (pfD q2, M) → fnF 9 (b_trimmed fp ft) [seqD s, pfD (.node l o a b ps)] M = some (pfD (if t = s then q else if t2 = s then q2 else .node l o a b [q, q2]), M)) := by
  have hin : inF [enc .fls, .tup (s.1.map enc)] M = some (.bl (decide (Fm.fls ∈ s.1)), M) := ev_in_enc (by simp [Fm.dp]) fun g hg => by have := hs.1 g hg; omega
  have g2 : ∀ (lo : Lo), (gTup 2 (gsCons (gName 2) (gsCons (gName 3) gsNil))) (seqD s) lo M = some ((lo.set 2 (some (.tup (s.1.map enc)))).set 3 (some (.tup (s.2.map enc))), M) := fun lo => by simp [seqD]
  have e : inF [enc .fls, .tup (s.1.map enc)] M = some (.bl false, M) := by rw [hin]; simp [c1]
  have hlen2 : s.1.length ≤ 16777216 := by omega
  have g3 : ∀ (x y : D) (lo : Lo), (gTup 2 (gsCons (gName 6) (gsCons (gName 7) gsNil))) (.tup [x, y]) lo M = some ((lo.set 6 (some x)).set 7 (some y), M) := fun x y lo => by simp
  have hc := comp_typed (g := gName 8) (c := tru (mBin inF (mVar 8) (mVar 3))) (m := mVar 8) (vs := [8]) (lo := [some (seqD s), some (pfD (.node l o a b ps)), some (.tup (s.1.map enc)), some (.tup (s.2.map enc)), none, none, none, none, none]) (M := M) (ei := enc) (eo := enc) (p := fun f => decide (f ∈ s.2)) (f := fun f => f) s.1 fun f hf => by
    have ei : inF [enc f, .tup (s.2.map enc)] M = some (.bl (decide (f ∈ s.2)), M) := ev_in_enc (by have := hs.1 f hf; omega) fun g hg => by have := hs.2 g hg; omega
    exact ⟨_, rfl, by simp [wipeD, ei], fun _ => by simp [wipeD]⟩
  rw [hb] at hc
  have eq := fun t ht => ev_eq_seq hs (hts t ht) M
  refine ⟨fun t p q h1 h2 f1 => ?_, fun t p q t2 p2 q2 h1 h2 f1 f2 => ?_⟩
  · subst h1 h2
    have q1 := eq t (by simp)
    simp only [pfD, pfDs, List.map_nil, List.map_cons] at hp hc
    by_cases d1 : t = s
    · subst d1
      simp [-gTup_e, fnF, b_trimmed, g2, g3, e, hc, pfD, pfDs, hlen2, hp, cut2, cut_up2, zipD, kind_lst, kind_tup, for_cons, q1, f1]
    · simp [-gTup_e, fnF, b_trimmed, g2, g3, e, hc, pfD, pfDs, hlen2, hp, cut2, cut_up2, zipD, kind_lst, kind_tup, for_cons, q1, f1, d1, compLoop, wipeD]
  · subst h1 h2
    have q1 := eq t (by simp)
    have q2' := eq t2 (by simp)
    simp only [pfD, pfDs, List.map_nil, List.map_cons] at hp hc
    by_cases d1 : t = s
    · subst d1
      simp [-gTup_e, fnF, b_trimmed, g2, g3, e, hc, pfD, pfDs, hlen2, hp, cut2, cut_up2, zipD, kind_lst, kind_tup, for_cons, q1, f1]
    · by_cases d2 : t2 = s
      · subst d2
        simp [-gTup_e, fnF, b_trimmed, g2, g3, e, hc, pfD, pfDs, hlen2, hp, cut2, cut_up2, zipD, kind_lst, kind_tup, for_cons, q1, f1, d1, q2', f2]
      · simp [-gTup_e, fnF, b_trimmed, g2, g3, e, hc, pfD, pfDs, hlen2, hp, cut2, cut_up2, zipD, kind_lst, kind_tup, for_cons, q1, f1, d1, q2', f2, d2, compLoop, wipeD]
end
end Law

set_option Elab.async false
set_option linter.all false
set_option maxRecDepth 100000
set_option maxHeartbeats 1000000
/-! k83: trimmed, over whole proofs; how large proofs and what lies between are. -/
namespace Law
open PySem PySem.Spec G

mutual
def Pf.sz : Pf → Nat
  | .fls => 1
  | .ax _ => 1
  | .node _ _ _ _ ps => Pf.szs ps + 1
def Pf.szs : List Pf → Nat
  | [] => 0
  | p :: ps => p.sz + Pf.szs ps
end
theorem Pf.sz_pos : ∀ p : Pf, 1 ≤ p.sz
  | .fls => Nat.le_refl _
  | .ax _ => Nat.le_refl _
  | .node _ _ _ _ ps => by rw [Pf.sz]; omega
theorem derAll_one {t : Sq} {ps : List Pf} (h : DerAll [t] ps) : ∃ p, ps = [p] ∧ Der t p := by
  cases h with
  | cons d ds =>
    cases ds
    exact ⟨_, rfl, d⟩
theorem derAll_two {t t2 : Sq} {ps : List Pf} (h : DerAll [t, t2] ps) : ∃ p p2, ps = [p, p2] ∧ Der t p ∧ Der t2 p2 := by
  cases h with
  | cons d ds =>
    obtain ⟨p2, rfl, d2⟩ := derAll_one ds
    exact ⟨_, _, rfl, d, d2⟩
theorem inU_small {U : List (Bool × Fm)} (hU : UOk U) {s : Sq} (hs : InU U s) : SmallS s ∧ Flat s := by
  have l1 : s.1.length ≤ U.length := by
    have := nodup_len (s.1.map fun f => (true, f)) U (List.pairwise_map.mpr (hs.c1.1.imp fun h e => h (by cases e; rfl))) fun x hx => by
      obtain ⟨f, hf, rfl⟩ := List.mem_map.mp hx
      exact hs.mem true f hf
    simpa using this
  have l2 : s.2.length ≤ U.length := by
    have := nodup_len (s.2.map fun f => (false, f)) U (List.pairwise_map.mpr (hs.c2.1.imp fun h e => h (by cases e; rfl))) fun x hx => by
      obtain ⟨f, hf, rfl⟩ := List.mem_map.mp hx
      exact hs.mem false f hf
    simpa using this
  have d1 : ∀ f ∈ s.1, f.dp ≤ 8 := fun f hf => hU.dp _ (hs.mem true f hf)
  have d2 : ∀ f ∈ s.2, f.dp ≤ 8 := fun f hf => hU.dp _ (hs.mem false f hf)
  have := hU.len
  exact ⟨⟨by omega, by omega, d1, d2⟩, d1, d2⟩
/-- what trimmed promises -/
structure Trim (s : Sq) (p q : Pf) : Prop where
  der : Der s q
  dep : (pfD q).dep ≤ (pfD p).dep + 10
  sz : q.sz ≤ p.sz
theorem trim_der {U : List (Bool × Fm)} (hU : UOk U) {fT fP : Nat → F1} (hT : ∀ k, fT (k + 1) = fnF 9 (b_trimmed (fP k) (fT k)))
    (hP : ∀ k s l o a b ps M, 2 ≤ k → SmallS s → Fm.bin o a b ∈ side l s → fP k [seqD s, pfD (.node l o a b ps)] M = some (.lst ((prem o l a b s).map seqD), M)) :
    ∀ n s p, Der s p → (pfD p).dep ≤ n → InU U s → ∃ q, Trim s p q ∧ ∀ k M, n + 3 ≤ k → fT k [seqD s, pfD p] M = some (pfD q, M)
  | 0, s, p, d, hn, hs => by cases p <;> simp [pfD, D.dep] at hn
  | n + 1, s, p, d, hn, hs => by
    obtain ⟨sm, fl⟩ := inU_small hU hs
    by_cases c1 : Fm.fls ∈ s.1
    · refine ⟨.fls, ⟨.fls c1, by simp [pfD, D.dep, D.deps], Pf.sz_pos p⟩, fun k M hk => ?_⟩
      obtain ⟨k, rfl⟩ : ∃ j, k = j + 1 := ⟨k - 1, by omega⟩
      rw [hT]
      exact (trim_head fl sm.l (pfD p)).1 c1
    cases hb : s.1.filter fun f => decide (f ∈ s.2) with
    | cons f fs =>
      have m : f ∈ s.1.filter fun f => decide (f ∈ s.2) := by rw [hb]; exact List.mem_cons_self
      rw [List.mem_filter] at m
      have m2 : f ∈ s.2 := by simpa using m.2
      have hf := sm.dl f m.1
      refine ⟨.ax f, ⟨.ax m.1 m2, by simp [pfD, D.dep, D.deps]; omega, Pf.sz_pos p⟩, fun k M hk => ?_⟩
      obtain ⟨k, rfl⟩ : ∃ j, k = j + 1 := ⟨k - 1, by omega⟩
      rw [hT]
      exact (trim_head fl sm.l (pfD p)).2 f fs c1 hb
    | nil =>
      cases d with
      | fls h => exact absurd h c1
      | ax h1 h2 =>
        rename_i f
        have : f ∈ s.1.filter fun f => decide (f ∈ s.2) := List.mem_filter.mpr ⟨h1, by simpa using h2⟩
        rw [hb] at this
        cases this
      | node hm ds =>
        rename_i l o a b ps
        have inP : ∀ t ∈ prem o l a b s, InU U t := fun t ht => (hs.prem hU.cl hm ht).1
        have e : (pfD (.node l o a b ps)).dep = max (Fm.bin o a b).dp (D.deps (pfDs ps)) + 1 := by
          simp only [pfD, D.dep, D.deps, enc_dep]
          omega
        have plen : (∃ t, prem o l a b s = [t]) ∨ ∃ t t2, prem o l a b s = [t, t2] := by
          cases o <;> cases l <;> simp [prem, adds]
        have hflat : ∀ t ∈ prem o l a b s, Flat t := fun t ht => (inU_small hU (inP t ht)).2
        have hPP := fun k M hk => hP k s l o a b ps M hk sm hm
        rcases plen with ⟨t, ht⟩ | ⟨t, t2, ht⟩
        · rw [ht] at ds inP hflat hPP
          obtain ⟨p1, rfl, d1⟩ := derAll_one ds
          simp only [pfDs, D.deps] at e
          obtain ⟨q1, T1, E1⟩ := trim_der hU hT hP n t p1 d1 (by omega) (inP t (by simp))
          have j1 := T1.dep
          have j2 := T1.sz
          refine ⟨if t = s then q1 else .node l o a b [q1], ?_, fun k M hk => ?_⟩
          · by_cases c : t = s
            · rw [if_pos c]
              subst c
              exact ⟨T1.der, by omega, by simp only [Pf.sz, Pf.szs]; omega⟩
            · rw [if_neg c]
              refine ⟨.node hm (ht ▸ .cons T1.der .nil), ?_, by simp only [Pf.sz, Pf.szs]; omega⟩
              rw [e]
              simp only [pfD, pfDs, D.dep, D.deps, enc_dep]
              omega
          · obtain ⟨k, rfl⟩ : ∃ j, k = j + 1 := ⟨k - 1, by omega⟩
            rw [hT]
            exact (trim_node fl sm.l c1 hb (ps := [p1]) (qs := []) (hPP k M (by omega)) hflat).1 t p1 q1 rfl rfl (E1 k M (by omega))
        · rw [ht] at ds inP hflat hPP
          obtain ⟨p1, p2, rfl, d1, d2⟩ := derAll_two ds
          simp only [pfDs, D.deps] at e
          obtain ⟨q1, T1, E1⟩ := trim_der hU hT hP n t p1 d1 (by omega) (inP t (by simp))
          obtain ⟨q2, T2, E2⟩ := trim_der hU hT hP n t2 p2 d2 (by omega) (inP t2 (by simp))
          have j1 := T1.dep
          have j2 := T1.sz
          have j3 := T2.dep
          have j4 := T2.sz
          refine ⟨if t = s then q1 else if t2 = s then q2 else .node l o a b [q1, q2], ?_, fun k M hk => ?_⟩
          · by_cases c : t = s
            · rw [if_pos c]
              subst c
              exact ⟨T1.der, by omega, by simp only [Pf.sz, Pf.szs]; omega⟩
            · rw [if_neg c]
              by_cases c2 : t2 = s
              · rw [if_pos c2]
                subst c2
                exact ⟨T2.der, by omega, by simp only [Pf.sz, Pf.szs]; omega⟩
              · rw [if_neg c2]
                refine ⟨.node hm (ht ▸ .cons T1.der (.cons T2.der .nil)), ?_, by simp only [Pf.sz, Pf.szs]; omega⟩
                rw [e]
                simp only [pfD, pfDs, D.dep, D.deps, enc_dep]
                omega
          · obtain ⟨k, rfl⟩ : ∃ j, k = j + 1 := ⟨k - 1, by omega⟩
            rw [hT]
            exact (trim_node fl sm.l c1 hb (ps := [p1, p2]) (qs := []) (hPP k M (by omega)) hflat).2 t p1 q1 t2 p2 q2 rfl rfl (E1 k M (by omega)) (E2 k M (by omega))
end Law

set_option Elab.async false
set_option linter.all false
set_option maxRecDepth 100000
set_option maxHeartbeats 1000000
/-! k83: how large proofs and what lies between are. -/
namespace Law
open PySem PySem.Spec G

theorem addAll_same {s fs : List Fm} (h : IsCanon s) (m : ∀ f ∈ fs, f ∈ s) : addAll s fs = s :=
  (addAll_is h fs).ext h fun f => ⟨fun z => (mem_addAll.mp z).elim id (m f), fun z => mem_addAll.mpr (.inl z)⟩
theorem prem_mono {U : List (Bool × Fm)} {s t : Sq} (ht : InU U t) (sub : ∀ l f, f ∈ side l s → f ∈ side l t) {o : Op} {l : Bool} {a b : Fm} (h : s ∈ prem o l a b s) : t ∈ prem o l a b t := by
  obtain ⟨p, hp, e⟩ := mem_prem_side h
  refine List.mem_map.mpr ⟨p, hp, ?_⟩
  have e1 : addAll s.1 p.1 = s.1 := (congrArg Prod.fst e).symm
  have e2 : addAll s.2 p.2 = s.2 := (congrArg Prod.snd e).symm
  have m1 : ∀ f ∈ p.1, f ∈ t.1 := fun f hf => sub true f (show f ∈ s.1 by rw [← e1]; exact mem_addAll.mpr (.inr hf))
  have m2 : ∀ f ∈ p.2, f ∈ t.2 := fun f hf => sub false f (show f ∈ s.2 by rw [← e2]; exact mem_addAll.mpr (.inr hf))
  rw [addAll_same ht.c1 m1, addAll_same ht.c2 m2]
theorem prem_self {U : List (Bool × Fm)} {s t : Sq} (ht : InU U t) {o : Op} {l : Bool} {a b : Fm} (h : t ∈ prem o l a b s) : t ∈ prem o l a b t := by
  obtain ⟨p, hp, e⟩ := mem_prem_side h
  refine List.mem_map.mpr ⟨p, hp, ?_⟩
  have m1 : ∀ f ∈ p.1, f ∈ t.1 := fun f hf => by rw [e]; exact mem_addAll.mpr (.inr hf)
  have m2 : ∀ f ∈ p.2, f ∈ t.2 := fun f hf => by rw [e]; exact mem_addAll.mpr (.inr hf)
  rw [addAll_same ht.c1 m1, addAll_same ht.c2 m2]
/-- how many of U still lead on -/
def lead (U : List (Bool × Fm)) (s : Sq) : Nat := (U.filter fun q => leads q.1 s q.2).length
theorem lead_lt {U : List (Bool × Fm)} (hU : Closed U) {s t : Sq} (hs : InU U s) {o : Op} {l : Bool} {a b : Fm} (m : Fm.bin o a b ∈ side l s) (hne : s ∉ prem o l a b s) (ht : t ∈ prem o l a b s) : lead U t < lead U s := by
  obtain ⟨it, sub⟩ := hs.prem hU m ht
  refine filter_lt (fun q hq => ?_) ⟨(l, .bin o a b), hs.mem l _ m, by simp [leads, hne], by simp [leads, prem_self it ht]⟩
  obtain ⟨k, f⟩ := q
  cases f with
  | bin o' a' b' =>
    simp only [leads, Bool.not_eq_true', decide_eq_false_iff_not] at hq ⊢
    exact fun z => hq (prem_mono it sub z)
  | _ => simp [leads] at hq
theorem search_sz {U : List (Bool × Fm)} (hU : Closed U) {s : Sq} {r : Sq → Option Pf} (hs : InU U s) (hr : ∀ l o a b, stepOf s = some (l, .bin o a b) → ∀ t ∈ prem o l a b s, ∀ p, r t = some p → p.sz + 1 ≤ 2 ^ (lead U t + 1)) (p : Pf) (h : searchOf r s = some p) : p.sz + 1 ≤ 2 ^ (lead U s + 1) := by
  have p2 : 2 ≤ 2 ^ (lead U s + 1) := by
    have : 0 < 2 ^ lead U s := Nat.pow_pos (by omega)
    rw [Nat.pow_succ]; omega
  unfold searchOf at h
  by_cases c1 : Fm.fls ∈ s.1
  · rw [if_pos c1] at h
    cases h
    exact p2
  · rw [if_neg c1] at h
    cases hb : s.1.filter fun f => decide (f ∈ s.2) with
    | cons f fs =>
      rw [hb] at h
      cases h
      exact p2
    | nil =>
      rw [hb] at h
      cases hst : stepOf s with
      | none => rw [hst] at h; cases h
      | some q =>
        obtain ⟨l, f⟩ := q
        obtain ⟨o, a, b, rfl, hm, hne⟩ := stepOf_some hst
        rw [hst] at h
        have hr' := hr l o a b hst
        change (if noneIn ((prem o l a b s).map r) = true then none else some (Pf.node l o a b (((prem o l a b s).map r).filterMap id))) = some p at h
        cases hn : noneIn ((prem o l a b s).map r) with
        | true => rw [hn, if_pos rfl] at h; cases h
        | false =>
          rw [hn, if_neg (by simp)] at h
          cases h
          have lo := fun t ht => lead_lt hU hs hm hne (t := t) ht
          have each : ∀ t ∈ prem o l a b s, ∀ p, r t = some p → p.sz + 1 ≤ 2 ^ lead U s := fun t ht p hp => by
            have h1 := hr' t ht p hp
            have h2 : 2 ^ (lead U t + 1) ≤ 2 ^ lead U s := Nat.pow_le_pow_right (by omega) (lo t ht)
            omega
          rw [Pf.sz, Nat.pow_succ]
          have plen : (∃ t, prem o l a b s = [t]) ∨ ∃ t t2, prem o l a b s = [t, t2] := by
            cases o <;> cases l <;> simp [prem, adds]
          have pos : 0 < 2 ^ lead U s := Nat.pow_pos (by omega)
          rcases plen with ⟨t, ht⟩ | ⟨t, t2, ht⟩
          · rw [ht] at each ⊢
            have i1 := each t (by simp)
            cases e1 : r t with
            | none => simp [e1, Pf.szs]; omega
            | some x =>
              have := i1 x e1
              simp [e1, Pf.szs]; omega
          · rw [ht] at each ⊢
            have i1 := each t (by simp)
            have i2 := each t2 (by simp)
            cases e1 : r t with
            | none =>
              cases e2 : r t2 with
              | none => simp [e1, e2, Pf.szs]; omega
              | some y =>
                have := i2 y e2
                simp [e1, e2, Pf.szs]; omega
            | some x =>
              have := i1 x e1
              cases e2 : r t2 with
              | none => simp [e1, e2, Pf.szs]; omega
              | some y =>
                have := i2 y e2
                simp [e1, e2, Pf.szs]; omega
theorem srch_sz {U : List (Bool × Fm)} (hU : Closed U) : ∀ (n : Nat) (s : Sq), InU U s → ∀ p, srch n s = some p → p.sz + 1 ≤ 2 ^ (lead U s + 1)
  | 0, s, hs, p, h => search_sz hU hs (fun _ _ _ _ _ t ht p hp => by cases hp) p h
  | n + 1, s, hs, p, h => search_sz hU hs (fun l o a b hst t ht p hp => by
      obtain ⟨o', a', b', e, hm, hne⟩ := stepOf_some hst
      cases e
      exact srch_sz hU n t (hs.prem hU hm ht).1 p hp) p h

/-! ### what lies between -/
def nds : List Fm → Nat
  | [] => 0
  | f :: fs => f.nd + nds fs
theorem either_nd (a b : Fm) : (eitherF a b).nd ≤ a.nd + b.nd + 1 := by
  unfold eitherF
  split
  · rename_i h
    rcases h with h | h
    · rw [← h]; omega
    · rw [← h]; omega
  · split
    · omega
    · split
      · omega
      · rw [Fm.nd]; omega
theorem both_nd (a b : Fm) : (bothF a b).nd ≤ a.nd + b.nd + 1 := by
  unfold bothF
  split
  · rename_i h
    rcases h with h | h
    · rw [← h]; omega
    · rw [← h]; omega
  · split
    · omega
    · split
      · omega
      · rw [Fm.nd]; omega
theorem join_nd (h : Bool) : ∀ is : List Fm, (joinB h is).nd ≤ nds is + 1
  | [] => by simp [joinB, Fm.nd]
  | [x] => by simp [joinB, nds]
  | [x, y] => by
    have h1 := either_nd x y
    have h2 := both_nd x y
    simp only [joinB, nds]
    split <;> omega
  | _ :: _ :: _ :: _ => by simp [joinB, Fm.nd]
theorem axF_nd (q : Prt) (f : Fm) : (axF q f).nd ≤ f.nd + 2 := by
  have p : 1 ≤ f.nd := by cases f <;> simp [Fm.nd]
  have t : (turnedF f).nd ≤ f.nd + 2 := by
    unfold turnedF
    split
    · simp [tru0, Fm.nd]; omega
    · split
      · simp [Fm.nd]
      · simp [Fm.nd]
  unfold axF
  split
  · split
    · simp [Fm.nd]
    · simp [tru0, Fm.nd]; omega
  · split
    · omega
    · exact t
mutual
theorem bet_nd {U : List (Bool × Fm)} (hU : Closed U) {C : Nat} (hC : 3 ≤ C) (hn : ∀ u ∈ U, u.2.nd + 2 ≤ C) : ∀ {s : Sq} {p : Pf}, Der s p → InU U s → ∀ q : Prt, (betF p q).nd ≤ p.sz * C
  | s, _, .fls h, hs, q => by
    rw [betF, Pf.sz]
    split
    · simp [Fm.nd]; omega
    · simp [tru0, Fm.nd]; omega
  | s, _, .ax (f := f) h1 h2, hs, q => by
    rw [betF, Pf.sz]
    have := axF_nd q f
    have := hn _ (hs.mem true f h1)
    simp only at this
    omega
  | s, _, .node (l := l) (o := o) (a := a) (b := b) (ps := ps) hm ds, hs, q => by
    rw [betF, Pf.sz]
    have h1 := join_nd (halfOf q l (.bin o a b)) (betFs ps ((adds o l a b).map (addP q (halfOf q l (.bin o a b)))))
    have h2 := bet_nds hU hC hn ds (fun t ht => (hs.prem hU hm ht).1) ((adds o l a b).map (addP q (halfOf q l (.bin o a b))))
    rw [Nat.succ_mul]
    omega
theorem bet_nds {U : List (Bool × Fm)} (hU : Closed U) {C : Nat} (hC : 3 ≤ C) (hn : ∀ u ∈ U, u.2.nd + 2 ≤ C) : ∀ {ss : List Sq} {ps : List Pf}, DerAll ss ps → (∀ t ∈ ss, InU U t) → ∀ qs : List Prt, nds (betFs ps qs) ≤ Pf.szs ps * C
  | _, _, .nil, _, qs => by simp [betFs, nds]
  | _, _, .cons (p := p) (ps := ps) d ds, hin, qs => by
    cases qs with
    | nil => simp [betFs, nds]
    | cons q qs =>
      have h1 := bet_nd hU hC hn d (hin _ List.mem_cons_self) q
      have h2 := bet_nds hU hC hn ds (fun t ht => hin t (List.mem_cons_of_mem _ ht)) qs
      rw [betFs, nds, Pf.szs, Nat.add_mul]
      omega
end
end Law

set_option Elab.async false
set_option linter.all false
set_option maxRecDepth 100000
set_option maxHeartbeats 4000000
/-! k83: the law's own body. -/
namespace Law
open PySem PySem.Spec G

def ng (f : Fm) : Fm := .bin .imp f .fls
def sq1 (f g : Fm) : D := .tup [.tup [enc f], .tup [enc g]]
structure Told (falways fdeny flies flittle fpick fpool fequal finter ftheorem fsearch ftrim : F1) (sc : D) (P0 P1 P2 P3 P4 : List D) (a b c two : Fm) (told turned ag1 ag2 tr : Pf) (middle back again1 again2 second own : Fm) : Prop where
  pool : fpool [sc] [] = some (.ref 0, [.lst P0])
  lit1 : flittle [.ref 0, .int 2, .int 3] [.lst P0] = some (enc a, [.lst P1])
  lit2 : flittle [.ref 0, .int 1, .int 4] [.lst P1] = some (enc b, [.lst P2])
  lit3 : flittle [.ref 0, .int 1, .int 4] [.lst P2] = some (enc c, [.lst P3])
  pick : fpick [.ref 0, .lst [enc (.bin .or a b), enc (.bin .imp b a), enc a, enc (.bin .or b (.bin .or c a)), enc (.bin .imp (ng a) b)]] [.lst P3] = some (enc two, [.lst P4])
  deny : ∀ f M, fdeny [enc f] M = some (enc (ng f), M)
  alw : ∀ M, falways [enc (.bin .imp a two)] M = some (.bl true, M)
  thm : ∀ M, ftheorem [enc (.bin .imp a two)] M = some (.bl true, M)
  s1 : ∀ M, fsearch [sq1 a two] M = some (pfD told, M)
  i1 : ∀ M, finter [enc a, enc two, pfD told] M = some (enc middle, M)
  l1 : ∀ M, flies [enc a, enc two, enc middle] M = some (.bl true, M)
  s2 : ∀ M, fsearch [sq1 (ng two) (ng a)] M = some (pfD turned, M)
  i2 : ∀ M, finter [enc (ng two), enc (ng a), pfD turned] M = some (enc back, M)
  l2 : ∀ M, flies [enc (ng two), enc (ng a), enc back] M = some (.bl true, M)
  l3 : ∀ M, flies [enc (ng two), enc (ng a), enc (ng middle)] M = some (.bl true, M)
  l4 : ∀ M, flies [enc (.bin .and a c), enc two, enc middle] M = some (.bl true, M)
  l5 : ∀ M, flies [enc a, enc (.bin .or two c), enc middle] M = some (.bl true, M)
  s3 : ∀ M, fsearch [sq1 (.bin .and a c) two] M = some (pfD ag1, M)
  i3 : ∀ M, finter [enc (.bin .and a c), enc two, pfD ag1] M = some (enc again1, M)
  l6 : ∀ M, flies [enc (.bin .and a c), enc two, enc again1] M = some (.bl true, M)
  s4 : ∀ M, fsearch [sq1 a (.bin .or two c)] M = some (pfD ag2, M)
  i4 : ∀ M, finter [enc a, enc (.bin .or two c), pfD ag2] M = some (enc again2, M)
  l7 : ∀ M, flies [enc a, enc (.bin .or two c), enc again2] M = some (.bl true, M)
  t1 : ∀ M, ftrim [sq1 a two, pfD told] M = some (pfD tr, M)
  i5 : ∀ M, finter [enc a, enc two, pfD tr] M = some (enc second, M)
  l8 : ∀ M, flies [enc a, enc two, enc second] M = some (.bl true, M)
  l9 : ∀ M, flies [enc a, enc two, enc (.bin .and middle second)] M = some (.bl true, M)
  l10 : ∀ M, flies [enc a, enc two, enc (.bin .or middle second)] M = some (.bl true, M)
  i6 : ∀ M, finter [enc a, enc a, .tup [.str "axiom", enc a]] M = some (enc own, M)
  l11 : ∀ M, flies [enc a, enc a, enc own] M = some (.bl true, M)
  eq : ∀ M, fequal [enc own, enc a] M = some (.bl true, M)
theorem e_or (a b : Fm) : D.tup [.str "or", enc a, enc b] = enc (.bin .or a b) := rfl
theorem e_and (a b : Fm) : D.tup [.str "and", enc a, enc b] = enc (.bin .and a b) := rfl
theorem e_if (a b : Fm) : D.tup [.str "if", enc a, enc b] = enc (.bin .imp a b) := rfl
theorem e_sq (a b : Fm) : D.tup [.tup [enc a], .tup [enc b]] = sq1 a b := rfl
section
variable {falways fdeny flies flittle fpick fpool fequal finter ftheorem fsearch ftrim : F1} {sc : D} {P0 P1 P2 P3 P4 : List D} {a b c two : Fm} {told turned ag1 ag2 tr : Pf} {middle back again1 again2 second own : Fm}
theorem law_runs (T : Told falways fdeny flies flittle fpick fpool fequal finter ftheorem fsearch ftrim sc P0 P1 P2 P3 P4 a b c two told turned ag1 ag2 tr middle back again1 again2 second own) :
    ∃ M, fnF 17 (b_law falways fdeny flies flittle fpick fpool fequal finter ftheorem fsearch ftrim) [sc] [] = some (.bl true, M) := by
  obtain ⟨pool, lit1, lit2, lit3, pick, deny, alw, thm, s1, i1, l1, s2, i2, l2, l3, l4, l5, s3, i3, l6, s4, i4, l7, t1, i5, l8, l9, l10, i6, l11, eq⟩ := T
  have run : b_law falways fdeny flies flittle fpick fpool fequal finter ftheorem fsearch ftrim [some sc, none, none, none, none, none, none, none, none, none, none, none, none, none, none, none, none] [] = some (.rt (.bl true) [.lst P4]) := by
    unfold b_law
    simp [e_or, e_and, e_if, e_sq, pool, lit1, lit2, lit3, pick, deny, alw, thm, s1, i1, l1, s2, i2, l2, l3, l4, l5, s3, i3, l6, s4, i4, l7, t1, i5, l8, l9, l10, i6, l11, eq, for_cons]
  have ex := exit_cut (M := []) (E := [.lst P4]) (d := .bl true) (by simp [D.closed])
  exact ⟨[], by simp [fnF, run]; exact ex⟩
end
end Law

set_option Elab.async false
set_option linter.all false
set_option maxRecDepth 100000
set_option maxHeartbeats 1000000
/-! k83: are_equal. -/
namespace Law
open PySem PySem.Spec G

theorem bools_true : ∀ n : Nat, boolsOf (List.replicate n (D.bl true)) = some (List.replicate n true)
  | 0 => rfl
  | n + 1 => by rw [List.replicate_succ, boolsOf, bools_true n]; rfl
theorem ev_equal {fr fv : F1} {f g : Fm} {M : Mo} (hr : fr [.lst [.int 0, .int 1, .int 2, .int 3]] M = some (.lst ((rowsOf [0, 1, 2, 3]).map rowD), M)) (hf : ∀ r, r.length = 4 → fv [enc f, rowD r] M = some (I (f.val r), M)) (hg : ∀ r, r.length = 4 → fv [enc g, rowD r] M = some (I (g.val r), M))
    (e : ∀ r, f.val r = g.val r) : fnF 3 (b_are_equal fr fv) [enc f, enc g] M = some (.bl true, M) := by
  have hc := comp_map (g := gName 2) (m := mBin eqF (mCallN 2 fv (mCons (mVar 0) (mCons (mVar 2) mNil))) (mCallN 2 fv (mCons (mVar 1) (mCons (mVar 2) mNil)))) (vs := [2]) (lo := [some (enc f), some (enc g), none]) (M := M) (ei := rowD) (eo := fun _ : Unit => D.bl true) (f := fun _ => ()) (rowsOf [0, 1, 2, 3]) fun r hr2 => by
    refine ⟨[some (enc f), some (enc g), some (rowD r)], by simp [wipeD], ?_⟩
    simp [hf r (rows_len hr2), hg r (rows_len hr2), e r]
  have hm : ((rowsOf [0, 1, 2, 3]).map fun _ => ()).map (fun _ : Unit => D.bl true) = List.replicate (rowsOf [0, 1, 2, 3]).length (D.bl true) := by
    exact List.eq_replicate_iff.mpr ⟨by simp, by simp⟩
  rw [hm] at hc
  have ha : allF [.lst (List.replicate (rowsOf [0, 1, 2, 3]).length (D.bl true))] M = some (.bl true, M) := by
    simp [allF, bools_true]
  have hl : (rowsOf [0, 1, 2, 3]).length ≤ 16777216 := Nat.le_trans (List.length_filter_le _ _) (by decide)
  simp [fnF, b_are_equal, hr, hc, ha, hl]
end Law

set_option Elab.async false
set_option linter.all false
set_option maxRecDepth 100000
set_option maxHeartbeats 2000000
/-! k83: the levels, the law's truth. -/
namespace Law
open PySem PySem.Spec G

abbrev W (k i : Nat) : F1 := Fk fns k i
theorem up {k : Nat} (h : 1 ≤ k) : ∃ j, k = j + 1 := ⟨k - 1, by omega⟩
theorem w_contrary {k : Nat} (hk : 1 ≤ k) (f : Fm) (M : Mo) : W k 0 [enc f] M = some (enc (.bin .imp f .fls), M) := by
  obtain ⟨k, rfl⟩ := up hk
  exact (show W (k + 1) 0 = fnF 1 b_contrary from rfl) ▸ ev_contrary f M
theorem w_letters : ∀ k, SLet (W k 1) fun f => f.dp ≤ k
  | 0 => fun f M hq _ => by have := dp_pos f; omega
  | k + 1 => fun f M hq hf => (show W (k + 1) 1 = fnF 1 (b_letters_in (W k 1)) from rfl) ▸ ev_letters (w_letters k) f M hf fun o a b e => by
      subst e
      rw [Fm.dp] at hq
      exact ⟨by omega, by omega⟩
theorem w_joined {k : Nat} (hk : 1 ≤ k) (o : Op) (x y : Bool) (M : Mo) : W k 2 [.str o.w, I x, I y] M = some (I (o.ap x y), M) := by
  obtain ⟨k, rfl⟩ := up hk
  exact (show W (k + 1) 2 = fnF 3 b_joined_value from rfl) ▸ ev_joined o x y M
theorem w_value : ∀ k, SVal (W (k + 1) 3) fun f => f.dp ≤ k
  | 0 => fun f r M hq _ _ => by have := dp_pos f; omega
  | k + 1 => fun f r M hq hf hr => (show W (k + 1 + 1) 3 = fnF 2 (b_value_of (W (k + 1) 2) (W (k + 1) 3)) from rfl) ▸ ev_value (fun o x y M => w_joined (by omega) o x y M) (w_value k) f r M hf hr fun o a b e => by
      subst e
      rw [Fm.dp] at hq
      exact ⟨by omega, by omega⟩
theorem w_theorem {k : Nat} {f : Fm} (M : Mo) (hf : f.ok = true) (hk : f.dp + 3 ≤ k) : W k 6 [enc f] M = some (.bl (taut f), M) := by
  have := dp_pos f
  obtain ⟨k, rfl⟩ : ∃ j, k = j + 1 + 1 + 1 := ⟨k - 3, by omega⟩
  have e1 : W (k + 1 + 1) 5 [enc f] M = some (match againstF f with | some r => rowD r | none => .non, M) := (show W (k + 1 + 1) 5 = fnF 2 (b_against (W (k + 1) 1) (W (k + 1) 4) (W (k + 1) 3)) from rfl) ▸
    ev_against (w_letters (k + 1) f M (by omega) hf) ((show W (k + 1) 4 = fnF 4 b_rows_of from rfl) ▸ ev_rows hf M) fun r hr => w_value k f r M (by omega) hf hr
  exact (show W (k + 1 + 1 + 1) 6 = fnF 1 (b_is_theorem (W (k + 1 + 1) 5)) from rfl) ▸ ev_theorem hf e1
theorem w_equal {f g : Fm} (M : Mo) (hf : f.ok = true) (hg : g.ok = true) (df : f.dp ≤ 60) (dg : g.dp ≤ 60) (e : ∀ r, f.val r = g.val r) : W 114 7 [enc f, enc g] M = some (.bl true, M) := by
  have hr : W 113 4 [.lst [.int 0, .int 1, .int 2, .int 3]] M = some (.lst ((rowsOf [0, 1, 2, 3]).map rowD), M) := by
    have e1 : W 113 4 = fnF 4 b_rows_of := rfl
    have e2 : b_rows_of [some (.lst [.int 0, .int 1, .int 2, .int 3]), none, none, none] M = some (.rt (.lst ((rowsOf [0, 1, 2, 3]).map rowD)) M) := ev_rows_body true true true true M
    rw [e1]
    simp [fnF, e2]
  exact (show W 114 7 = fnF 3 (b_are_equal (W 113 4) (W 113 3)) from rfl) ▸ ev_equal hr (fun r hr => w_value 112 f r M (by omega) hf hr) (fun r hr => w_value 112 g r M (by omega) hg hr) e
theorem w_with {k : Nat} (hk : 1 ≤ k) : SWith (W k 8) := by
  obtain ⟨k, rfl⟩ := up hk
  exact fun s f M hs hf => (show W (k + 1) 8 = fnF 2 b_with_one from rfl) ▸ ev_with_one hs hf
theorem w_premises (k : Nat) (s : Sq) (hk : 2 ≤ k) (hs : SmallS s) : SPrem (W k 9) s := by
  obtain ⟨k, rfl⟩ : ∃ j, k = j + 1 := ⟨k - 1, by omega⟩
  exact fun o l a b M hm => (show W (k + 1) 9 = fnF 8 (b_premises (W k 8)) from rfl) ▸ ev_premises (w_with (by omega)) s o l a b M hs hm
theorem w_long (k : Nat) (s : Sq) (l : Bool) (o : Op) (a b : Fm) (ps : List Pf) (M : Mo) (hk : 2 ≤ k) (hs : SmallS s) (hm : Fm.bin o a b ∈ side l s) : W k 9 [seqD s, pfD (.node l o a b ps)] M = some (.lst ((prem o l a b s).map seqD), M) := by
  obtain ⟨k, rfl⟩ : ∃ j, k = j + 1 := ⟨k - 1, by omega⟩
  rw [pfD]
  exact (show W (k + 1) 9 = fnF 8 (b_premises (W k 8)) from rfl) ▸ ev_premises_long (w_with (by omega)) s o l a b (pfDs ps) M hs hm
theorem w_step (k : Nat) (s : Sq) (M : Mo) (hk : 3 ≤ k) (hs : SmallS s) : W k 10 [seqD s] M = some (match stepOf s with | some (l, f) => stepD l f | none => .non, M) := by
  obtain ⟨k, rfl⟩ : ∃ j, k = j + 1 := ⟨k - 1, by omega⟩
  exact (show W (k + 1) 10 = fnF 5 (b_step_for (W k 9)) from rfl) ▸ ev_step_for (w_premises k s (by omega) hs) ⟨hs.dl, hs.dr⟩ M
theorem w_init {k : Nat} (hk : 1 ≤ k) : SInit (W k 32) := by
  obtain ⟨k, rfl⟩ := up hk
  exact fun n a b M hM => (show W (k + 1) 32 = fnF 3 b_Parted___init__ from rfl) ▸ ev_init hM
theorem w_half {k : Nat} (p : Prt) (hk : 1 ≤ k) (ok : PrtOk p) : SHalf (W k 33) p := by
  obtain ⟨k, rfl⟩ := up hk
  exact fun M n l f hM hf => (show W (k + 1) 33 = fnF 4 b_Parted_half_of from rfl) ▸ ev_half hM ok l f hf
theorem w_more {k : Nat} (p : Prt) (hk : 2 ≤ k) (ok : PrtOk p) : SMore (W k 34) p := by
  obtain ⟨k, rfl⟩ : ∃ j, k = j + 1 := ⟨k - 1, by omega⟩
  exact fun M n h o l a b q hM hq ha hb => (show W (k + 1) 34 = fnF 7 (b_Parted_more (W k 32) (W k 8)) from rfl) ▸ ev_more (w_init (by omega)) (w_with (by omega)) hM ok h hq ha hb
theorem w_turned {k : Nat} (hk : 2 ≤ k) (f : Fm) (M : Mo) (hf : f.dp ≤ 60) : W k 14 [enc f] M = some (enc (turnedF f), M) := by
  obtain ⟨k, rfl⟩ : ∃ j, k = j + 1 := ⟨k - 1, by omega⟩
  exact (show W (k + 1) 14 = fnF 1 (b_turned (W k 0)) from rfl) ▸ ev_turned (fun f M => w_contrary (by omega) f M) hf
theorem w_tower : BetTower (fun k => W k 17) (fun k => W k 33) (fun k => W k 15) (fun k => W k 13) (fun k => W k 12) (fun k => W k 16) where
  hB := fun k => rfl
  hH := fun k p hk ok => w_half p hk ok
  hA := fun k p n f M hk ok hf hM => by
    obtain ⟨k, rfl⟩ : ∃ j, k = j + 1 := ⟨k - 1, by omega⟩
    exact (show W (k + 1) 15 = fnF 4 (b_axiom_between (W k 33) (W k 14)) from rfl) ▸ ev_axiom (w_half p (by omega) ok) (fun f M h => w_turned (by omega) f M h) hM f hf
  hE := fun k a b M hk ha hb => by
    obtain ⟨k, rfl⟩ := up hk
    exact (show W (k + 1) 12 = fnF 2 b_either from rfl) ▸ ev_either ha hb
  hO := fun k a b M hk ha hb => by
    obtain ⟨k, rfl⟩ := up hk
    exact (show W (k + 1) 13 = fnF 2 b_both from rfl) ▸ ev_both ha hb
  hU := fun k p hk ok n h o l a b ps M hM ha hb => by
    obtain ⟨k, rfl⟩ : ∃ j, k = j + 1 := ⟨k - 1, by omega⟩
    exact (show W (k + 1) 16 = fnF 6 (b_uppers_of (W k 34)) from rfl) ▸ ev_uppers (w_more p (by omega) ok) hM h o l a b ps ha hb
theorem w_draw {k : Nat} (hk : 2 ≤ k) : SDrw (W k 22) := by
  obtain ⟨k, rfl⟩ : ∃ j, k = j + 1 + 1 := ⟨k - 2, by omega⟩
  exact fun P R many hP h1 h2 => (show W (k + 1 + 1) 22 = fnF 5 (b__law_draw (W (k + 1) 21)) from rfl) ▸ ev_draw (fun c M => (show W (k + 1) 21 = fnF 4 b__law_spread from rfl) ▸ ev_spread c M) hP R many h1 h2
theorem w_little : ∀ (d k : Nat), d + 3 ≤ k → SLit (W k 23) d := by
  intro d
  induction d with
  | zero =>
    intro k hk
    obtain ⟨k, rfl⟩ : ∃ j, k = j + 1 := ⟨k - 1, by omega⟩
    exact (show W (k + 1) 23 = fnF 5 (b__law_little (W k 22) (W k 23)) from rfl) ▸ ev_little (w_draw (by omega)) fun e he => by omega
  | succ d ih =>
    intro k hk
    obtain ⟨k, rfl⟩ : ∃ j, k = j + 1 := ⟨k - 1, by omega⟩
    exact (show W (k + 1) 23 = fnF 5 (b__law_little (W k 22) (W k 23)) from rfl) ▸ ev_little (w_draw (by omega)) fun e he => by
      have : e = d := by omega
      subst this
      exact ih k (by omega)
theorem w_holds : ∀ k, SHold (W k 27) fun f => f.dp ≤ k
  | 0 => fun f r M hq _ _ => by have := dp_pos f; omega
  | k + 1 => fun f r M hq hf hr => (show W (k + 1) 27 = fnF 4 (b__law_holds_in (W k 27)) from rfl) ▸ ev_holds (w_holds k) f r M hf hr fun o a b e => by
      subst e
      rw [Fm.dp] at hq
      exact ⟨by omega, by omega⟩
theorem w_always {k : Nat} (f : Fm) (M : Mo) (hf : f.ok = true) (hk : f.dp + 2 ≤ k) : W k 28 [enc f] M = some (.bl (taut f), M) := by
  have := dp_pos f
  obtain ⟨k, rfl⟩ : ∃ j, k = j + 1 + 1 := ⟨k - 2, by omega⟩
  exact (show W (k + 1 + 1) 28 = fnF 2 (b__law_always (W (k + 1) 26) (W (k + 1) 27)) from rfl) ▸ ev_always (fun M => (show W (k + 1) 26 = fnF 3 b__law_all_rows from rfl) ▸ ev_allrows M) (fun r M hr => w_holds (k + 1) f r M (by omega) hf hr) M
theorem w_occ : ∀ k, SOcc (W k 29) fun f => f.dp ≤ k
  | 0 => fun f M hq _ => by have := dp_pos f; omega
  | k + 1 => fun f M hq hn => (show W (k + 1) 29 = fnF 3 (b__law_letters_of (W k 29)) from rfl) ▸ ev_occ (w_occ k) f M hn fun o a b e => by
      subst e
      rw [Fm.dp] at hq
      exact ⟨by omega, by omega⟩
/-- v lies between one and two -/
structure Bt (one two v : Fm) : Prop where
  ok : v.ok = true
  dp : v.dp ≤ 60
  nd : v.nd ≤ 1000000
  ls : ∀ x ∈ v.ls, x ∈ one.ls ∧ x ∈ two.ls
  lo : ∀ r, one.val r = true → v.val r = true
  hi : ∀ r, v.val r = true → two.val r = true
/-- one and two are small -/
structure Duo (one two : Fm) : Prop where
  d1 : one.dp ≤ 8
  d2 : two.dp ≤ 8
  o1 : one.ok = true
  o2 : two.ok = true
  n : one.cn + two.cn ≤ 12
  t : ∀ r, one.val r = true → two.val r = true
theorem imp_taut {a b : Fm} (ha : a.ok = true) (hb : b.ok = true) (h : ∀ r, a.val r = true → b.val r = true) : taut (.bin .imp a b) = true := (taut_iff (by simp [Fm.ok, ha, hb])).mpr fun r => by
  rw [imp_val]
  cases e : a.val r with
  | true => rw [h r e]; rfl
  | false => rfl
theorem w_lies {one two v : Fm} (D0 : Duo one two) (b : Bt one two v) (M : Mo) : W 114 30 [enc one, enc two, enc v] M = some (.bl true, M) := by
  have d1 := D0.d1
  have d2 := D0.d2
  have n0 := D0.n
  have b1 := b.dp
  have b2 := b.nd
  have n1 := nd_cn one
  have n2 := nd_cn two
  have a1 := w_always (k := 113) (.bin .imp one v) M (by simp [Fm.ok, D0.o1, b.ok]) (by rw [Fm.dp]; omega)
  have a2 := w_always (k := 113) (.bin .imp v two) M (by simp [Fm.ok, D0.o2, b.ok]) (by rw [Fm.dp]; omega)
  rw [imp_taut D0.o1 b.ok b.lo] at a1
  rw [imp_taut b.ok D0.o2 b.hi] at a2
  exact (show W 114 30 = fnF 4 (b__law_lies (W 113 28) (W 113 29)) from rfl) ▸ ev_lies (by omega) (w_occ 113 one M (by omega) (by omega)) (w_occ 113 two M (by omega) (by omega)) (w_occ 113 v M (by omega) (by omega)) a1 a2 b.ls
end Law

set_option Elab.async false
set_option linter.all false
set_option maxRecDepth 100000
set_option maxHeartbeats 2000000
/-! k83: search and interpolants of a pair; the law. -/
namespace Law
open PySem PySem.Spec G

theorem ev_interp {fi fb : F1} (hi : SInit fi) {one two v : Fm} {p : Pf} {M : Mo} (hb : fb [.ref M.length, pfD p] (M ++ [prtO ⟨[one], [], [], [two]⟩]) = some (enc v, M ++ [prtO ⟨[one], [], [], [two]⟩])) :
    fnF 3 (b_interpolant fi fb) [enc one, enc two, pfD p] M = some (enc v, M) := by
  have e1 : ∀ a b, fi [.ref M.length, a, b] (M ++ [.ins 0 []]) = some (.non, M ++ [.ins 0 [("left", a), ("right", b)]]) := fun a b => by
    rw [hi _ _ _ _ (get_app0 M _ []), set_app0]
  have hb2 : fb [.ref M.length, pfD p] (M ++ [.ins 0 [("left", .tup [.tup [enc one], .tup []]), ("right", .tup [.tup [], .tup [enc two]])]]) = some (enc v, M ++ [.ins 0 [("left", .tup [.tup [enc one], .tup []]), ("right", .tup [.tup [], .tup [enc two]])]]) := hb
  have ex := exit_enc M [.ins 0 [("left", .tup [.tup [enc one], .tup []]), ("right", .tup [.tup [], .tup [enc two]])]] v
  simp [fnF, b_interpolant, e1, hb2, ex]
/-- the universe of a pair -/
abbrev un (one two : Fm) : List (Bool × Fm) := uni true one ++ uni false two
section
variable {one two : Fm}
theorem un_ok (D0 : Duo one two) : UOk (un one two) := by
  refine ⟨closed_app (uni_closed _ _) (uni_closed _ _), ?_, fun q hq => ?_, fun q hq => ?_⟩
  · rw [List.length_append, uni_len, uni_len, nd_cn, nd_cn]
    have := D0.n
    omega
  · rcases List.mem_append.mp hq with h | h
    · exact Nat.le_trans (uni_dp _ _ _ h).1 D0.d1
    · exact Nat.le_trans (uni_dp _ _ _ h).1 D0.d2
  · rcases List.mem_append.mp hq with h | h
    · exact (uni_dp _ _ _ h).2 D0.o1
    · exact (uni_dp _ _ _ h).2 D0.o2
theorem un_one : (true, one) ∈ un one two := List.mem_append_left _ (uni_self _ _)
theorem un_two : (false, two) ∈ un one two := List.mem_append_right _ (uni_self _ _)
theorem un_in : InU (un one two) ([one], [two]) := ⟨one_canon _, one_canon _, fun l f hf => by
    cases l <;> simp [side] at hf <;> subst hf
    · exact un_two
    · exact un_one⟩
theorem un_nd (D0 : Duo one two) : ∀ u ∈ un one two, u.2.nd + 2 ≤ 27 := fun q hq => by
  have := D0.n
  have n1 := nd_cn one
  have n2 := nd_cn two
  rcases List.mem_append.mp hq with h | h
  · have := uni_nd _ _ _ h; omega
  · have := uni_nd _ _ _ h; omega
theorem un_lead (D0 : Duo one two) (s : Sq) : lead (un one two) s ≤ 12 := by
  have h : lead (un one two) s ≤ ((un one two).filter Law.comp).length := by
    unfold lead
    refine filter_le fun q hq => ?_
    obtain ⟨l, f⟩ := q
    cases f with
    | bin o a b => rfl
    | _ => simp [leads] at hq
  have e : ((un one two).filter Law.comp).length = one.cn + two.cn := by
    rw [List.filter_append, List.length_append, uni_comp, uni_comp]
  have := D0.n
  omega
/-- a proof of the pair -/
structure Pr (one two : Fm) (p : Pf) : Prop where
  der : Der ([one], [two]) p
  dep : (pfD p).dep ≤ 57
  sz : p.sz ≤ 8192
theorem w_search (D0 : Duo one two) : ∃ p, Pr one two p ∧ (pfD p).dep ≤ 40 ∧ ∀ M, W 114 11 [seqD ([one], [two])] M = some (pfD p, M) := by
  have hU := un_ok D0
  have hin := un_in (one := one) (two := two)
  have hmiss : miss (un one two) ([one], [two]) ≤ 26 := by
    refine Nat.le_trans (List.length_filter_le _ _) ?_
    rw [List.length_append, uni_len, uni_len, nd_cn, nd_cn]
    have := D0.n
    omega
  obtain ⟨an, ev⟩ := search_main hU.cl hU.len hU.dp hU.ok (fS := fun k => W k 11) (fP := fun k => W k 9) (fT := fun k => W k 10) (fun k => rfl) (fun k s hk hs => w_premises k s hk hs) (fun k s M hk hs => w_step k s M hk hs) 26 ([one], [two]) hin hmiss (by omega)
  cases h : srch 26 ([one], [two]) with
  | none =>
    obtain ⟨r, h4, hr⟩ := an.no h
    have h1 := hr.1 one (by simp)
    have h2 := hr.2 two (by simp)
    rw [D0.t r h1] at h2
    cases h2
  | some p =>
    have hdep := an.dep
    rw [h] at hdep
    simp only [resD] at hdep
    have hsz := srch_sz hU.cl 26 _ hin p h
    have hl : 2 ^ (lead (un one two) ([one], [two]) + 1) ≤ 2 ^ 13 := Nat.pow_le_pow_right (by omega) (by have := un_lead D0 ([one], [two]); omega)
    refine ⟨p, ⟨an.yes p h, by omega, by omega⟩, by omega, fun M => ?_⟩
    have := ev 114 M (by omega)
    rw [h] at this
    exact this
theorem w_inter (D0 : Duo one two) {p : Pf} (hp : Pr one two p) : ∃ v, Bt one two v ∧ v.dp ≤ 58 ∧ v.nd ≤ 250000 ∧ ∀ M, W 114 18 [enc one, enc two, pfD p] M = some (enc v, M) := by
  have hU := un_ok D0
  have hin := un_in (one := one) (two := two)
  have pq : PrtU (un one two) (prt0 one two) := by
    refine ⟨fun l => ?_, fun l => ?_, fun l f hf => ?_, fun l f hf => ?_⟩
    · cases l
      · exact nil_canon
      · exact one_canon _
    · cases l
      · exact one_canon _
      · exact nil_canon
    · cases l <;> simp [half0, prt0] at hf
      rw [hf]; exact un_one
    · cases l <;> simp [half1, prt0] at hf
      rw [hf]; exact un_two
  have sp : Split (prt0 one two) ([one], [two]) := fun l f => by cases l <;> simp [side, half0, half1, prt0]
  have hd := hp.dep
  obtain ⟨b, b2, b3⟩ := bet_der hU w_tower hp.der hin (prt0 one two) pq sp (by omega)
  have hn := bet_nd hU.cl (by omega) (un_nd D0) hp.der hin (prt0 one two)
  have hs := Nat.mul_le_mul_right 27 hp.sz
  refine ⟨betF p (prt0 one two), ⟨b.ok, by omega, by omega, fun x hx => ?_, fun r h => ?_, fun r h => ?_⟩, by omega, by omega, fun M => ?_⟩
  · obtain ⟨⟨l, f, hf, h1⟩, ⟨k, g, hg, h2⟩⟩ := b.ls x hx
    have e1 : f = one := by cases l <;> simp [half0, prt0] at hf; exact hf
    have e2 : g = two := by cases k <;> simp [half1, prt0] at hg; exact hg
    subst e1 e2
    exact ⟨h1, h2⟩
  · exact b.lo r fun l f hf => by
      cases l <;> simp [half0, prt0] at hf
      rw [hf]; exact h
  · cases e : two.val r with
    | true => rfl
    | false =>
      refine absurd (fun l f hf => ?_) (b.hi r h)
      cases l <;> simp [half1, prt0] at hf
      rw [hf]; exact e
  · exact (show W 114 18 = fnF 3 (b_interpolant (W 113 32) (W 113 17)) from rfl) ▸ ev_interp (w_init (by omega)) (b3 113 M.length _ (by omega) (get_app0 M _ []))
theorem w_trim (D0 : Duo one two) {p : Pf} (hp : Pr one two p) (hd : (pfD p).dep ≤ 40) : ∃ q, Pr one two q ∧ ∀ M, W 114 19 [seqD ([one], [two]), pfD p] M = some (pfD q, M) := by
  obtain ⟨q, T, E⟩ := trim_der (un_ok D0) (fT := fun k => W k 19) (fP := fun k => W k 9) (fun k => rfl) (fun k s l o a b ps M hk hs hm => w_long k s l o a b ps M hk hs hm) 40 ([one], [two]) p hp.der hd un_in
  have h1 := T.dep
  have h2 := T.sz
  have h3 := hp.sz
  exact ⟨q, ⟨T.der, by omega, by omega⟩, fun M => E 114 M (by omega)⟩
end
end Law

set_option Elab.async false
set_option linter.all false
set_option maxRecDepth 100000
set_option maxHeartbeats 2000000
/-! k83: the law. -/
namespace Law
open PySem PySem.Spec G

theorem and_val (a b : Fm) (r : List Bool) : (Fm.bin .and a b).val r = (a.val r && b.val r) := rfl
theorem or_val (a b : Fm) (r : List Bool) : (Fm.bin .or a b).val r = (a.val r || b.val r) := rfl
theorem ng_val (a : Fm) (r : List Bool) : (ng a).val r = !a.val r := by
  unfold ng
  rw [imp_val, Fm.val, Bool.or_false]
theorem ng_ls (a : Fm) (x : Int) : x ∈ (ng a).ls ↔ x ∈ a.ls := by
  unfold ng
  rw [bin_ls]
  simp [Fm.ls]
/-- what is asked of the pick -/
structure Two (a two : Fm) : Prop where
  dp : two.dp ≤ 5
  ok : two.ok = true
  cn : two.cn ≤ 7
  t : ∀ r, a.val r = true → two.val r = true
theorem cn_dp {f : Fm} : 2 * f.cn + 2 ≤ 2 ^ f.dp := by
  have h1 := nd_dp f
  have h2 := nd_cn f
  omega
theorem two_of {a b c two : Fm} (ha : a.dp ≤ 3) (hb : b.dp ≤ 2) (hc : c.dp ≤ 2) (oa : a.ok = true) (ob : b.ok = true) (oc : c.ok = true) (na : a.cn ≤ 3) (nb : b.cn ≤ 1) (nc : c.cn ≤ 1)
    (m : two ∈ [.bin .or a b, .bin .imp b a, a, .bin .or b (.bin .or c a), .bin .imp (ng a) b]) : Two a two := by
  simp only [List.mem_cons, List.not_mem_nil, or_false] at m
  rcases m with rfl | rfl | rfl | rfl | rfl
  · exact ⟨by simp only [Fm.dp]; omega, by simp [Fm.ok, oa, ob], by simp only [Fm.cn]; omega, fun r h => by rw [or_val, h]; rfl⟩
  · exact ⟨by simp only [Fm.dp]; omega, by simp [Fm.ok, oa, ob], by simp only [Fm.cn]; omega, fun r h => by rw [imp_val, h, Bool.or_true]⟩
  · exact ⟨by omega, oa, by omega, fun r h => h⟩
  · exact ⟨by simp only [Fm.dp]; omega, by simp [Fm.ok, oa, ob, oc], by simp only [Fm.cn]; omega, fun r h => by rw [or_val, or_val, h, Bool.or_true, Bool.or_true]⟩
  · exact ⟨by simp only [Fm.dp, ng]; omega, by simp [Fm.ok, ng, oa, ob], by simp only [Fm.cn, ng]; omega, fun r h => by rw [imp_val, ng_val, h]; rfl⟩
theorem law_true (ns : List Int) (_ : ns.length ≤ 63) : ∃ M, Fk fns lev 31 [.rol (ns.map D.int)] [] = some (.bl true, M) := by
  obtain ⟨salt, hpool⟩ := ev_pool ns
  have hP0 : PoolOk (poolD ns 0 0 0 salt) := ⟨ns, 0, 0, 0, salt, by omega, rfl⟩
  obtain ⟨a, P1, e1, da, oa, hP1⟩ := w_little 2 114 (by omega) _ [] 3 hP0 (by omega) (by omega)
  obtain ⟨b, P2, e2, db, ob, hP2⟩ := w_little 1 114 (by omega) P1 [] 4 hP1 (by omega) (by omega)
  obtain ⟨c, P3, e3, dc, oc, hP3⟩ := w_little 1 114 (by omega) P2 [] 4 hP2 (by omega) (by omega)
  have na : a.cn ≤ 3 := by
    have h1 := cn_dp (f := a)
    have h2 : 2 ^ a.dp ≤ 2 ^ 3 := Nat.pow_le_pow_right (by omega) (by omega)
    omega
  have nb : b.cn ≤ 1 := by
    have h1 := cn_dp (f := b)
    have h2 : 2 ^ b.dp ≤ 2 ^ 2 := Nat.pow_le_pow_right (by omega) (by omega)
    omega
  have nc : c.cn ≤ 1 := by
    have h1 := cn_dp (f := c)
    have h2 : 2 ^ c.dp ≤ 2 ^ 2 := Nat.pow_le_pow_right (by omega) (by omega)
    omega
  obtain ⟨two, P4, m2, e4, hP4⟩ := ev_pick (w_draw (k := 113) (by omega)) hP3 [] [.bin .or a b, .bin .imp b a, a, .bin .or b (.bin .or c a), .bin .imp (ng a) b] (by simp) (by simp)
  have T2 := two_of (by omega) (by omega) (by omega) oa ob oc na nb nc m2
  have t1 := T2.dp
  have t2 := T2.ok
  have t3 := T2.cn
  have t4 := T2.t
  have pa := dp_pos a
  have pt := dp_pos two
  have D1 : Duo a two := ⟨by omega, by omega, oa, t2, by omega, t4⟩
  have D2 : Duo (ng two) (ng a) := ⟨by simp only [ng, Fm.dp]; omega, by simp only [ng, Fm.dp]; omega, by simp [ng, Fm.ok, t2], by simp [ng, Fm.ok, oa], by simp only [ng, Fm.cn]; omega, fun r h => by
    rw [ng_val] at h ⊢
    cases e : a.val r with
    | false => rfl
    | true => rw [t4 r e] at h; cases h⟩
  have D3 : Duo (.bin .and a c) two := ⟨by simp only [Fm.dp]; omega, by omega, by simp [Fm.ok, oa, oc], t2, by simp only [Fm.cn]; omega, fun r h => by
    rw [and_val, Bool.and_eq_true] at h
    exact t4 r h.1⟩
  have D4 : Duo a (.bin .or two c) := ⟨by omega, by simp only [Fm.dp]; omega, oa, by simp [Fm.ok, t2, oc], by simp only [Fm.cn]; omega, fun r h => by rw [or_val, t4 r h]; rfl⟩
  have D5 : Duo a a := ⟨by omega, by omega, oa, oa, by omega, fun r h => h⟩
  obtain ⟨told, r1, r1d, s1⟩ := w_search D1
  obtain ⟨middle, b1, b1d, b1n, i1⟩ := w_inter D1 r1
  obtain ⟨turned, r2, _, s2⟩ := w_search D2
  obtain ⟨back, b2, _, _, i2⟩ := w_inter D2 r2
  obtain ⟨ag1, r3, _, s3⟩ := w_search D3
  obtain ⟨again1, b3, _, _, i3⟩ := w_inter D3 r3
  obtain ⟨ag2, r4, _, s4⟩ := w_search D4
  obtain ⟨again2, b4, _, _, i4⟩ := w_inter D4 r4
  obtain ⟨tr, r5, tt⟩ := w_trim D1 r1 r1d
  obtain ⟨second, b5, b5d, b5n, i5⟩ := w_inter D1 r5
  have r6 : Pr a a (.ax a) := ⟨.ax (by simp) (by simp), by simp [pfD, D.dep, D.deps]; omega, by simp [Pf.sz]⟩
  obtain ⟨own, b6, _, _, i6⟩ := w_inter D5 r6
  have pm := dp_pos middle
  have ps := dp_pos second
  have B3 : Bt (ng two) (ng a) (ng middle) := ⟨by simp [ng, Fm.ok, b1.ok], by simp only [ng, Fm.dp]; omega, by simp only [ng, Fm.nd]; omega, (fun x hx => by
      rw [ng_ls] at hx
      exact ⟨(ng_ls _ _).mpr (b1.ls x hx).2, (ng_ls _ _).mpr (b1.ls x hx).1⟩), (fun r h => by
      rw [ng_val] at h ⊢
      cases e : middle.val r with
      | false => rfl
      | true => rw [b1.hi r e] at h; cases h), fun r h => by
      rw [ng_val] at h ⊢
      cases e : a.val r with
      | false => rfl
      | true => rw [b1.lo r e] at h; cases h⟩
  have B4 : Bt (.bin .and a c) two middle := ⟨b1.ok, b1.dp, b1.nd, (fun x hx => ⟨bin_ls.mpr (.inl (b1.ls x hx).1), (b1.ls x hx).2⟩), (fun r h => by
      rw [and_val, Bool.and_eq_true] at h
      exact b1.lo r h.1), b1.hi⟩
  have B5 : Bt a (.bin .or two c) middle := ⟨b1.ok, b1.dp, b1.nd, (fun x hx => ⟨(b1.ls x hx).1, bin_ls.mpr (.inl (b1.ls x hx).2)⟩), b1.lo, fun r h => by rw [or_val, b1.hi r h]; rfl⟩
  have B9 : Bt a two (.bin .and middle second) := ⟨by simp [Fm.ok, b1.ok, b5.ok], by simp only [Fm.dp]; omega, by simp only [Fm.nd]; omega, (fun x hx => (bin_ls.mp hx).elim (b1.ls x) (b5.ls x)), (fun r h => by rw [and_val, b1.lo r h, b5.lo r h]; rfl), fun r h => by
      rw [and_val, Bool.and_eq_true] at h
      exact b1.hi r h.1⟩
  have B10 : Bt a two (.bin .or middle second) := ⟨by simp [Fm.ok, b1.ok, b5.ok], by simp only [Fm.dp]; omega, by simp only [Fm.nd]; omega, (fun x hx => (bin_ls.mp hx).elim (b1.ls x) (b5.ls x)), (fun r h => by rw [or_val, b1.lo r h]; rfl), fun r h => by
      rw [or_val, Bool.or_eq_true] at h
      exact h.elim (b1.hi r) (b5.hi r)⟩
  have same : ∀ r, own.val r = a.val r := fun r => by
    cases e : a.val r with
    | true => exact b6.lo r e
    | false =>
      cases e2 : own.val r with
      | false => rfl
      | true => rw [b6.hi r e2] at e; cases e
  have alw := imp_taut oa t2 t4
  have oi : (Fm.bin .imp a two).ok = true := by simp [Fm.ok, oa, t2]
  have T : Told (W 114 28) (W 114 25) (W 114 30) (W 114 23) (W 114 24) (W 114 20) (W 114 7) (W 114 18) (W 114 6) (W 114 11) (W 114 19) (.rol (ns.map D.int)) (poolD ns 0 0 0 salt) P1 P2 P3 P4 a b c two told turned ag1 ag2 tr middle back again1 again2 second own :=
    { pool := hpool
      lit1 := e1
      lit2 := e2
      lit3 := e3
      pick := (show W 114 24 = fnF 2 (b__law_pick (W 113 22)) from rfl) ▸ e4
      deny := fun f M => (show W 114 25 = fnF 1 b__law_deny from rfl) ▸ ev_deny f M
      alw := fun M => by rw [w_always _ M oi (by rw [Fm.dp]; omega), alw]
      thm := fun M => by rw [w_theorem M oi (by rw [Fm.dp]; omega), alw]
      s1 := s1
      i1 := i1
      l1 := w_lies D1 b1
      s2 := s2
      i2 := i2
      l2 := w_lies D2 b2
      l3 := w_lies D2 B3
      l4 := w_lies D3 B4
      l5 := w_lies D4 B5
      s3 := s3
      i3 := i3
      l6 := w_lies D3 b3
      s4 := s4
      i4 := i4
      l7 := w_lies D4 b4
      t1 := tt
      i5 := i5
      l8 := w_lies D1 b5
      l9 := w_lies D1 B9
      l10 := w_lies D1 B10
      i6 := i6
      l11 := w_lies D5 b6
      eq := fun M => w_equal M b6.ok oa b6.dp (by omega) same }
  exact (show Fk fns lev 31 = fnF 17 (b_law (W 114 28) (W 114 25) (W 114 30) (W 114 23) (W 114 24) (W 114 20) (W 114 7) (W 114 18) (W 114 6) (W 114 11) (W 114 19)) from rfl) ▸ law_runs T
end Law

open PySem PySem.W PyProof.Rows
theorem PySem.Challenge.cw_everyproof_k83_whole_formulas_between_tu_holds : PySem.Challenge.rw_everyproof_k83_whole_formulas_between_tu.Holds := by
  exact law_head Law.law_true
