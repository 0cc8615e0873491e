import PyProof.Rows.All
import Wide.All
import OpenK.AllK
import Wide.FinOn
import HandS.ForMost
import KE.KeyNested
import HandS.HeadHook1
import HandS.Conv
import HandS.Deep
import HandS.TupMul
import HandS.TupAny
import HandS.Style
import HandS.IsInst
import HandS.SortInts
import HandS.Zip
import HandS.Defaults
import KE.GoesNew
import KE.GoesEnum
import HandS.TupLe
import HandS.More
import HandS.TupSets
import HandS.Strs
import KE.SortCalls
import HandS.ExcValue
import HandS.Dict
import HandS.Comp
import HandS.CallLocal
import HandS.WrittenGet
import HandS.SetFor
import KE.DataFind
import HandS.Text
import HandS.TryOnly
import HandS.Words
import HandS.Codes
import HandS.Head0
import HandS.Head1
import HandS.Head2
import HandS.HeadEnd
import HandS.HeadHook2
import HandS.HeadHook3
import HandS.HeadHook4
import PySem.Challenge.RW_everyproof_k80_whole_assumptions_let_go
set_option Elab.async false
set_option linter.all false
set_option maxRecDepth 100000
/-! Values as data over the hand layer: a def is a function from arguments and a store to a value and a store. -/
namespace G
open PySem PySem.Spec PyProof.Rows L2

/-- a value: tuples and lists that never change are data; ref n is the n-th thing of the store -/
inductive D where
  | non
  | bl (b : Bool)
  | int (i : Int)
  | str (x : Str)
  | tup (ds : List D)
  | lst (ds : List D)
  | rol (ds : List D)
  | ref (n : Nat)
  | fn (x : Str)

/-- what the store holds -/
inductive MO where
  | lst (ds : List D)
  | dct (kvs : List (Key × D))
  | ins (c : Nat) (fs : List (Str × D))
  | dcn (kvs : List (D × D))

abbrev Mo := List MO
abbrev Lo := List (Option D)

/-- the written part, the classes by number -/
structure Wd where
  K : PySem.W.Frag
  cl : Nat → Addr
  w : World

/-- where the store's things are; lists that are being made and that nothing speaks of -/
structure Rh where
  m : List Addr
  v : List Addr
instance : Membership Addr Rh := ⟨fun ρ a => a ∈ ρ.m ∨ a ∈ ρ.v⟩
def Rh.push (ρ : Rh) (p : Addr) : Rh := ⟨ρ.m ++ [p], ρ.v⟩
theorem Rh.mem_m {ρ : Rh} {a : Addr} (h : a ∈ ρ.m) : a ∈ ρ := Or.inl h
theorem Rh.mem_v {ρ : Rh} {a : Addr} (h : a ∈ ρ.v) : a ∈ ρ := Or.inr h
theorem Rh.not_mem {ρ : Rh} {a : Addr} (h1 : a ∉ ρ.m) (h2 : a ∉ ρ.v) : a ∉ ρ := fun z => z.elim h1 h2
def KTup (K : PySem.W.Frag) (a : Addr) (xs : List V) : Prop :=
  ∃ (o : Obj) (its : Array Value) (n : Nat), K.lookup a = some o ∧ o.cls = .type "tuple" ∧ o.data = .seq its n ∧ its.size ≤ sizeLine ∧ Vals xs its.toList
def TupAt (K : PySem.W.Frag) (H : Hp) (ρ : Rh) (a : Addr) (xs : List V) : Prop := (H a = some (.tup xs) ∧ a ∉ ρ) ∨ KTup K a xs
/-- a list that is read only: the script -/
def RolAt (K : PySem.W.Frag) (H : Hp) (ρ : Rh) (a : Addr) (xs : List V) : Prop := (∃ o, H a = some (.frz o (.lst xs)) ∧ a ∉ ρ) ∨
  ∃ (o : Obj) (its : Array Value) (n : Nat), K.lookup a = some o ∧ o.cls = .type "list" ∧ o.dict = none ∧ o.data = .seq its n ∧ its.size ≤ sizeLine ∧ Vals xs its.toList
def LstAt (H : Hp) (ρ : Rh) (a : Addr) (xs : List V) : Prop := H a = some (.lst xs) ∧ a ∉ ρ

mutual
/-- v is the datum d -/
inductive DR (K : PySem.W.Frag) (H : Hp) (ρ : Rh) : V → D → Prop
  | non : DR K H ρ .non .non
  | bl (b : Bool) : DR K H ρ (.bl b) (.bl b)
  | int (i : Int) : DR K H ρ (.int i) (.int i)
  | str (x : Str) : DR K H ρ (.str x) (.str x)
  | tup {a : Addr} {xs : List V} {ds : List D} : TupAt K H ρ a xs → DRs K H ρ xs ds → DR K H ρ (.ref a) (.tup ds)
  | lst {a : Addr} {xs : List V} {ds : List D} : LstAt H ρ a xs → DRs K H ρ xs ds → DR K H ρ (.ref a) (.lst ds)
  | rol {a : Addr} {xs : List V} {ds : List D} : RolAt K H ρ a xs → DRs K H ρ xs ds → DR K H ρ (.ref a) (.rol ds)
  | ref {a : Addr} {n : Nat} : ρ.m[n]? = some a → DR K H ρ (.ref a) (.ref n)
  | fn (x : Str) : DR K H ρ (.ref (He.ga K x)) (.fn x)
inductive DRs (K : PySem.W.Frag) (H : Hp) (ρ : Rh) : List V → List D → Prop
  | nil : DRs K H ρ [] []
  | cons {v : V} {vs : List V} {d : D} {ds : List D} : DR K H ρ v d → DRs K H ρ vs ds → DRs K H ρ (v :: vs) (d :: ds)
end

/-- what may happen to the heap: the things of the store may change, new things may come; all else stands -/
structure Gr (H : Hp) (ρ : Rh) (H' : Hp) (ρ' : Rh) : Prop where
  pre : ρ.m <+: ρ'.m
  keep : ∀ a o, H a = some o → a ∉ ρ → H' a = some o ∧ a ∉ ρ'
  vol : ρ'.v = ρ.v
  hid : ∀ a o, a ∈ ρ.v → H a = some o → H' a = some o
theorem Gr.refl (H : Hp) (ρ : Rh) : Gr H ρ H ρ := ⟨List.prefix_refl _, fun _ _ h n => ⟨h, n⟩, rfl, fun _ _ _ h => h⟩
theorem Gr.trans {H H1 H2 : Hp} {ρ ρ1 ρ2 : Rh} (a : Gr H ρ H1 ρ1) (b : Gr H1 ρ1 H2 ρ2) : Gr H ρ H2 ρ2 :=
  ⟨a.pre.trans b.pre, fun c o h n => let ⟨h1, n1⟩ := a.keep c o h n; b.keep c o h1 n1, b.vol.trans a.vol, fun c o hc h => b.hid c o (by rw [a.vol]; exact hc) (a.hid c o hc h)⟩

section
variable {K : PySem.W.Frag} {H H' : Hp} {ρ ρ' : Rh}
theorem getElem?_pre {α : Type} {l l' : List α} {n : Nat} {x : α} (p : l <+: l') (h : l[n]? = some x) : l'[n]? = some x := by
  obtain ⟨r, rfl⟩ := p
  rw [List.getElem?_append_left (List.getElem?_eq_some_iff.mp h).1]
  exact h
/-- what makes data stay: their tuples and lists stand -/
structure Kp (H : Hp) (ρ : Rh) (H' : Hp) (ρ' : Rh) : Prop where
  pre : ρ.m <+: ρ'.m
  keep : ∀ a o, H a = some o → a ∉ ρ → H' a = some o ∧ a ∉ ρ'
theorem Gr.kp (g : Gr H ρ H' ρ') : Kp H ρ H' ρ' := ⟨g.pre, g.keep⟩
theorem Kp.refl (H : Hp) (ρ : Rh) : Kp H ρ H ρ := (Gr.refl H ρ).kp
theorem Kp.trans {H H1 H2 : Hp} {ρ ρ1 ρ2 : Rh} (a : Kp H ρ H1 ρ1) (b : Kp H1 ρ1 H2 ρ2) : Kp H ρ H2 ρ2 :=
  ⟨a.pre.trans b.pre, fun c o h n => let ⟨h1, n1⟩ := a.keep c o h n; b.keep c o h1 n1⟩
theorem TupAt.stay (g : Kp H ρ H' ρ') {a : Addr} {xs : List V} (h : TupAt K H ρ a xs) : TupAt K H' ρ' a xs := by
  rcases h with ⟨h, n⟩ | h
  · exact .inl (g.keep a _ h n)
  · exact .inr h
theorem RolAt.stay (g : Kp H ρ H' ρ') {a : Addr} {xs : List V} (h : RolAt K H ρ a xs) : RolAt K H' ρ' a xs := by
  rcases h with ⟨o, h, n⟩ | h
  · exact .inl ⟨o, g.keep a _ h n⟩
  · exact .inr h
theorem RolAt.sq {a : Addr} {xs : List V} (h : RolAt K H ρ a xs) : SqL K H a xs := by
  rcases h with ⟨o, h, _⟩ | h
  · exact .inl (.inr ⟨o, h⟩)
  · exact .inr h
theorem LstAt.stay (g : Kp H ρ H' ρ') {a : Addr} {xs : List V} (h : LstAt H ρ a xs) : LstAt H' ρ' a xs := g.keep a _ h.1 h.2
mutual
theorem DR.stay (g : Kp H ρ H' ρ') : ∀ {v : V} {d : D}, DR K H ρ v d → DR K H' ρ' v d
  | _, .non, .non => .non
  | _, .bl b, .bl _ => .bl b
  | _, .int i, .int _ => .int i
  | _, .str x, .str _ => .str x
  | _, .tup ds, .tup h hs => .tup (h.stay g) (DRs.stay g hs)
  | _, .lst ds, .lst h hs => .lst (h.stay g) (DRs.stay g hs)
  | _, .rol ds, .rol h hs => .rol (h.stay g) (DRs.stay g hs)
  | _, .ref n, .ref h => .ref (getElem?_pre g.pre h)
  | _, .fn x, .fn _ => .fn x
theorem DRs.stay (g : Kp H ρ H' ρ') : ∀ {vs : List V} {ds : List D}, DRs K H ρ vs ds → DRs K H' ρ' vs ds
  | _, [], .nil => .nil
  | _, _ :: _, .cons h hs => .cons (DR.stay g h) (DRs.stay g hs)
end
theorem DR.mono (g : Gr H ρ H' ρ') {v : V} {d : D} (h : DR K H ρ v d) : DR K H' ρ' v d := h.stay g.kp
theorem DRs.mono (g : Gr H ρ H' ρ') {vs : List V} {ds : List D} (h : DRs K H ρ vs ds) : DRs K H' ρ' vs ds := h.stay g.kp
theorem TupAt.sq {a : Addr} {xs : List V} (h : TupAt K H ρ a xs) : SqT K H a xs := by
  rcases h with ⟨h, _⟩ | h
  · exact .inl (.inl h)
  · exact .inr h
theorem DRs.length : ∀ {vs : List V} {ds : List D}, DRs K H ρ vs ds → vs.length = ds.length
  | _, [], .nil => rfl
  | _, _ :: _, .cons _ hs => by rw [List.length_cons, List.length_cons, DRs.length hs]
theorem DRs.get : ∀ {vs : List V} {ds : List D} {i : Nat} {d : D}, DRs K H ρ vs ds → ds[i]? = some d → ∃ v, vs[i]? = some v ∧ DR K H ρ v d
  | _, [], _, _, .nil, e => by simp at e
  | _, _ :: _, 0, _, .cons h _, e => by simp at e; subst e; exact ⟨_, rfl, h⟩
  | _, _ :: _, i + 1, _, .cons _ hs, e => by
    obtain ⟨v, e1, h1⟩ := DRs.get (i := i) hs (by simpa using e)
    exact ⟨v, by simpa using e1, h1⟩
theorem DRs.getV : ∀ {vs : List V} {ds : List D} {i : Nat} {v : V}, DRs K H ρ vs ds → vs[i]? = some v → ∃ d, ds[i]? = some d ∧ DR K H ρ v d
  | _, [], _, _, .nil, e => by simp at e
  | _, _ :: _, 0, _, .cons h _, e => by simp at e; subst e; exact ⟨_, rfl, h⟩
  | _, _ :: _, i + 1, _, .cons _ hs, e => by
    obtain ⟨v, e1, h1⟩ := DRs.getV (i := i) hs (by simpa using e)
    exact ⟨v, by simpa using e1, h1⟩
theorem DRs.append : ∀ {vs ws : List V} {ds es : List D}, DRs K H ρ vs ds → DRs K H ρ ws es → DRs K H ρ (vs ++ ws) (ds ++ es)
  | _, _, [], _, .nil, k => k
  | _, _, _ :: _, _, .cons h hs, k => .cons h (DRs.append hs k)
theorem DRs.take : ∀ (n : Nat) {vs : List V} {ds : List D}, DRs K H ρ vs ds → DRs K H ρ (vs.take n) (ds.take n)
  | 0, _, _, _ => .nil
  | _ + 1, _, _, .nil => .nil
  | n + 1, _, _, .cons h hs => .cons h (DRs.take n hs)
theorem DRs.drop : ∀ (n : Nat) {vs : List V} {ds : List D}, DRs K H ρ vs ds → DRs K H ρ (vs.drop n) (ds.drop n)
  | 0, _, _, h => h
  | _ + 1, _, _, .nil => .nil
  | n + 1, _, _, .cons _ hs => DRs.drop n hs
theorem DRs.reverse : ∀ {vs : List V} {ds : List D}, DRs K H ρ vs ds → DRs K H ρ vs.reverse ds.reverse
  | _, _, .nil => .nil
  | _, _, .cons h hs => by rw [List.reverse_cons, List.reverse_cons]; exact (DRs.reverse hs).append (.cons h .nil)
theorem DRs.set : ∀ (i : Nat) {vs : List V} {ds : List D} {v : V} {d : D}, DRs K H ρ vs ds → DR K H ρ v d → DRs K H ρ (vs.set i v) (ds.set i d)
  | _, _, _, _, _, .nil, _ => .nil
  | 0, _, _, _, _, .cons _ hs, k => .cons k hs
  | i + 1, _, _, _, _, .cons h hs, k => .cons h (DRs.set i hs k)
theorem DRs.eraseIdx : ∀ (i : Nat) {vs : List V} {ds : List D}, DRs K H ρ vs ds → DRs K H ρ (vs.eraseIdx i) (ds.eraseIdx i)
  | _, _, _, .nil => .nil
  | 0, _, _, .cons _ hs => hs
  | i + 1, _, _, .cons h hs => .cons h (DRs.eraseIdx i hs)
theorem DRs.dropLast {vs : List V} {ds : List D} (h : DRs K H ρ vs ds) : DRs K H ρ vs.dropLast ds.dropLast := by
  rw [List.dropLast_eq_take, List.dropLast_eq_take, h.length]
  exact h.take _
theorem DRs.ints : ∀ (ns : List Int), DRs K H ρ (ns.map V.int) (ns.map D.int)
  | [] => .nil
  | n :: ns => .cons (.int n) (DRs.ints ns)
theorem DRs.int_of : ∀ {ns : List Int} {vs : List V}, DRs K H ρ vs (ns.map D.int) → vs = ns.map V.int
  | [], _, .nil => rfl
  | n :: ns, _, .cons h hs => by
    cases h
    rw [DRs.int_of hs]
    rfl
end

/-! ### data as keys -/
mutual
def D.nk : D → NestedKey
  | .int i => .num i
  | .str x => .text x
  | .tup ds => .tup (D.nks ds)
  | _ => .none
def D.nks : List D → List NestedKey
  | [] => []
  | d :: ds => D.nk d :: D.nks ds
end
mutual
def D.plain : D → Bool
  | .int _ => true
  | .str _ => true
  | .tup ds => D.plains ds
  | _ => false
def D.plains : List D → Bool
  | [] => true
  | d :: ds => D.plain d && D.plains ds
end
def isTup : D → Bool
  | .tup _ => true
  | _ => false
/-- fit for a key of nested tuples -/
def D.keyOk (d : D) : Bool := isTup d && d.plain && decide (d.nk.depth ≤ 8)
/-- a dict whose keys are nested tuples: its rows, without the tuples themselves -/
def DnP (w : World) (a : Addr) (xs : List (NestedKey × Addr × Value)) (h : Heap) : Prop := ∃ o es ep, h.get? a = some o ∧ o.ExactDict ∧ o.data = .dict es ep ∧ es.toList = xs.map fun x => (⟨x.1.hash w, .ref x.2.1, x.2.2⟩ : DictEntry)
def DnO (w : World) (a : Addr) (xs : List (NestedKey × Addr × Value)) : HO := .ext (DnP w a xs)
structure DnR (K : PySem.W.Frag) (H : Hp) (ρ : Rh) (xs : List (NestedKey × Addr × Value)) (kvs : List (D × D)) : Prop where
  nk : xs.map (·.1) = kvs.map fun kv => kv.1.nk
  ok : (kvs.all fun kv => kv.1.keyOk) = true
  nd : (xs.map (·.1)).Nodup
  keys : DRs K H ρ (xs.map fun x => V.ref x.2.1) (kvs.map (·.1))
  vals : ∃ vs, DRs K H ρ vs (kvs.map (·.2)) ∧ Vals vs (xs.map fun x => x.2.2)
section
variable {K : PySem.W.Frag} {H H' : Hp} {ρ ρ' : Rh}
theorem DnR.to {xs : List (NestedKey × Addr × Value)} {kvs : List (D × D)} (h : DnR K H ρ xs kvs) (g : ∀ vs ds, DRs K H ρ vs ds → DRs K H' ρ' vs ds) : DnR K H' ρ' xs kvs :=
  ⟨h.nk, h.ok, h.nd, g _ _ h.keys, let ⟨vs, h1, h2⟩ := h.vals; ⟨vs, g _ _ h1, h2⟩⟩
end

/-! ### the store -/
def Flds (K : PySem.W.Frag) (H : Hp) (ρ : Rh) (vs : List (Str × V)) (fs : List (Str × D)) : Prop := vs.map (·.1) = fs.map (·.1) ∧ DRs K H ρ (vs.map (·.2)) (fs.map (·.2))
def KVs (K : PySem.W.Frag) (H : Hp) (ρ : Rh) (vs : List (Key × V)) (fs : List (Key × D)) : Prop := vs.map (·.1) = fs.map (·.1) ∧ DRs K H ρ (vs.map (·.2)) (fs.map (·.2))
def MR (W : Wd) (H : Hp) (ρ : Rh) (a : Addr) : MO → Prop
  | .lst ds => ∃ xs, H a = some (.lst xs) ∧ DRs W.K H ρ xs ds
  | .dct kvs => ∃ vs, H a = some (.dK vs) ∧ KVs W.K H ρ vs kvs ∧ (kvs.map (·.1)).Nodup
  | .ins c fs => ∃ dx vs, H a = some (.ins (W.cl c) dx vs) ∧ Flds W.K H ρ vs fs
  | .dcn kvs => ∃ xs, H a = some (DnO W.w a xs) ∧ (a == sysModules) = false ∧ DnR W.K H ρ xs kvs
structure Rep (W : Wd) (H : Hp) (ρ : Rh) (M : Mo) : Prop where
  nd : ρ.m.Nodup
  len : ρ.m.length = M.length
  hid : ∀ a, a ∈ ρ.v → (∃ o, H a = some o) ∧ a ∉ ρ.m
  mem : ∀ (i : Nat) (a : Addr) (o : MO), ρ.m[i]? = some a → M[i]? = some o → MR W H ρ a o
section
variable {W : Wd} {H H' : Hp} {ρ ρ' : Rh} {M : Mo}
theorem MR.stay (g : Kp H ρ H' ρ') {a : Addr} {o : MO} (h : MR W H ρ a o) (e : ∀ u, H a = some u → H' a = some u) : MR W H' ρ' a o := by
  cases o with
  | lst ds => obtain ⟨xs, h1, h2⟩ := h; exact ⟨xs, e _ h1, h2.stay g⟩
  | dct kvs => obtain ⟨vs, h1, ⟨h2, h3⟩, h4⟩ := h; exact ⟨vs, e _ h1, ⟨h2, h3.stay g⟩, h4⟩
  | ins c fs => obtain ⟨dx, vs, h1, h2, h3⟩ := h; exact ⟨dx, vs, e _ h1, h2, h3.stay g⟩
  | dcn kvs => obtain ⟨xs, h1, h2, h3⟩ := h; exact ⟨xs, e _ h1, h2, h3.to fun _ _ z => z.stay g⟩
theorem MR.mono (g : Gr H ρ H' ρ') {a : Addr} {o : MO} (h : MR W H ρ a o) (e : ∀ u, H a = some u → H' a = some u) : MR W H' ρ' a o := by
  cases o with
  | lst ds => obtain ⟨xs, h1, h2⟩ := h; exact ⟨xs, e _ h1, h2.mono g⟩
  | dct kvs => obtain ⟨vs, h1, ⟨h2, h3⟩, h4⟩ := h; exact ⟨vs, e _ h1, ⟨h2, h3.mono g⟩, h4⟩
  | ins c fs => obtain ⟨dx, vs, h1, h2, h3⟩ := h; exact ⟨dx, vs, e _ h1, h2, h3.mono g⟩
  | dcn kvs => obtain ⟨xs, h1, h2, h3⟩ := h; exact ⟨xs, e _ h1, h2, h3.to fun _ _ z => z.mono g⟩
theorem MR.some_ {a : Addr} {o : MO} (h : MR W H ρ a o) : ∃ u, H a = some u := by
  cases o with
  | lst ds => obtain ⟨xs, h1, _⟩ := h; exact ⟨_, h1⟩
  | dct kvs => obtain ⟨vs, h1, _⟩ := h; exact ⟨_, h1⟩
  | ins c fs => obtain ⟨dx, vs, h1, _⟩ := h; exact ⟨_, h1⟩
  | dcn kvs => obtain ⟨xs, h1, _⟩ := h; exact ⟨_, h1⟩
theorem Rep.there (R : Rep W H ρ M) {a : Addr} (h : a ∈ ρ) : ∃ u, H a = some u := by
  rcases h with h | h
  · obtain ⟨i, hi, e⟩ := List.getElem_of_mem h
    have h1 : ρ.m[i]? = some a := by rw [List.getElem?_eq_getElem hi, e]
    have h2 : i < M.length := by rw [← R.len]; exact hi
    exact (R.mem i a _ h1 (List.getElem?_eq_getElem h2)).some_
  · exact (R.hid a h).1
theorem Rep.fresh (R : Rep W H ρ M) {p : Addr} (h : H p = none) : p ∉ ρ := fun hm => by
  obtain ⟨u, e⟩ := R.there hm
  rw [h] at e; cases e
theorem Rep.get (R : Rep W H ρ M) {i : Nat} {o : MO} (h : M[i]? = some o) : ∃ a, ρ.m[i]? = some a ∧ MR W H ρ a o := by
  have h2 : i < ρ.m.length := by rw [R.len]; exact (List.getElem?_eq_some_iff.mp h).1
  exact ⟨ρ.m[i], List.getElem?_eq_getElem h2, R.mem i _ o (List.getElem?_eq_getElem h2) h⟩
theorem Rep.at_ (R : Rep W H ρ M) {i : Nat} {a : Addr} {o : MO} (h : ρ.m[i]? = some a) (e : M[i]? = some o) : MR W H ρ a o := R.mem i a o h e
theorem nodup_ix {α : Type} {l : List α} (nd : l.Nodup) {i j : Nat} {x : α} (hi : l[i]? = some x) (hj : l[j]? = some x) : i = j := by
  obtain ⟨l1, g1⟩ := List.getElem?_eq_some_iff.mp hi
  obtain ⟨l2, g2⟩ := List.getElem?_eq_some_iff.mp hj
  have key := List.pairwise_iff_getElem.mp nd
  rcases Nat.lt_trichotomy i j with z | z | z
  · exact absurd (g1.trans g2.symm) (key i j l1 l2 z)
  · exact z
  · exact absurd (g2.trans g1.symm) (key j i l2 l1 z)
/-- a new thing that never changes -/
theorem Gr.new {H : Hp} {ρ : Rh} {p : Addr} {o : HO} (h : H p = none) : Gr H ρ (upd H p o) ρ :=
  ⟨List.prefix_refl _, fun a u e n => ⟨by rw [upd_ne (ne_of_none e h)]; exact e, n⟩, rfl, fun a u _ e => by rw [upd_ne (ne_of_none e h)]; exact e⟩
theorem Rep.new (R : Rep W H ρ M) {p : Addr} {o : HO} (h : H p = none) : Rep W (upd H p o) ρ M :=
  ⟨R.nd, R.len, fun a ha => let ⟨⟨u, e⟩, n⟩ := R.hid a ha; ⟨⟨u, by rw [upd_ne (ne_of_none e h)]; exact e⟩, n⟩, fun i a u h1 h2 => (R.mem i a u h1 h2).mono (Gr.new h) fun v e => by rw [upd_ne (ne_of_none e h)]; exact e⟩
/-- a new thing of the store -/
theorem Gr.push {H : Hp} {ρ : Rh} {p : Addr} {o : HO} (h : H p = none) : Gr H ρ (upd H p o) (ρ.push p) :=
  ⟨List.prefix_append ρ.m [p], fun a u e n => ⟨by rw [upd_ne (ne_of_none e h)]; exact e, fun hm => by
    rcases hm with z | z
    · rcases List.mem_append.mp z with z | z
      · exact n (.inl z)
      · exact ne_of_none e h (List.mem_singleton.mp z)
    · exact n (.inr z)⟩, rfl, fun a u _ e => by rw [upd_ne (ne_of_none e h)]; exact e⟩
theorem Rep.push (R : Rep W H ρ M) {p : Addr} {o : HO} {m : MO} (h : H p = none) (hm : MR W (upd H p o) (ρ.push p) p m) : Rep W (upd H p o) (ρ.push p) (M ++ [m]) := by
  refine ⟨?_, by simp [Rh.push, R.len], fun a ha => ?_, fun i a u h1 h2 => ?_⟩
  · exact List.nodup_append.mpr ⟨R.nd, by simp, fun a ha b hb => by
      rw [List.mem_singleton] at hb
      subst hb
      intro z
      subst z
      exact R.fresh h (.inl ha)⟩
  · obtain ⟨⟨u, e⟩, n⟩ := R.hid a ha
    refine ⟨⟨u, by rw [upd_ne (ne_of_none e h)]; exact e⟩, fun z => ?_⟩
    rcases List.mem_append.mp z with z | z
    · exact n z
    · exact ne_of_none e h (List.mem_singleton.mp z)
  · have h1 : (ρ.m ++ [p])[i]? = some a := h1
    by_cases hi : i < ρ.m.length
    · rw [List.getElem?_append_left hi] at h1
      rw [List.getElem?_append_left (by rw [← R.len]; exact hi)] at h2
      exact (R.mem i a u h1 h2).mono (Gr.push h) fun v e => by rw [upd_ne (ne_of_none e h)]; exact e
    · have hj : i = ρ.m.length := by
        have := (List.getElem?_eq_some_iff.mp h1).1
        simp at this
        omega
      subst hj
      rw [List.getElem?_append_right (Nat.le_refl _), Nat.sub_self] at h1
      rw [List.getElem?_append_right (by rw [R.len]; exact Nat.le_refl _), R.len, Nat.sub_self] at h2
      simp at h1 h2
      subst h1; subst h2
      exact hm
/-- a thing of the store changes -/
theorem Gr.put (R : Rep W H ρ M) {p : Addr} {o : HO} (h : p ∈ ρ.m) : Gr H ρ (upd H p o) ρ :=
  ⟨List.prefix_refl _, fun a u e n => ⟨by rw [upd_ne (fun z : a = p => n (by rw [z]; exact .inl h))]; exact e, n⟩, rfl, fun a u ha e => by
    rw [upd_ne (fun z : a = p => (R.hid a ha).2 (by rw [z]; exact h))]; exact e⟩
theorem Rep.put (R : Rep W H ρ M) {i : Nat} {p : Addr} {o : HO} {m : MO} (h : ρ.m[i]? = some p) (hm : MR W (upd H p o) ρ p m) : Rep W (upd H p o) ρ (M.set i m) := by
  have hp : p ∈ ρ.m := List.mem_of_getElem? h
  refine ⟨R.nd, by simp [R.len], fun a ha => ?_, fun j a u h1 h2 => ?_⟩
  · obtain ⟨⟨u, e⟩, n⟩ := R.hid a ha
    exact ⟨⟨u, by rw [upd_ne (fun z : a = p => n (by rw [z]; exact hp))]; exact e⟩, n⟩
  by_cases hj : j = i
  · subst hj
    rw [h] at h1
    cases h1
    have hl : j < M.length := by rw [← R.len]; exact (List.getElem?_eq_some_iff.mp h).1
    rw [List.getElem?_set_self hl] at h2
    cases h2
    exact hm
  · rw [List.getElem?_set_ne (fun z => hj z.symm)] at h2
    have hne : a ≠ p := fun z => by
      subst z
      exact hj (nodup_ix R.nd h1 h)
    exact (R.mem j a u h1 h2).mono (Gr.put R hp) fun v e => by rw [upd_ne hne]; exact e
/-! a list that is being made changes -/
mutual
theorem DR.hide {K : PySem.W.Frag} {H : Hp} {ρ : Rh} {p : Addr} {o : HO} (hp : p ∈ ρ.v) : ∀ {v : V} {d : D}, DR K H ρ v d → DR K (upd H p o) ρ v d
  | _, .non, .non => .non
  | _, .bl b, .bl _ => .bl b
  | _, .int i, .int _ => .int i
  | _, .str x, .str _ => .str x
  | _, .tup ds, .tup h hs => .tup (h.elim (fun ⟨e, n⟩ => .inl ⟨by rw [upd_ne (fun z => n (by rw [z]; exact .inr hp))]; exact e, n⟩) .inr) (DRs.hide hp hs)
  | _, .lst ds, .lst ⟨e, n⟩ hs => .lst ⟨by rw [upd_ne (fun z => n (by rw [z]; exact .inr hp))]; exact e, n⟩ (DRs.hide hp hs)
  | _, .rol ds, .rol h hs => .rol (h.elim (fun ⟨o, e, n⟩ => .inl ⟨o, by rw [upd_ne (fun z => n (by rw [z]; exact .inr hp))]; exact e, n⟩) .inr) (DRs.hide hp hs)
  | _, .ref n, .ref h => .ref h
  | _, .fn x, .fn _ => .fn x
theorem DRs.hide {K : PySem.W.Frag} {H : Hp} {ρ : Rh} {p : Addr} {o : HO} (hp : p ∈ ρ.v) : ∀ {vs : List V} {ds : List D}, DRs K H ρ vs ds → DRs K (upd H p o) ρ vs ds
  | _, [], .nil => .nil
  | _, _ :: _, .cons h hs => .cons (DR.hide hp h) (DRs.hide hp hs)
end
mutual
theorem DR.less {K : PySem.W.Frag} {H : Hp} {ρ ρ' : Rh} (hm : ρ'.m = ρ.m) (hv : ∀ a, a ∉ ρ → a ∉ ρ') : ∀ {v : V} {d : D}, DR K H ρ v d → DR K H ρ' v d
  | _, .non, .non => .non
  | _, .bl b, .bl _ => .bl b
  | _, .int i, .int _ => .int i
  | _, .str x, .str _ => .str x
  | _, .tup ds, .tup h hs => .tup (h.elim (fun ⟨e, n⟩ => .inl ⟨e, hv _ n⟩) .inr) (DRs.less hm hv hs)
  | _, .lst ds, .lst ⟨e, n⟩ hs => .lst ⟨e, hv _ n⟩ (DRs.less hm hv hs)
  | _, .rol ds, .rol h hs => .rol (h.elim (fun ⟨o, e, n⟩ => .inl ⟨o, e, hv _ n⟩) .inr) (DRs.less hm hv hs)
  | _, .ref n, .ref h => .ref (by rw [hm]; exact h)
  | _, .fn x, .fn _ => .fn x
theorem DRs.less {K : PySem.W.Frag} {H : Hp} {ρ ρ' : Rh} (hm : ρ'.m = ρ.m) (hv : ∀ a, a ∉ ρ → a ∉ ρ') : ∀ {vs : List V} {ds : List D}, DRs K H ρ vs ds → DRs K H ρ' vs ds
  | _, [], .nil => .nil
  | _, _ :: _, .cons h hs => .cons (DR.less hm hv h) (DRs.less hm hv hs)
end
theorem MR.hide {W : Wd} {H : Hp} {ρ : Rh} {p a : Addr} {o : HO} {m : MO} (hp : p ∈ ρ.v) (ha : a ≠ p) (h : MR W H ρ a m) : MR W (upd H p o) ρ a m := by
  cases m with
  | lst ds => obtain ⟨xs, h1, h2⟩ := h; exact ⟨xs, by rw [upd_ne ha]; exact h1, h2.hide hp⟩
  | dct kvs => obtain ⟨vs, h1, ⟨h2, h3⟩, h4⟩ := h; exact ⟨vs, by rw [upd_ne ha]; exact h1, ⟨h2, h3.hide hp⟩, h4⟩
  | ins c fs => obtain ⟨dx, vs, h1, h2, h3⟩ := h; exact ⟨dx, vs, by rw [upd_ne ha]; exact h1, h2, h3.hide hp⟩
  | dcn kvs => obtain ⟨xs, h1, h2, h3⟩ := h; exact ⟨xs, by rw [upd_ne ha]; exact h1, h2, h3.to fun _ _ z => z.hide hp⟩
theorem MR.less {W : Wd} {H : Hp} {ρ ρ' : Rh} {a : Addr} {m : MO} (hm : ρ'.m = ρ.m) (hv : ∀ a, a ∉ ρ → a ∉ ρ') (h : MR W H ρ a m) : MR W H ρ' a m := by
  cases m with
  | lst ds => obtain ⟨xs, h1, h2⟩ := h; exact ⟨xs, h1, h2.less hm hv⟩
  | dct kvs => obtain ⟨vs, h1, ⟨h2, h3⟩, h4⟩ := h; exact ⟨vs, h1, ⟨h2, h3.less hm hv⟩, h4⟩
  | ins c fs => obtain ⟨dx, vs, h1, h2, h3⟩ := h; exact ⟨dx, vs, h1, h2, h3.less hm hv⟩
  | dcn kvs => obtain ⟨xs, h1, h2, h3⟩ := h; exact ⟨xs, h1, h2, h3.to fun _ _ z => z.less hm hv⟩
theorem Rep.hide (R : Rep W H ρ M) {p : Addr} {o : HO} (hp : p ∈ ρ.v) : Rep W (upd H p o) ρ M := by
  refine ⟨R.nd, R.len, fun a ha => ⟨?_, (R.hid a ha).2⟩, fun i a u h1 h2 => ?_⟩
  · by_cases hz : a = p
    · subst hz; exact ⟨o, upd_same⟩
    · obtain ⟨⟨u, e⟩, _⟩ := R.hid a ha
      exact ⟨u, by rw [upd_ne hz]; exact e⟩
  · have hne : a ≠ p := fun z => by
      subst z
      exact (R.hid a hp).2 (List.mem_of_getElem? h1)
    exact (R.mem i a u h1 h2).hide hp hne
end

/-! ### a list that is being made -/
section
variable {W : Wd} {H H' : Hp} {ρ ρ' : Rh} {M : Mo} {p : Addr} {o : HO}
theorem Kp.put (hp : H p = none) (a : Kp H ρ H' ρ') : Kp H ρ (upd H' p o) ρ' := ⟨a.pre, fun c u h n => let ⟨h1, n1⟩ := a.keep c u h n; ⟨by rw [upd_ne (ne_of_none h hp)]; exact h1, n1⟩⟩
theorem Kp.begin (hp : H p = none) : Kp H ρ (upd H p o) ⟨ρ.m, p :: ρ.v⟩ := ⟨List.prefix_refl _, fun c u h n => ⟨by rw [upd_ne (ne_of_none h hp)]; exact h, fun z => z.elim (fun z => n (.inl z)) fun z => by
  rcases List.mem_cons.mp z with z | z
  · exact ne_of_none h hp z
  · exact n (.inr z)⟩⟩
theorem Rep.begin (R : Rep W H ρ M) (hp : H p = none) : Rep W (upd H p o) ⟨ρ.m, p :: ρ.v⟩ M := by
  refine ⟨R.nd, R.len, fun a ha => ?_, fun i a u h1 h2 => (R.mem i a u h1 h2).stay (.begin hp) fun v e => by rw [upd_ne (ne_of_none e hp)]; exact e⟩
  rcases List.mem_cons.mp ha with rfl | ha
  · exact ⟨⟨o, upd_same⟩, fun z => R.fresh hp (.inl z)⟩
  · obtain ⟨⟨u, e⟩, n⟩ := R.hid a ha
    exact ⟨⟨u, by rw [upd_ne (ne_of_none e hp)]; exact e⟩, n⟩
theorem Rep.less (R : Rep W H ρ M) (hm : ρ'.m = ρ.m) (hv : ∀ a, a ∈ ρ'.v → a ∈ ρ.v) : Rep W H ρ' M := by
  have key : ∀ a, a ∉ ρ → a ∉ ρ' := fun a n z => z.elim (fun z => n (.inl (by rw [← hm]; exact z))) fun z => n (.inr (hv a z))
  exact ⟨by rw [hm]; exact R.nd, by rw [hm]; exact R.len, fun a ha => by rw [hm]; exact R.hid a (hv a ha), fun i a u h1 h2 => (R.mem i a u (by rw [← hm]; exact h1) h2).less hm key⟩
end

/-! ### the locals -/
def LoR (K : PySem.W.Frag) (H : Hp) (ρ : Rh) (σ : L2.St) (lo : Lo) : Prop := σ.length = lo.length ∧ ∀ (i : Nat) (d : D), lo[i]? = some (some d) → ∃ v, σ[i]? = some (some v) ∧ DR K H ρ v d
section
variable {K : PySem.W.Frag} {H H' : Hp} {ρ ρ' : Rh} {σ : L2.St} {lo : Lo}
theorem LoR.stay (g : Kp H ρ H' ρ') (h : LoR K H ρ σ lo) : LoR K H' ρ' σ lo := ⟨h.1, fun i d e => let ⟨v, e1, r⟩ := h.2 i d e; ⟨v, e1, r.stay g⟩⟩
theorem LoR.mono (g : Gr H ρ H' ρ') (h : LoR K H ρ σ lo) : LoR K H' ρ' σ lo := ⟨h.1, fun i d e => let ⟨v, e1, r⟩ := h.2 i d e; ⟨v, e1, r.mono g⟩⟩
theorem LoR.set {v : V} {d : D} (h : LoR K H ρ σ lo) (r : DR K H ρ v d) (i : Nat) : LoR K H ρ (σ.set i (some v)) (lo.set i (some d)) := by
  refine ⟨by simp [h.1], fun j e hj => ?_⟩
  by_cases hij : i = j
  · subst hij
    have hl : i < lo.length := by
      have := (List.getElem?_eq_some_iff.mp hj).1
      simpa using this
    rw [List.getElem?_set_self hl] at hj
    cases hj
    exact ⟨v, by rw [List.getElem?_set_self (by rw [h.1]; exact hl)], r⟩
  · rw [List.getElem?_set_ne hij] at hj ⊢
    exact h.2 j e hj
theorem LoR.start {vs : List V} {ds : List D} (N : List Str) (h : DRs K H ρ vs ds) : LoR K H ρ (L2.start N vs) (ds.map some ++ List.replicate (N.length - ds.length) none) := by
  refine ⟨by simp [L2.start, h.length], fun i d e => ?_⟩
  by_cases hi : i < ds.length
  · rw [List.getElem?_append_left (by simpa using hi), List.getElem?_map] at e
    cases q : ds[i]? with
    | none => rw [q] at e; simp at e
    | some z =>
      rw [q] at e
      simp at e
      subst e
      obtain ⟨v, e1, r⟩ := h.get q
      refine ⟨v, ?_, r⟩
      unfold L2.start
      rw [List.getElem?_append_left (by simp [h.length]; exact hi), List.getElem?_map, e1]
      rfl
  · rw [List.getElem?_append_right (by simpa using Nat.le_of_not_lt hi)] at e
    have := List.mem_of_getElem? e
    simp at this
end

/-! ### meanings and readings -/
abbrev F1 := List D → Mo → Option (D × Mo)
abbrev ME := Lo → Mo → Option (D × Mo)
abbrev MA := Lo → Mo → Option (List D × Mo)
abbrev MT := Lo → Mo → Option (Bool × Mo)
inductive Out where
  | nx (lo : Lo) (M : Mo)
  | rt (d : D) (M : Mo)
  | bk (lo : Lo) (M : Mo)
  | ct (lo : Lo) (M : Mo)
abbrev MS := Lo → Mo → Option Out

def tM (W : Wd) (m : ME) : TE := fun σ H Q => ∃ ρ lo M d M', Rep W H ρ M ∧ LoR W.K H ρ σ lo ∧ m lo M = some (d, M') ∧ ∀ v H' ρ', Gr H ρ H' ρ' → Rep W H' ρ' M' → DR W.K H' ρ' v d → Q v H'
def tMs (W : Wd) (m : MA) : TA := fun σ H Q => ∃ ρ lo M ds M', Rep W H ρ M ∧ LoR W.K H ρ σ lo ∧ m lo M = some (ds, M') ∧ ∀ vs H' ρ', Gr H ρ H' ρ' → Rep W H' ρ' M' → DRs W.K H' ρ' vs ds → Q vs H'
def tMT (W : Wd) (m : MT) : TT := fun σ H Q => ∃ ρ lo M b M', Rep W H ρ M ∧ LoR W.K H ρ σ lo ∧ m lo M = some (b, M') ∧ ∀ H' ρ', Gr H ρ H' ρ' → Rep W H' ρ' M' → Q b H'
/-- by values -/
def rM (W : Wd) (f : F1) : List V → Hp → VK → Prop := fun vs H Q => ∃ ρ M ds d M', Rep W H ρ M ∧ DRs W.K H ρ vs ds ∧ f ds M = some (d, M') ∧ ∀ v H' ρ', Gr H ρ H' ρ' → Rep W H' ρ' M' → DR W.K H' ρ' v d → Q v H'
def r2 (W : Wd) (f : F1) : R2 := fun x y H Q => rM W f [x, y] H Q
def OutOk (W : Wd) (H : Hp) (ρ : Rh) (De : Ends) : Out → Prop
  | .nx lo M => ∀ σ' H' ρ', Gr H ρ H' ρ' → Rep W H' ρ' M → LoR W.K H' ρ' σ' lo → De.nx σ' H'
  | .rt d M => ∀ v H' ρ', Gr H ρ H' ρ' → Rep W H' ρ' M → DR W.K H' ρ' v d → De.rt v H'
  | .bk lo M => ∀ σ' H' ρ', Gr H ρ H' ρ' → Rep W H' ρ' M → LoR W.K H' ρ' σ' lo → De.bk σ' H'
  | .ct lo M => ∀ σ' H' ρ', Gr H ρ H' ρ' → Rep W H' ρ' M → LoR W.K H' ρ' σ' lo → De.ct σ' H'
def tS (W : Wd) (m : MS) : TS := fun De σ H => ∃ ρ lo M o, Rep W H ρ M ∧ LoR W.K H ρ σ lo ∧ m lo M = some o ∧ OutOk W H ρ De o
theorem OutOk.mono {W : Wd} {H H' : Hp} {ρ ρ' : Rh} {De : Ends} {o : Out} (g : Gr H ρ H' ρ') (h : OutOk W H ρ De o) : OutOk W H' ρ' De o := by
  cases o with
  | nx lo M => exact fun σ H2 ρ2 g2 => h σ H2 ρ2 (g.trans g2)
  | rt d M => exact fun σ H2 ρ2 g2 => h σ H2 ρ2 (g.trans g2)
  | bk lo M => exact fun σ H2 ρ2 g2 => h σ H2 ρ2 (g.trans g2)
  | ct lo M => exact fun σ H2 ρ2 g2 => h σ H2 ρ2 (g.trans g2)

/-- judgements: a piece of the text and its meaning -/
abbrev GE (cl : Nat → Addr) (X : Cx) (e : Expr) (m : ME) : Prop := PE X e (tM ⟨X.K, cl, X.w⟩ m)
abbrev GT (cl : Nat → Addr) (X : Cx) (e : Expr) (m : MT) : Prop := PT X e (tMT ⟨X.K, cl, X.w⟩ m)
abbrev GW (cl : Nat → Addr) (X : Cx) (e : Expr) (m : MT) : Prop := PW X e (tMT ⟨X.K, cl, X.w⟩ m)
abbrev GA (cl : Nat → Addr) (X : Cx) (es : List Expr) (m : MA) : Prop := PA X es (tMs ⟨X.K, cl, X.w⟩ m)
abbrev GS (cl : Nat → Addr) (X : Cx) (st : Stmt) (m : MS) : Prop := PS X st (tS ⟨X.K, cl, X.w⟩ m)
abbrev GB (cl : Nat → Addr) (X : Cx) (st : List Stmt) (m : MS) : Prop := PSs X st (tS ⟨X.K, cl, X.w⟩ m)

section
variable {X : Cx}
theorem _root_.L2.PE.imp {e : Expr} {t t' : TE} (h : PE X e t) (i : ∀ σ H Q, t' σ H Q → t σ H Q) : PE X e t' := ⟨fun pins s σ H Q I q => h.run pins s σ H Q I (i σ H Q q)⟩
theorem _root_.L2.PT.imp {e : Expr} {t t' : TT} (h : PT X e t) (i : ∀ σ H Q, t' σ H Q → t σ H Q) : PT X e t' := ⟨fun pins s σ H Q I q => h.run pins s σ H Q I (i σ H Q q)⟩
theorem _root_.L2.PW.imp {e : Expr} {t t' : TT} (h : PW X e t) (i : ∀ σ H Q, t' σ H Q → t σ H Q) : PW X e t' := ⟨fun wh pins s σ H Q I q => h.run wh pins s σ H Q I (i σ H Q q)⟩
theorem _root_.L2.PA.imp {e : List Expr} {t t' : TA} (h : PA X e t) (i : ∀ σ H Q, t' σ H Q → t σ H Q) : PA X e t' := ⟨fun pos pins s σ H Q I q => h.run pos pins s σ H Q I (i σ H Q q)⟩
theorem _root_.L2.PS.imp {e : Stmt} {t t' : TS} (h : PS X e t) (i : ∀ De σ H, t' De σ H → t De σ H) : PS X e t' := ⟨fun pins s σ H De I q => h.run pins s σ H De I (i De σ H q)⟩
theorem _root_.L2.PSs.imp {e : List Stmt} {t t' : TS} (h : PSs X e t) (i : ∀ De σ H, t' De σ H → t De σ H) : PSs X e t' := ⟨fun pins s σ H De I q => h.run pins s σ H De I (i De σ H q)⟩
end
end G

set_option Elab.async false
set_option linter.all false
set_option maxRecDepth 100000
namespace G
open PySem PySem.Spec L2

section
variable {X : Cx} {cl : Nat → Addr} {pos : Pos}

/-! ### names, constants -/
def mVar (i : Nat) : ME := fun lo M => match lo[i]? with | some (some d) => some (d, M) | _ => none
def mC (d : D) : ME := fun _ M => some (d, M)
theorem ge_of_var {e : Expr} {i : Nat} (h : PE X e (tVar i)) : GE cl X e (mVar i) := by
  refine h.imp fun σ H Q q => ?_
  obtain ⟨ρ, lo, M, d, M', R, L, e, k⟩ := q
  unfold mVar at e
  split at e
  · rename_i d' he
    cases e
    obtain ⟨v, e1, r⟩ := L.2 i _ he
    exact ⟨v, e1, k v H ρ (.refl H ρ) R r⟩
  · cases e
theorem gv (i : Nat) {x : Str} {pos : Pos} (hN : X.N[i]? = some x := by rfl) (hv : Vis X.env.scope x := by first | exact Or.inl rfl | exact Or.inr (Or.inl rfl) | exact Or.inr (Or.inr rfl)) (hd : (x == ("__debug__" : Str)) = false := by decide) (hcd : (x == ("__classdict__" : Str)) = false := by decide) : GE cl X (.Name x pos) (mVar i) :=
  ge_of_var (pv i hN hv hd hcd)
theorem ge_of_c {e : Expr} {v : V} {d : D} (h : PE X e (tC v)) (r : ∀ H ρ, DR X.K H ρ v d) : GE cl X e (mC d) := by
  refine h.imp fun σ H Q q => ?_
  obtain ⟨ρ, lo, M, d', M', R, L, e, k⟩ := q
  cases e
  exact k v H ρ (.refl H ρ) R (r H ρ)
theorem ge_int {i j pos} : GE cl X (.Constant (.int i) j pos) (mC (.int i)) := ge_of_c pe_int fun _ _ => .int i
theorem ge_bl {b j pos} : GE cl X (.Constant (.bool b) j pos) (mC (.bl b)) := ge_of_c pe_bl fun _ _ => .bl b
theorem ge_non {j pos} : GE cl X (.Constant .none j pos) (mC .non) := ge_of_c pe_non fun _ _ => .non
theorem ge_str {x j pos} : GE cl X (.Constant (.str x) j pos) (mC (.str x)) := ge_of_c pe_str fun _ _ => .str x
/-- a constant of the module -/
theorem ge_glob {x : Str} {v : V} {d : D} {u : Value} {pos : Pos} (hg : Gl X x) (hm : X.mg x = some u) (rv : RelV v u) (r : ∀ H ρ, DR X.K H ρ v d) (hd : (x == ("__debug__" : Str)) = false := by decide) : GE cl X (.Name x pos) (mC d) :=
  ge_of_c (pe_glob hg hm rv hd) r

/-! ### argument lists -/
def mNil : MA := fun _ M => some ([], M)
def mCons (m : ME) (ms : MA) : MA := fun lo M => match m lo M with
  | some (d, M1) => match ms lo M1 with
    | some (ds, M2) => some (d :: ds, M2)
    | none => none
  | none => none
theorem ga_nil : GA cl X [] mNil := by
  refine pa_nil.imp fun σ H Q q => ?_
  obtain ⟨ρ, lo, M, d', M', R, L, e, k⟩ := q
  cases e
  exact k [] H ρ (.refl H ρ) R .nil
theorem mCons_some {m : ME} {ms : MA} {lo : Lo} {M M' : Mo} {ds : List D} (e : mCons m ms lo M = some (ds, M')) : ∃ d M1 es, m lo M = some (d, M1) ∧ ms lo M1 = some (es, M') ∧ ds = d :: es := by
  unfold mCons at e
  split at e
  · rename_i d M1 h1
    split at e
    · rename_i es M2 h2
      cases e
      exact ⟨d, M1, es, h1, h2, rfl⟩
    · cases e
  · cases e
theorem ga_cons {e : Expr} {es : List Expr} {m : ME} {ms : MA} (h : GE cl X e m) (hs : GA cl X es ms) (hh : starEach (e :: es) X.env = (false, eval e X.env) :: starEach es X.env := by rfl) : GA cl X (e :: es) (mCons m ms) := by
  refine (pa_cons h hs hh).imp fun σ H Q q => ?_
  obtain ⟨ρ, lo, M, ds, M', R, L, e, k⟩ := q
  obtain ⟨d, M1, es', e1, e2, rfl⟩ := mCons_some e
  refine ⟨ρ, lo, M, d, M1, R, L, e1, fun v H1 ρ1 g1 R1 r1 => ?_⟩
  refine ⟨ρ1, lo, M1, es', M', R1, L.mono g1, e2, fun vs H2 ρ2 g2 R2 r2 => ?_⟩
  exact k (v :: vs) H2 ρ2 (g1.trans g2) R2 (.cons (r1.mono g2) r2)

/-! ### f(args), by values -/
def mCall (f : F1) (ms : MA) : ME := fun lo M => match ms lo M with
  | some (ds, M1) => f ds M1
  | none => none
theorem tM_call {W : Wd} {f : F1} {ms : MA} {σ : L2.St} {H : Hp} {Q : VK} (q : tM W (mCall f ms) σ H Q) : tMs W ms σ H fun vs H1 => rM W f vs H1 Q := by
  obtain ⟨ρ, lo, M, d, M', R, L, e, k⟩ := q
  unfold mCall at e
  split at e
  · rename_i ds M1 h1
    refine ⟨ρ, lo, M, ds, M1, R, L, h1, fun vs H1 ρ1 g1 R1 r1 => ?_⟩
    exact ⟨ρ1, M1, ds, d, M', R1, r1, e, fun v H2 ρ2 g2 R2 rr => k v H2 ρ2 (g1.trans g2) R2 rr⟩
  · cases e
def mOne (m : ME) : MA := mCons m mNil
def mTwo (m n : ME) : MA := mCons m (mCons n mNil)
theorem tM_two {W : Wd} {ma mb : ME} {σ : L2.St} {H : Hp} {Q : List V → Hp → Prop} (q : tMs W (mTwo ma mb) σ H Q) : tM W ma σ H fun x H1 => tM W mb σ H1 fun y H2 => Q [x, y] H2 := by
  obtain ⟨ρ, lo, M, ds, M', R, L, e, k⟩ := q
  obtain ⟨d, M1, es', e1, e2, rfl⟩ := mCons_some e
  obtain ⟨d2, M2, es2, e3, e4, rfl⟩ := mCons_some e2
  cases e4
  refine ⟨ρ, lo, M, d, M1, R, L, e1, fun v H1 ρ1 g1 R1 r1 => ?_⟩
  refine ⟨ρ1, lo, M1, d2, _, R1, L.mono g1, e3, fun u H2 ρ2 g2 R2 rr => ?_⟩
  exact k _ H2 ρ2 (g1.trans g2) R2 (.cons (r1.mono g2) (.cons rr .nil))
theorem tM_one {W : Wd} {ma : ME} {σ : L2.St} {H : Hp} {Q : List V → Hp → Prop} (q : tMs W (mOne ma) σ H Q) : tM W ma σ H fun x H1 => Q [x] H1 := by
  obtain ⟨ρ, lo, M, ds, M', R, L, e, k⟩ := q
  obtain ⟨d, M1, es', e1, e2, rfl⟩ := mCons_some e
  cases e2
  exact ⟨ρ, lo, M, d, _, R, L, e1, fun v H1 ρ1 g1 R1 r1 => k _ H1 ρ1 g1 R1 (.cons r1 .nil)⟩
def mBin (f : F1) (ma mb : ME) : ME := mCall f (mTwo ma mb)
theorem tM_bin {W : Wd} {f : F1} {ma mb : ME} {σ : L2.St} {H : Hp} {Q : VK} (q : tM W (mBin f ma mb) σ H Q) : tOp (r2 W f) (tM W ma) (tM W mb) σ H Q := tM_two (tM_call q)
section
variable {a b : Expr} {ma mb : ME}
theorem ge_op {op : Operator} {f : F1} (ho : OpR X (binaryOp op) (r2 ⟨X.K, cl, X.w⟩ f)) (ha : GE cl X a ma) (hb : GE cl X b mb) : GE cl X (.BinOp a op b pos) (mBin f ma mb) :=
  (pe_op ho ha hb).imp fun _ _ _ q => tM_bin q
theorem ge_cmp {op : CmpOp} {f : F1} (ho : OpR X (compareOp op) (r2 ⟨X.K, cl, X.w⟩ f)) (ha : GE cl X a ma) (hb : GE cl X b mb) (hm : behindInMarks op b = false := by first | exact nobehind _ (by decide) (by decide) | with_unfolding_all rfl) : GE cl X (.Compare a [op] [b] pos) (mBin f ma mb) :=
  (pe_cmpR ho ha hb hm).imp fun _ _ _ q => tM_bin q
def mUn (f : F1) (m : ME) : ME := mCall f (mOne m)
theorem ge_un {op : UnaryOp} {f : F1} (ho : UnR X (unaryOp op) (fun x H Q => rM ⟨X.K, cl, X.w⟩ f [x] H Q)) (ha : GE cl X a ma) : GE cl X (.UnaryOp op a pos) (mUn f ma) :=
  (pe_un ho ha).imp fun _ _ _ q => tM_one (tM_call q)
theorem ge_callB {x : Str} {id : String} {f : F1} {es : List Expr} {ms : MA} {p : Pos} (hc : CallR X (.builtin id) (rM ⟨X.K, cl, X.w⟩ f)) (hg : Gl X x) (hm : X.mg x = none) (hv : bootBuiltins x = some (.builtin id)) (ha : GA cl X (a :: es) ms) (hn : x ≠ "__name__" := by decide) (hdb : (x == ("__debug__" : Str)) = false := by decide)
    (he : starEach (a :: es) X.env = (false, eval a X.env) :: starEach es X.env := by rfl) (hpl : (backTo pos (starEach es X.env)).any (·.1) = false := by rfl) : GE cl X (.Call (.Name x p) (a :: es) [] pos) (mCall f ms) :=
  (pe_callB hc hg hm hv ha hn hdb he hpl).imp fun _ _ _ q => tM_call q
theorem ge_callTy {x : Str} {T : String} {f : F1} {es : List Expr} {ms : MA} {p : Pos} (hc : CallR X (.type T) (rM ⟨X.K, cl, X.w⟩ f)) (hg : Gl X x) (hm : X.mg x = none) (hv : bootBuiltins x = some (.type T)) (ha : GA cl X (a :: es) ms) (hn : x ≠ "__name__" := by decide) (hdb : (x == ("__debug__" : Str)) = false := by decide)
    (he : starEach (a :: es) X.env = (false, eval a X.env) :: starEach es X.env := by rfl) (hpl : (backTo pos (starEach es X.env)).any (·.1) = false := by rfl) : GE cl X (.Call (.Name x p) (a :: es) [] pos) (mCall f ms) :=
  (pe_callTy hc hg hm hv ha hn hdb he hpl).imp fun _ _ _ q => tM_call q
end

/-! ### displays -/
def mTup (ms : MA) : ME := fun lo M => match ms lo M with
  | some (ds, M1) => if ds.length ≤ sizeLine then some (.tup ds, M1) else none
  | none => none
def mLst (ms : MA) : ME := fun lo M => match ms lo M with
  | some (ds, M1) => if ds.length ≤ sizeLine then some (.lst ds, M1) else none
  | none => none
/-- a list that will change -/
def mNewL (ms : MA) : ME := fun lo M => match ms lo M with
  | some (ds, M1) => if ds.length ≤ sizeLine then some (.ref M1.length, M1 ++ [.lst ds]) else none
  | none => none
theorem DR.newTup {K : PySem.W.Frag} {H : Hp} {ρ : Rh} {p : Addr} {vs : List V} {ds : List D} (hp : H p = none) (n : p ∉ ρ) (r : DRs K H ρ vs ds) : DR K (upd H p (.tup vs)) ρ (.ref p) (.tup ds) := .tup (.inl ⟨upd_same, n⟩) (r.mono (.new hp))
theorem DR.newLst {K : PySem.W.Frag} {H : Hp} {ρ : Rh} {p : Addr} {vs : List V} {ds : List D} (hp : H p = none) (n : p ∉ ρ) (r : DRs K H ρ vs ds) : DR K (upd H p (.lst vs)) ρ (.ref p) (.lst ds) := .lst ⟨upd_same, n⟩ (r.mono (.new hp))
theorem ge_tup {es : List Expr} {ms : MA} {x1} (h : GA cl X es ms) : GE cl X (.Tuple es x1 pos) (mTup ms) := by
  refine (pe_tup h).imp fun σ H Q q => ?_
  obtain ⟨ρ, lo, M, d, M', R, L, e, k⟩ := q
  unfold mTup at e
  split at e
  · rename_i ds M1 h1
    split at e
    · rename_i hl
      cases e
      refine ⟨ρ, lo, M, ds, _, R, L, h1, fun vs H1 ρ1 g1 R1 r1 => ⟨by rw [r1.length]; exact hl, fun p hp => ?_⟩⟩
      exact k _ _ ρ1 (g1.trans (.new hp)) (R1.new hp) (.newTup hp (R1.fresh hp) r1)
    · cases e
  · cases e
theorem ge_lst {es : List Expr} {ms : MA} (h : GA cl X es ms) : GE cl X (.List es pos) (mLst ms) := by
  refine (pe_lst h).imp fun σ H Q q => ?_
  obtain ⟨ρ, lo, M, d, M', R, L, e, k⟩ := q
  unfold mLst at e
  split at e
  · rename_i ds M1 h1
    split at e
    · rename_i hl
      cases e
      refine ⟨ρ, lo, M, ds, _, R, L, h1, fun vs H1 ρ1 g1 R1 r1 => ⟨by rw [r1.length]; exact hl, fun p hp => ?_⟩⟩
      exact k _ _ ρ1 (g1.trans (.new hp)) (R1.new hp) (.newLst hp (R1.fresh hp) r1)
    · cases e
  · cases e
theorem Rep.ref_new {W : Wd} {H : Hp} {ρ : Rh} {M : Mo} (R : Rep W H ρ M) (p : Addr) : DR W.K H (ρ.push p) (.ref p) (.ref M.length) := .ref (by show (ρ.m ++ [p])[M.length]? = some p; rw [← R.len, List.getElem?_append_right (Nat.le_refl _), Nat.sub_self]; rfl)
theorem Rep.newL {W : Wd} {H : Hp} {ρ : Rh} {M : Mo} {vs : List V} {ds : List D} (R : Rep W H ρ M) {p : Addr} (hp : H p = none) (r : DRs W.K H ρ vs ds) : Rep W (upd H p (.lst vs)) (ρ.push p) (M ++ [.lst ds]) := R.push hp ⟨vs, upd_same, r.mono (.push hp)⟩
theorem ge_newL {es : List Expr} {ms : MA} (h : GA cl X es ms) : GE cl X (.List es pos) (mNewL ms) := by
  refine (pe_lst h).imp fun σ H Q q => ?_
  obtain ⟨ρ, lo, M, d, M', R, L, e, k⟩ := q
  unfold mNewL at e
  split at e
  · rename_i ds M1 h1
    split at e
    · rename_i hl
      cases e
      refine ⟨ρ, lo, M, ds, _, R, L, h1, fun vs H1 ρ1 g1 R1 r1 => ⟨by rw [r1.length]; exact hl, fun p hp => ?_⟩⟩
      exact k _ _ _ (g1.trans (.push hp)) (R1.newL hp r1) ((Rep.ref_new R1 p).mono (.new hp))
    · cases e
  · cases e

/-! ### tests -/
def tru (m : ME) : MT := fun lo M => match m lo M with | some (.bl b, M1) => some (b, M1) | _ => none
theorem tru_some {m : ME} {lo : Lo} {M M' : Mo} {b : Bool} (e : tru m lo M = some (b, M')) : m lo M = some (.bl b, M') := by
  unfold tru at e
  split at e
  · rename_i b' M1 h; cases e; exact h
  · cases e
theorem tB_of {W : Wd} {m : ME} {σ : L2.St} {H : Hp} {Q : Bool → Hp → Prop} (q : tMT W (tru m) σ H Q) : tB (tM W m) σ H Q := by
  obtain ⟨ρ, lo, M, b, M', R, L, e, k⟩ := q
  refine ⟨ρ, lo, M, _, _, R, L, tru_some e, fun v H' ρ' g R' r => ?_⟩
  cases r
  exact ⟨b, rfl, k H' ρ' g R'⟩
/-- the value of a call, a name .. that is a bool -/
theorem gt_val {e : Expr} {m : ME} (h : GE cl X e m) (he : ∀ whole, isTrue e X.env whole = (do let v ← whole; standAt e.pos; holding [v] (truthy v)) := by intro _; rfl) : GT cl X e (tru m) :=
  (pt_val h he).imp fun _ _ _ q => tB_of q
theorem gt_cmp {a b : Expr} {ma mb : ME} {op : CmpOp} {f : F1} (ho : OpR X (compareOp op) (r2 ⟨X.K, cl, X.w⟩ f)) (ha : GE cl X a ma) (hb : GE cl X b mb) (hm : behindInMarks op b = false := by first | exact nobehind _ (by decide) (by decide) | with_unfolding_all rfl) : GT cl X (.Compare a [op] [b] pos) (tru (mBin f ma mb)) :=
  (pt_cmpR ho ha hb hm).imp fun σ H Q q => by
    obtain ⟨ρ, lo, M, b, M', R, L, e, k⟩ := q
    refine tM_bin ⟨ρ, lo, M, _, _, R, L, tru_some e, fun v H' ρ' g R' r => ?_⟩
    cases r
    exact ⟨b, rfl, k H' ρ' g R'⟩
def tNotM (m : MT) : MT := fun lo M => match m lo M with | some (b, M1) => some (!b, M1) | none => none
def tAndM (m n : MT) : MT := fun lo M => match m lo M with | some (true, M1) => n lo M1 | some (false, M1) => some (false, M1) | none => none
def tOrM (m n : MT) : MT := fun lo M => match m lo M with | some (true, M1) => some (true, M1) | some (false, M1) => n lo M1 | none => none
section
variable {a b : Expr} {rest : List Expr} {ma mb : MT}
theorem gt_not (h : GT cl X a ma) : GT cl X (.UnaryOp .Not a pos) (tNotM ma) := (pt_not h).imp fun σ H Q q => by
  obtain ⟨ρ, lo, M, b, M', R, L, e, k⟩ := q
  unfold tNotM at e
  split at e
  · rename_i b' M1 h1
    cases e
    exact ⟨ρ, lo, M, b', _, R, L, h1, k⟩
  · cases e
theorem gw_and1 (h : GT cl X a ma) : GW cl X (.BoolOp .And [a] pos) ma := pw_and1 h
theorem gw_or1 (h : GT cl X a ma) : GW cl X (.BoolOp .Or [a] pos) ma := pw_or1 h
theorem gw_and (h : GT cl X a ma) (h2 : GW cl X (.BoolOp .And (b :: rest) pos) mb) : GW cl X (.BoolOp .And (a :: b :: rest) pos) (tAndM ma mb) := (pw_and h h2).imp fun σ H Q q => by
  obtain ⟨ρ, lo, M, b, M', R, L, e, k⟩ := q
  unfold tAndM at e
  split at e
  · rename_i M1 h1
    refine ⟨ρ, lo, M, true, _, R, L, h1, fun H1 ρ1 g1 R1 => ?_⟩
    refine iteT ?_
    exact ⟨ρ1, lo, M1, b, M', R1, L.mono g1, e, fun H2 ρ2 g2 R2 => k H2 ρ2 (g1.trans g2) R2⟩
  · rename_i M1 h1
    cases e
    refine ⟨ρ, lo, M, false, _, R, L, h1, fun H1 ρ1 g1 R1 => ?_⟩
    refine iteF ?_
    exact k H1 ρ1 g1 R1
  · cases e
theorem gw_or (h : GT cl X a ma) (h2 : GW cl X (.BoolOp .Or (b :: rest) pos) mb) : GW cl X (.BoolOp .Or (a :: b :: rest) pos) (tOrM ma mb) := (pw_or h h2).imp fun σ H Q q => by
  obtain ⟨ρ, lo, M, b, M', R, L, e, k⟩ := q
  unfold tOrM at e
  split at e
  · rename_i M1 h1
    cases e
    refine ⟨ρ, lo, M, true, _, R, L, h1, fun H1 ρ1 g1 R1 => ?_⟩
    refine iteT ?_
    exact k H1 ρ1 g1 R1
  · rename_i M1 h1
    refine ⟨ρ, lo, M, false, _, R, L, h1, fun H1 ρ1 g1 R1 => ?_⟩
    refine iteF ?_
    exact ⟨ρ1, lo, M1, b, M', R1, L.mono g1, e, fun H2 ρ2 g2 R2 => k H2 ρ2 (g1.trans g2) R2⟩
  · cases e
/-- as values: bools -/
def mNotE (m : ME) : ME := fun lo M => match m lo M with | some (.bl b, M1) => some (.bl (!b), M1) | _ => none
def mAndE (m n : ME) : ME := fun lo M => match m lo M with | some (.bl true, M1) => n lo M1 | some (.bl false, M1) => some (.bl false, M1) | _ => none
def mOrE (m n : ME) : ME := fun lo M => match m lo M with | some (.bl true, M1) => some (.bl true, M1) | some (.bl false, M1) => n lo M1 | _ => none
theorem ge_one {op} {m : ME} (h : GE cl X a m) : GE cl X (.BoolOp op [a] pos) m := pe_one h
theorem ge_and {m n : ME} (h : GE cl X a m) (h2 : GE cl X (.BoolOp .And (b :: rest) pos) n) : GE cl X (.BoolOp .And (a :: b :: rest) pos) (mAndE m n) := (pe_and h h2).imp fun σ H Q q => by
  obtain ⟨ρ, lo, M, d, M', R, L, e, k⟩ := q
  unfold mAndE at e
  split at e
  · rename_i M1 h1
    refine ⟨ρ, lo, M, _, _, R, L, h1, fun v H1 ρ1 g1 R1 r1 => ?_⟩
    cases r1
    refine ⟨true, rfl, ?_⟩
    refine iteT ?_
    exact ⟨ρ1, lo, M1, d, M', R1, L.mono g1, e, fun v H2 ρ2 g2 R2 => k v H2 ρ2 (g1.trans g2) R2⟩
  · rename_i M1 h1
    cases e
    refine ⟨ρ, lo, M, _, _, R, L, h1, fun v H1 ρ1 g1 R1 r1 => ?_⟩
    cases r1
    refine ⟨false, rfl, ?_⟩
    refine iteF ?_
    exact k _ H1 ρ1 g1 R1 (.bl false)
  · cases e
theorem ge_or {m n : ME} (h : GE cl X a m) (h2 : GE cl X (.BoolOp .Or (b :: rest) pos) n) : GE cl X (.BoolOp .Or (a :: b :: rest) pos) (mOrE m n) := (pe_or h h2).imp fun σ H Q q => by
  obtain ⟨ρ, lo, M, d, M', R, L, e, k⟩ := q
  unfold mOrE at e
  split at e
  · rename_i M1 h1
    cases e
    refine ⟨ρ, lo, M, _, _, R, L, h1, fun v H1 ρ1 g1 R1 r1 => ?_⟩
    cases r1
    refine ⟨true, rfl, ?_⟩
    refine iteT ?_
    exact k _ H1 ρ1 g1 R1 (.bl true)
  · rename_i M1 h1
    refine ⟨ρ, lo, M, _, _, R, L, h1, fun v H1 ρ1 g1 R1 r1 => ?_⟩
    cases r1
    refine ⟨false, rfl, ?_⟩
    refine iteF ?_
    exact ⟨ρ1, lo, M1, d, M', R1, L.mono g1, e, fun v H2 ρ2 g2 R2 => k v H2 ρ2 (g1.trans g2) R2⟩
  · cases e
theorem ge_not {m : ME} (h : GE cl X a m) : GE cl X (.UnaryOp .Not a pos) (mNotE m) := (pe_not h).imp fun σ H Q q => by
  obtain ⟨ρ, lo, M, d, M', R, L, e, k⟩ := q
  unfold mNotE at e
  split at e
  · rename_i b' M1 h1
    cases e
    refine ⟨ρ, lo, M, _, _, R, L, h1, fun v H1 ρ1 g1 R1 r1 => ?_⟩
    cases r1
    exact ⟨b', rfl, k _ H1 ρ1 g1 R1 (.bl _)⟩
  · cases e
def mIf (c : MT) (m n : ME) : ME := fun lo M => match c lo M with | some (true, M1) => m lo M1 | some (false, M1) => n lo M1 | none => none
theorem ge_ifExp {c : Expr} {mc : MT} {m n : ME} (hc : GT cl X c mc) (ha : GE cl X a m) (hb : GE cl X b n) : GE cl X (.IfExp c a b pos) (mIf mc m n) := (pe_ifExp hc ha hb).imp fun σ H Q q => by
  obtain ⟨ρ, lo, M, d, M', R, L, e, k⟩ := q
  unfold mIf at e
  split at e
  · rename_i M1 h1
    refine ⟨ρ, lo, M, _, _, R, L, h1, fun H1 ρ1 g1 R1 => ?_⟩
    refine iteT ?_
    exact ⟨ρ1, lo, M1, d, M', R1, L.mono g1, e, fun v H2 ρ2 g2 R2 => k v H2 ρ2 (g1.trans g2) R2⟩
  · rename_i M1 h1
    refine ⟨ρ, lo, M, _, _, R, L, h1, fun H1 ρ1 g1 R1 => ?_⟩
    refine iteF ?_
    exact ⟨ρ1, lo, M1, d, M', R1, L.mono g1, e, fun v H2 ρ2 g2 R2 => k v H2 ρ2 (g1.trans g2) R2⟩
  · cases e
end

/-! ### statements -/
section
variable {st : Stmt} {rest : List Stmt} {e : Expr}
def sNext : MS := fun lo M => some (.nx lo M)
def sSeq (m n : MS) : MS := fun lo M => match m lo M with | some (.nx lo1 M1) => n lo1 M1 | r => r
theorem gb_nil : GB cl X [] sNext := pss_nil.imp fun De σ H q => by
  obtain ⟨ρ, lo, M, o, R, L, e, k⟩ := q
  cases e
  exact k σ H ρ (.refl H ρ) R L
theorem gb_cons {m n : MS} (h : GS cl X st m) (h2 : GB cl X rest n) : GB cl X (st :: rest) (sSeq m n) := (pss_cons h h2).imp fun De σ H q => by
  obtain ⟨ρ, lo, M, o, R, L, e, k⟩ := q
  unfold sSeq at e
  split at e
  · rename_i lo1 M1 h1
    refine ⟨ρ, lo, M, _, R, L, h1, fun σ1 H1 ρ1 g1 R1 L1 => ?_⟩
    exact ⟨ρ1, lo1, M1, o, R1, L1, e, k.mono g1⟩
  · rename_i hne
    refine ⟨ρ, lo, M, o, R, L, e, ?_⟩
    cases o with
    | nx lo1 M1 => exact absurd e (hne lo1 M1)
    | rt d M1 => exact k
    | bk lo M => exact k
    | ct lo M => exact k
theorem gb_one {m : MS} (h : GS cl X st m) : GB cl X [st] m := pss_one h
theorem gs_pass : GS cl X (.Pass pos) sNext := ps_pass.imp fun De σ H q => by
  obtain ⟨ρ, lo, M, o, R, L, e, k⟩ := q
  cases e
  exact k σ H ρ (.refl H ρ) R L
def sBreak : MS := fun lo M => some (.bk lo M)
def sCont : MS := fun lo M => some (.ct lo M)
theorem gs_break : GS cl X (.Break pos) sBreak := ps_break.imp fun De σ H q => by
  obtain ⟨ρ, lo, M, o, R, L, e, k⟩ := q
  cases e
  exact k σ H ρ (.refl H ρ) R L
theorem gs_cont : GS cl X (.Continue pos) sCont := ps_continue.imp fun De σ H q => by
  obtain ⟨ρ, lo, M, o, R, L, e, k⟩ := q
  cases e
  exact k σ H ρ (.refl H ρ) R L
def sDrop (m : ME) : MS := fun lo M => match m lo M with | some (_, M1) => some (.nx lo M1) | none => none
theorem gs_expr {m : ME} (h : GE cl X e m) (hs : swapsWith e none pos.line X.env = pure false := by rfl) : GS cl X (.Expr e pos) (sDrop m) := (ps_expr h hs).imp fun De σ H q => by
  obtain ⟨ρ, lo, M, o, R, L, e, k⟩ := q
  unfold sDrop at e
  split at e
  · rename_i d M1 h1
    cases e
    exact ⟨ρ, lo, M, d, M1, R, L, h1, fun v H1 ρ1 g1 R1 _ => k σ H1 ρ1 g1 R1 (L.mono g1)⟩
  · cases e
def sRet (m : ME) : MS := fun lo M => match m lo M with | some (d, M1) => some (.rt d M1) | none => none
theorem gs_ret {m : ME} (h : GE cl X e m) : GS cl X (.Return (some e) pos) (sRet m) := (ps_ret h).imp fun De σ H q => by
  obtain ⟨ρ, lo, M, o, R, L, e, k⟩ := q
  unfold sRet at e
  split at e
  · rename_i d M1 h1
    cases e
    exact ⟨ρ, lo, M, d, M1, R, L, h1, fun v H1 ρ1 g1 R1 r1 => k v H1 ρ1 g1 R1 r1⟩
  · cases e
def sRetN : MS := fun _ M => some (.rt .non M)
theorem gs_retN : GS cl X (.Return none pos) sRetN := ps_retN.imp fun De σ H q => by
  obtain ⟨ρ, lo, M, o, R, L, e, k⟩ := q
  cases e
  exact k _ H ρ (.refl H ρ) R .non
def sIf (c : MT) (m n : MS) : MS := fun lo M => match c lo M with | some (true, M1) => m lo M1 | some (false, M1) => n lo M1 | none => none
theorem gs_if {c : Expr} {p q : List Stmt} {mc : MT} {m n : MS} (hc : GT cl X c mc) (ha : GB cl X p m) (hb : GB cl X q n) : GS cl X (.If c p q pos) (sIf mc m n) := (ps_if hc ha hb).imp fun De σ H q => by
  obtain ⟨ρ, lo, M, o, R, L, e, k⟩ := q
  unfold sIf at e
  split at e
  · rename_i M1 h1
    refine ⟨ρ, lo, M, _, _, R, L, h1, fun H1 ρ1 g1 R1 => ?_⟩
    refine iteT ?_
    exact ⟨ρ1, lo, M1, o, R1, L.mono g1, e, k.mono g1⟩
  · rename_i M1 h1
    refine ⟨ρ, lo, M, _, _, R, L, h1, fun H1 ρ1 g1 R1 => ?_⟩
    refine iteF ?_
    exact ⟨ρ1, lo, M1, o, R1, L.mono g1, e, k.mono g1⟩
  · cases e
/-- a statement that is never come to -/
def sNever : MS := fun _ _ => none
theorem gs_never : GS cl X st sNever := ps_never.imp fun De σ H q => by
  obtain ⟨ρ, lo, M, o, R, L, e, k⟩ := q
  cases e
theorem gb_never {sts : List Stmt} : GB cl X sts sNever := pss_never.imp fun De σ H q => by
  obtain ⟨ρ, lo, M, o, R, L, e, k⟩ := q
  cases e

/-! ### targets -/
abbrev MG := D → Lo → Mo → Option (Lo × Mo)
def tG (W : Wd) (g : MG) : TG := fun v σ H Q => ∃ ρ lo M d lo' M', Rep W H ρ M ∧ LoR W.K H ρ σ lo ∧ DR W.K H ρ v d ∧ g d lo M = some (lo', M') ∧ ∀ σ' H' ρ', Gr H ρ H' ρ' → Rep W H' ρ' M' → LoR W.K H' ρ' σ' lo' → Q σ' H'
abbrev GG (cl : Nat → Addr) (X : Cx) (tg : Expr) (g : MG) : Prop := PG X tg (tG ⟨X.K, cl, X.w⟩ g)
abbrev MGs := List D → Lo → Mo → Option (Lo × Mo)
def tGs (W : Wd) (g : MGs) : TGs := fun vs σ H Q => ∃ ρ lo M ds lo' M', Rep W H ρ M ∧ LoR W.K H ρ σ lo ∧ DRs W.K H ρ vs ds ∧ g ds lo M = some (lo', M') ∧ ∀ σ' H' ρ', Gr H ρ H' ρ' → Rep W H' ρ' M' → LoR W.K H' ρ' σ' lo' → Q σ' H'
abbrev GGs (cl : Nat → Addr) (X : Cx) (tg : List Expr) (g : MGs) : Prop := PGs X tg (tGs ⟨X.K, cl, X.w⟩ g)
theorem _root_.L2.PG.imp {tg : Expr} {t t' : TG} (h : PG X tg t) (i : ∀ v σ H Q, t' v σ H Q → t v σ H Q) : PG X tg t' := ⟨fun pins s σ H v u Q I r q => h.run pins s σ H v u Q I r (i v σ H Q q)⟩
theorem _root_.L2.PGs.imp {tg : List Expr} {t t' : TGs} (h : PGs X tg t) (i : ∀ v σ H Q, t' v σ H Q → t v σ H Q) : PGs X tg t' := ⟨fun pins s σ H v u Q I r q => h.run pins s σ H v u Q I r (i v σ H Q q)⟩
def gName (i : Nat) : MG := fun d lo M => some (lo.set i (some d), M)
theorem gg_name {i : Nat} {x : Str} (hN : X.N.Nodup) (hi : X.N[i]? = some x) (hx : Loc X.env.scope x) (hf : X.fn x = true ∨ X.env.scope.names.lookup x = some .local := by first | exact .inl rfl | exact .inr rfl | assumption) : GG cl X (.Name x pos) (gName i) :=
  (pg_name hN hi hx hf).imp fun v σ H Q q => by
    obtain ⟨ρ, lo, M, d, lo', M', R, L, r, e, k⟩ := q
    cases e
    exact k _ H ρ (.refl H ρ) R (L.set r i)
def gsNil : MGs := fun ds lo M => match ds with | [] => some (lo, M) | _ => none
def gsCons (g : MG) (gs : MGs) : MGs := fun ds lo M => match ds with | d :: r => (match g d lo M with | some (lo1, M1) => gs r lo1 M1 | none => none) | [] => none
theorem ggs_nil : GGs cl X [] gsNil := pgs_nil.imp fun v σ H Q q => by
  obtain ⟨ρ, lo, M, d, lo', M', R, L, r, e, k⟩ := q
  cases r with
  | nil => cases e; exact ⟨rfl, k _ H ρ (.refl H ρ) R L⟩
  | cons _ _ => cases e
theorem ggs_cons {tg : Expr} {tgs : List Expr} {g : MG} {gs : MGs} (h : GG cl X tg g) (hs : GGs cl X tgs gs) (ha : (assignEach (tg :: tgs) X.env).map (·.2) = assign tg X.env :: (assignEach tgs X.env).map (·.2) := by rfl) : PGs X (tg :: tgs) (tGs ⟨X.K, cl, X.w⟩ (gsCons g gs)) := by
  have key := pgs_cons h hs ha
  refine PGs.imp key fun v σ H Q q => ?_
  obtain ⟨ρ, lo, M, ds, lo', M', R, L, r, e, k⟩ := q
  cases r with
  | nil => cases e
  | cons r1 r2 =>
    rename_i v1 vs d1 ds1
    unfold gsCons at e
    simp only at e
    split at e
    · rename_i lo1 M1 h1
      refine ⟨_, _, rfl, ρ, lo, M, d1, lo1, M1, R, L, r1, h1, fun σ1 H1 ρ1 g1 R1 L1 => ?_⟩
      exact ⟨ρ1, lo1, M1, ds1, lo', M', R1, L1, r2.mono g1, e, fun σ2 H2 ρ2 g2 R2 L2 => k σ2 H2 ρ2 (g1.trans g2) R2 L2⟩
    · cases e
end
end
end G

set_option Elab.async false
set_option linter.all false
set_option maxRecDepth 100000
namespace G
open PySem PySem.Spec L2
open PyProof.Rows (room_in_shaped)

/-! ### data of D as plain data -/
mutual
def D.py : D → Option PyData
  | .non => some .none
  | .bl b => some (.bool b)
  | .int i => some (.int i)
  | .str x => some (.str x)
  | .tup ds => match D.pys ds with | some ps => some (.tuple ps) | none => none
  | .lst ds => match D.pys ds with | some ps => some (.list ps) | none => none
  | .rol ds => match D.pys ds with | some ps => some (.list ps) | none => none
  | .ref _ => none
  | .fn _ => none
def D.pys : List D → Option (List PyData)
  | [] => some []
  | d :: ds => match D.py d, D.pys ds with | some p, some ps => some (p :: ps) | _, _ => none
end
section
variable {K : PySem.W.Frag} {H : Hp} {ρ : Rh}
mutual
theorem DR.dp : ∀ {v : V} {d : D} {p : PyData}, DR K H ρ v d → d.py = some p → Dp K H v p
  | _, .non, _, .non, e => by cases e; exact .non
  | _, .bl b, _, .bl _, e => by cases e; exact .bl b
  | _, .int i, _, .int _, e => by cases e; exact .int i
  | _, .str x, _, .str _, e => by cases e; exact .str x
  | _, .tup ds, _, .tup h hs, e => by
    rw [D.py] at e
    split at e
    · rename_i ps h1
      cases e
      exact .tup h.sq (DRs.dps hs h1)
    · cases e
  | _, .lst ds, _, .lst h hs, e => by
    rw [D.py] at e
    split at e
    · rename_i ps h1
      cases e
      exact .lst (.inl (.inl h.1)) (DRs.dps hs h1)
    · cases e
  | _, .rol ds, _, .rol h hs, e => by
    rw [D.py] at e
    split at e
    · rename_i ps h1
      cases e
      exact .lst h.sq (DRs.dps hs h1)
    · cases e
  | _, .ref n, _, .ref h, e => by cases e
  | _, .fn x, _, .fn _, e => by cases e
theorem DRs.dps : ∀ {vs : List V} {ds : List D} {ps : List PyData}, DRs K H ρ vs ds → D.pys ds = some ps → DpAll K H vs ps
  | _, [], _, .nil, e => by cases e; exact .nil
  | _, d :: ds, _, .cons h hs, e => by
    rw [D.pys] at e
    split at e
    · rename_i p ps h1 h2
      cases e
      exact .cons (DR.dp h h1) (DRs.dps hs h2)
    · cases e
end
end
/-- what is read at a value: a tuple or a list, its items -/
def seqOf (M : Mo) : D → Option (Bool × List D)
  | .tup ds => some (true, ds)
  | .lst ds => some (false, ds)
  | .rol ds => some (false, ds)
  | .ref n => match M[n]? with
    | some (.lst ds) => some (false, ds)
    | _ => none
  | _ => none
/-- a list of one's own -/
def lstOf (M : Mo) : D → Option (List D)
  | .lst ds => some ds
  | .ref n => match M[n]? with
    | some (.lst ds) => some ds
    | _ => none
  | _ => none
def pyOf (M : Mo) (d : D) : Option PyData := match d with
  | .ref _ => (match seqOf M d with | some (false, ds) => (match D.pys ds with | some ps => some (.list ps) | none => none) | _ => none)
  | _ => d.py
section
variable {W : Wd} {H : Hp} {ρ : Rh} {M : Mo} {v : V} {d : D}
theorem seqOf_ok (R : Rep W H ρ M) (r : DR W.K H ρ v d) {t : Bool} {ds : List D} (e : seqOf M d = some (t, ds)) :
    ∃ a xs, v = .ref a ∧ DRs W.K H ρ xs ds ∧ ((t = true ∧ SqT W.K H a xs) ∨ (t = false ∧ SqL W.K H a xs)) := by
  cases r with
  | tup h hs => cases e; exact ⟨_, _, rfl, hs, .inl ⟨rfl, h.sq⟩⟩
  | lst h hs => cases e; exact ⟨_, _, rfl, hs, .inr ⟨rfl, .inl (.inl h.1)⟩⟩
  | rol h hs => cases e; exact ⟨_, _, rfl, hs, .inr ⟨rfl, h.sq⟩⟩
  | ref h =>
    unfold seqOf at e
    simp only at e
    split at e
    · rename_i ds' hm
      cases e
      obtain ⟨xs, h1, h2⟩ := R.at_ h hm
      exact ⟨_, xs, rfl, h2, .inr ⟨rfl, .inl (.inl h1)⟩⟩
    · cases e
  | non => cases e
  | bl _ => cases e
  | int _ => cases e
  | str _ => cases e
  | fn _ => cases e
theorem lstOf_ok (R : Rep W H ρ M) (r : DR W.K H ρ v d) {ds : List D} (e : lstOf M d = some ds) : ∃ a xs, v = .ref a ∧ DRs W.K H ρ xs ds ∧ H a = some (.lst xs) := by
  cases r with
  | lst h hs => cases e; exact ⟨_, _, rfl, hs, h.1⟩
  | ref h =>
    unfold lstOf at e
    simp only at e
    split at e
    · rename_i ds' hm
      cases e
      obtain ⟨xs, h1, h2⟩ := R.at_ h hm
      exact ⟨_, xs, rfl, h2, h1⟩
    · cases e
  | tup _ _ => cases e
  | rol _ _ => cases e
  | non => cases e
  | bl _ => cases e
  | int _ => cases e
  | str _ => cases e
  | fn _ => cases e
theorem pyOf_ok (R : Rep W H ρ M) (r : DR W.K H ρ v d) {p : PyData} (e : pyOf M d = some p) : Dp W.K H v p := by
  unfold pyOf at e
  split at e
  · rename_i n
    split at e
    · rename_i ds hs
      obtain ⟨a, xs, rfl, hr, ⟨h, _⟩ | ⟨_, h⟩⟩ := seqOf_ok R r hs
      · cases h
      · split at e
        · rename_i ps hp
          cases e
          exact .lst h (hr.dps hp)
        · cases e
    · cases e
  · exact r.dp e
theorem pyOf_lst (R : Rep W H ρ M) (r : DR W.K H ρ v d) {ds : List D} {ps : List PyData} {t : Bool} (e : seqOf M d = some (t, ds)) (hp : D.pys ds = some ps) : Dp W.K H v (if t = true then .tuple ps else .list ps) := by
  obtain ⟨a, xs, rfl, hr, ⟨rfl, h⟩ | ⟨rfl, h⟩⟩ := seqOf_ok R r e
  · exact .tup h (hr.dps hp)
  · exact .lst h (hr.dps hp)
end

/-! ### two-place operations -/
theorem DRs.two {K : PySem.W.Frag} {H : Hp} {ρ : Rh} {x y : V} {ds : List D} (h : DRs K H ρ [x, y] ds) : ∃ d e, ds = [d, e] ∧ DR K H ρ x d ∧ DR K H ρ y e := by
  cases h with
  | cons h1 h2 =>
    cases h2 with
    | cons h2 h3 =>
      cases h3
      exact ⟨_, _, rfl, h1, h2⟩
theorem DRs.one {K : PySem.W.Frag} {H : Hp} {ρ : Rh} {vs : List V} {d : D} (h : DRs K H ρ vs [d]) : ∃ v, vs = [v] ∧ DR K H ρ v d := by
  cases h with
  | cons h1 h2 =>
    cases h2
    exact ⟨_, rfl, h1⟩
theorem DRs.pair {K : PySem.W.Frag} {H : Hp} {ρ : Rh} {vs : List V} {d e : D} (h : DRs K H ρ vs [d, e]) : ∃ v u, vs = [v, u] ∧ DR K H ρ v d ∧ DR K H ρ u e := by
  cases h with
  | cons h1 h2 =>
    cases h2 with
    | cons h2 h3 =>
      cases h3
      exact ⟨_, _, rfl, h1, h2⟩
/-- two ints to a datum -/
def iiF (C : Int → Int → Bool) (g : Int → Int → D) : F1 := fun ds M => match ds with
  | [.int a, .int b] => if C a b = true then some (g a b, M) else none
  | _ => none
theorem iiF_some {C : Int → Int → Bool} {g : Int → Int → D} {ds : List D} {M M' : Mo} {d : D} (e : iiF C g ds M = some (d, M')) : ∃ a b, ds = [.int a, .int b] ∧ C a b = true ∧ d = g a b ∧ M' = M := by
  unfold iiF at e
  split at e
  · rename_i a b
    split at e
    · rename_i h
      cases e
      exact ⟨a, b, rfl, h, rfl, rfl⟩
    · cases e
  · cases e
section
variable {X : Cx} {cl : Nat → Addr}
theorem or_ii {f : Value → Value → Sem Value} {C : Int → Int → Prop} {Cb : Int → Int → Bool} {g : Int → Int → V} {gD : Int → Int → D} (h : OpR X f (rI C g)) (hC : ∀ a b, Cb a b = true → C a b) (hg : ∀ a b H ρ, DR X.K H ρ (g a b) (gD a b)) :
    OpR X f (r2 ⟨X.K, cl, X.w⟩ (iiF Cb gD)) := by
  intro pins s σ H x y v u Q I rx ry q
  obtain ⟨ρ, M, ds, d, M', R, r, e, k⟩ := q
  obtain ⟨a, b, rfl, hc, rfl, rfl⟩ := iiF_some e
  obtain ⟨v1, u1, e1, ra, rb⟩ := r.pair
  cases e1
  cases ra
  cases rb
  exact h pins s σ H _ _ v u Q I rx ry ⟨a, b, rfl, rfl, hC a b hc, k _ H ρ (.refl H ρ) R (hg a b H ρ)⟩
theorem or_ii0 {f : Value → Value → Sem Value} {g : Int → Int → V} {gD : Int → Int → D} (h : OpR X f (rI0 g)) (hg : ∀ a b H ρ, DR X.K H ρ (g a b) (gD a b)) : OpR X f (r2 ⟨X.K, cl, X.w⟩ (iiF (fun _ _ => true) gD)) := by
  intro pins s σ H x y v u Q I rx ry q
  obtain ⟨ρ, M, ds, d, M', R, r, e, k⟩ := q
  obtain ⟨a, b, rfl, hc, rfl, rfl⟩ := iiF_some e
  obtain ⟨v1, u1, e1, ra, rb⟩ := r.pair
  cases e1
  cases ra
  cases rb
  exact h pins s σ H _ _ v u Q I rx ry ⟨a, b, rfl, rfl, k _ H ρ (.refl H ρ) R (hg a b H ρ)⟩
def subF : F1 := iiF (fun _ _ => true) fun a b => .int (a - b)
def fdivF : F1 := iiF (fun _ b => decide (0 < b) && decide (b < 1073741824)) fun a b => .int (a / b)
def modF : F1 := iiF (fun _ b => decide (0 < b)) fun a b => .int (a % b)
def ltF : F1 := iiF (fun _ _ => true) fun a b => .bl (decide (a < b))
def leF : F1 := iiF (fun _ _ => true) fun a b => .bl (decide (a ≤ b))
def gtF : F1 := iiF (fun _ _ => true) fun a b => .bl (decide (b < a))
def geF : F1 := iiF (fun _ _ => true) fun a b => .bl (decide (b ≤ a))
theorem o_sub : OpR X (binaryOp .Sub) (r2 ⟨X.K, cl, X.w⟩ subF) := or_ii0 op_sub fun _ _ _ _ => .int _
theorem o_fdiv : OpR X (binaryOp .FloorDiv) (r2 ⟨X.K, cl, X.w⟩ fdivF) := or_ii op_fdiv (fun a b h => by simpa [CDiv] using h) fun _ _ _ _ => .int _
theorem o_mod : OpR X (binaryOp .Mod) (r2 ⟨X.K, cl, X.w⟩ modF) := or_ii op_mod (fun a b h => by simpa using h) fun _ _ _ _ => .int _
theorem o_lt : OpR X (compareOp .Lt) (r2 ⟨X.K, cl, X.w⟩ ltF) := or_ii0 op_lt fun _ _ _ _ => .bl _
theorem o_le : OpR X (compareOp .LtE) (r2 ⟨X.K, cl, X.w⟩ leF) := or_ii0 op_le fun _ _ _ _ => .bl _
theorem o_gt : OpR X (compareOp .Gt) (r2 ⟨X.K, cl, X.w⟩ gtF) := or_ii0 op_gt fun _ _ _ _ => .bl _
theorem o_ge : OpR X (compareOp .GtE) (r2 ⟨X.K, cl, X.w⟩ geF) := or_ii0 op_ge fun _ _ _ _ => .bl _
/-- + of ints, texts, tuples, lists -/
def addF : F1 := fun ds M => match ds with
  | [.int a, .int b] => some (.int (a + b), M)
  | [.str a, .str b] => if a.length + b.length ≤ sizeLine then some (.str (a ++ b), M) else none
  | [.tup a, .tup b] => if a.length + b.length ≤ sizeLine then some (.tup (a ++ b), M) else none
  | [a, b] => match lstOf M a, lstOf M b with
    | some xs, some ys => if xs.length + ys.length ≤ sizeLine then some (.lst (xs ++ ys), M) else none
    | _, _ => none
  | _ => none
theorem o_add : OpR X (binaryOp .Add) (r2 ⟨X.K, cl, X.w⟩ addF) := by
  intro pins s σ H x y v u Q I rx ry q
  obtain ⟨ρ, M, ds, d, M', R, r, e, k⟩ := q
  obtain ⟨dx, dy, rfl, ra, rb⟩ := r.two
  unfold addF at e
  split at e
  · rename_i a b e1
    cases e1; cases e
    cases ra; cases rb
    exact op_add pins s σ H _ _ v u Q I rx ry ⟨a, b, rfl, rfl, k _ H ρ (.refl H ρ) R (.int _)⟩
  · rename_i a b e1
    cases e1
    split at e
    · rename_i hl
      cases e
      cases ra; cases rb
      exact op_add_str pins s σ H _ _ v u Q I rx ry ⟨a, b, rfl, rfl, hl, k _ H ρ (.refl H ρ) R (.str _)⟩
    · cases e
  · rename_i a b e1
    cases e1
    split at e
    · rename_i hl
      cases e
      cases ra with
      | tup ha hsa =>
        rename_i pa xa
        cases rb with
        | tup hb hsb =>
          rename_i pb xb
          refine op_catA pins s σ H _ _ v u Q I rx ry ⟨pa, pb, xa, xb, rfl, rfl, ha.sq, hb.sq, by rw [hsa.length, hsb.length]; exact hl, fun e0 => ?_, fun _ e0 => ?_, fun _ _ p hp => ?_⟩
          · subst e0
            cases hsa
            exact k _ H ρ (.refl H ρ) R (.tup hb hsb)
          · subst e0
            cases hsb
            rw [List.append_nil] at k
            exact k _ H ρ (.refl H ρ) R (.tup ha hsa)
          · exact k _ _ ρ (.new hp) (R.new hp) (.newTup hp (R.fresh hp) (hsa.append hsb))
    · cases e
  · rename_i a b _ _ _ e1
    cases e1
    split at e
    · rename_i xs ys h1 h2
      split at e
      · rename_i hl
        cases e
        obtain ⟨pa, xa, rfl, hsa, ha⟩ := lstOf_ok R ra h1
        obtain ⟨pb, xb, rfl, hsb, hb⟩ := lstOf_ok R rb h2
        exact op_cat pins s σ H _ _ v u Q I rx ry ⟨pa, pb, xa, xb, rfl, rfl, ha, hb, by rw [hsa.length, hsb.length]; exact hl, fun p hp => k _ _ ρ (.new hp) (R.new hp) (.newLst hp (R.fresh hp) (hsa.append hsb))⟩
      · cases e
    · cases e
  · cases e
theorem DRs.rep {K : PySem.W.Frag} {H : Hp} {ρ : Rh} {vs : List V} {ds : List D} (h : DRs K H ρ vs ds) : ∀ n : Nat, DRs K H ρ (List.replicate n vs).flatten (List.replicate n ds).flatten
  | 0 => .nil
  | n + 1 => by
    rw [List.replicate_succ, List.replicate_succ, List.flatten_cons, List.flatten_cons]
    exact h.append (DRs.rep h n)
def mulF : F1 := fun ds M => match ds with
  | [.int a, .int b] => if (decide (-(2 ^ 64) < a) && decide (a < 2 ^ 64)) || (decide (-(2 ^ 64) < b) && decide (b < 2 ^ 64)) then some (.int (a * b), M) else none
  | [.tup a, .int b] => if decide (a.length ≤ 1000) && decide (0 < a.length) && decide (2 ≤ b) && decide (b ≤ 1000) then some (.tup (List.replicate b.toNat a).flatten, M) else none
  | _ => none
theorem o_mul : OpR X (binaryOp .Mult) (r2 ⟨X.K, cl, X.w⟩ mulF) := by
  intro pins s σ H x y v u Q I rx ry q
  obtain ⟨ρ, M, ds, d, M', R, r, e, k⟩ := q
  obtain ⟨dx, dy, rfl, ra, rb⟩ := r.two
  unfold mulF at e
  split at e
  · rename_i a b e1
    cases e1
    split at e
    · rename_i hl
      cases e
      cases ra; cases rb
      exact op_mul pins s σ H _ _ v u Q I rx ry ⟨a, b, rfl, rfl, by simpa [CMul] using hl, k _ H ρ (.refl H ρ) R (.int _)⟩
    · cases e
  · rename_i a b e1
    cases e1
    split at e
    · rename_i hl
      simp only [Bool.and_eq_true, decide_eq_true_eq] at hl
      cases e
      cases rb
      cases ra with
      | tup ha hsa =>
        rename_i pa xa
        have hlen := hsa.length
        refine op_repT pins s σ H _ _ v u Q I rx ry ⟨pa, b, xa, rfl, rfl, ha.sq, fun z => ?_, hl.1.2, hl.2, by omega, fun p hp => ?_⟩
        · rw [z] at hlen; simp at hlen; omega
        · exact k _ _ ρ (.new hp) (R.new hp) (.newTup hp (R.fresh hp) (hsa.rep _))
    · cases e
  · cases e
/-! == and in -/
def eqF : F1 := fun ds M => match ds with
  | [a, b] => match pyOf M a, pyOf M b with
    | some p, some q => if SeqAt.shaped p && SeqAt.shaped q then some (.bl (PyData.eqv p q), M) else none
    | _, _ => none
  | _ => none
def neF : F1 := fun ds M => match ds with
  | [a, b] => match pyOf M a, pyOf M b with
    | some p, some q => if SeqAt.shaped p && SeqAt.shaped q then some (.bl (!PyData.eqv p q), M) else none
    | _, _ => none
  | _ => none
theorem o_eq (hu : X.A.units + 64 < cLine) : OpR X (compareOp .Eq) (r2 ⟨X.K, cl, X.w⟩ eqF) := by
  intro pins s σ H x y v u Q I rx ry q
  obtain ⟨ρ, M, ds, d, M', R, r, e, k⟩ := q
  obtain ⟨dx, dy, rfl, ra, rb⟩ := r.two
  unfold eqF at e
  simp only at e
  split at e
  · rename_i p q h1 h2
    split at e
    · rename_i hs
      rw [Bool.and_eq_true] at hs
      cases e
      exact op_eqD hu pins s σ H _ _ v u Q I rx ry ⟨p, q, pyOf_ok R ra h1, pyOf_ok R rb h2, hs.1, hs.2, k _ H ρ (.refl H ρ) R (.bl _)⟩
    · cases e
  · cases e
theorem o_ne (hu : X.A.units + 64 < cLine) : OpR X (compareOp .NotEq) (r2 ⟨X.K, cl, X.w⟩ neF) := by
  intro pins s σ H x y v u Q I rx ry q
  obtain ⟨ρ, M, ds, d, M', R, r, e, k⟩ := q
  obtain ⟨dx, dy, rfl, ra, rb⟩ := r.two
  unfold neF at e
  simp only at e
  split at e
  · rename_i p q h1 h2
    split at e
    · rename_i hs
      rw [Bool.and_eq_true] at hs
      cases e
      exact op_neD hu pins s σ H _ _ v u Q I rx ry ⟨p, q, pyOf_ok R ra h1, pyOf_ok R rb h2, hs.1, hs.2, k _ H ρ (.refl H ρ) R (.bl _)⟩
    · cases e
  · cases e
def inCore (neg : Bool) : F1 := fun ds M => match ds with
  | [a, b] => match pyOf M a, seqOf M b with
    | some p, some (t, es) => match D.pys es with
      | some ps => if SeqAt.shaped p && SeqAt.shaped (.list ps) then some (.bl (if neg then !ps.any fun z => PyData.eqv z p else ps.any fun z => PyData.eqv z p), M) else none
      | none => none
    | _, _ => none
  | _ => none
def inF : F1 := inCore false
def ninF : F1 := inCore true
theorem inCore_some {neg : Bool} {M M' : Mo} {a b d : D} (e : inCore neg [a, b] M = some (d, M')) : ∃ p t es ps, pyOf M a = some p ∧ seqOf M b = some (t, es) ∧ D.pys es = some ps ∧ SeqAt.shaped p = true ∧ SeqAt.shaped (.list ps) = true ∧ M' = M ∧
    d = .bl (if neg then !ps.any fun z => PyData.eqv z p else ps.any fun z => PyData.eqv z p) := by
  unfold inCore at e
  simp only at e
  split at e
  · rename_i p t es h1 h2
    split at e
    · rename_i ps h3
      split at e
      · rename_i hs
        rw [Bool.and_eq_true] at hs
        cases e
        exact ⟨p, t, es, ps, h1, h2, h3, hs.1, hs.2, rfl, rfl⟩
      · cases e
    · cases e
  · cases e
theorem o_in (hu : X.A.units + 65 < cLine) : OpR X (compareOp .In) (r2 ⟨X.K, cl, X.w⟩ inF) := by
  intro pins s σ H x y v u Q I rx ry q
  obtain ⟨ρ, M, ds, d, M', R, r, e, k⟩ := q
  obtain ⟨dx, dy, rfl, ra, rb⟩ := r.two
  obtain ⟨p, t, es, ps, h1, h2, h3, s1, s2, rfl, rfl⟩ := inCore_some e
  have hp := pyOf_ok R ra h1
  have hq := pyOf_lst R rb h2 h3
  have fin := k _ H ρ (.refl H ρ) R (.bl _)
  obtain ⟨as, r1⟩ := Dp.reads I p _ v hp rx
  cases t with
  | false =>
    obtain ⟨bs, r2⟩ := Dp.reads I (.list ps) _ u hq ry
    exact SeqAt.in_list_reads r2 r1 (SeqAt.canLay_of_shaped s2) (SeqAt.canLay_of_shaped s1) (room_in_shaped s1 hu) ⟨.bl _, H, I, rfl, fin⟩
  | true =>
    obtain ⟨bs, r2⟩ := Dp.reads I (.tuple ps) _ u hq ry
    exact SeqAt.in_tuple_reads r2 r1 (SeqAt.canLay_of_shaped s2) (SeqAt.canLay_of_shaped s1) (room_in_shaped s1 hu) ⟨.bl _, H, I, rfl, fin⟩
theorem o_nin (hu : X.A.units + 65 < cLine) : OpR X (compareOp .NotIn) (r2 ⟨X.K, cl, X.w⟩ ninF) := by
  intro pins s σ H x y v u Q I rx ry q
  obtain ⟨ρ, M, ds, d, M', R, r, e, k⟩ := q
  obtain ⟨dx, dy, rfl, ra, rb⟩ := r.two
  obtain ⟨p, t, es, ps, h1, h2, h3, s1, s2, rfl, rfl⟩ := inCore_some e
  have hp := pyOf_ok R ra h1
  have hq := pyOf_lst R rb h2 h3
  have fin := k _ H ρ (.refl H ρ) R (.bl _)
  obtain ⟨as, r1⟩ := Dp.reads I p _ v hp rx
  cases t with
  | false =>
    obtain ⟨bs, r2⟩ := Dp.reads I (.list ps) _ u hq ry
    exact SeqAt.notIn_list_reads r2 r1 (SeqAt.canLay_of_shaped s2) (SeqAt.canLay_of_shaped s1) (room_in_shaped s1 hu) ⟨.bl _, H, I, rfl, fin⟩
  | true =>
    obtain ⟨bs, r2⟩ := Dp.reads I (.tuple ps) _ u hq ry
    exact SeqAt.notIn_tuple_reads r2 r1 (SeqAt.canLay_of_shaped s2) (SeqAt.canLay_of_shaped s1) (room_in_shaped s1 hu) ⟨.bl _, H, I, rfl, fin⟩
/-! is None -/
def isNF : F1 := fun ds M => match ds with | [.non] => some (.bl true, M) | [_] => some (.bl false, M) | _ => none
def notNF : F1 := fun ds M => match ds with | [.non] => some (.bl false, M) | [_] => some (.bl true, M) | _ => none
theorem non_iff {K : PySem.W.Frag} {H : Hp} {ρ : Rh} {v : V} {d : D} (r : DR K H ρ v d) : (d = .non ∧ v = .non) ∨ (d ≠ .non ∧ v ≠ .non) := by
  cases r with
  | non => exact .inl ⟨rfl, rfl⟩
  | _ => exact .inr ⟨(by intro z; cases z), (by intro z; cases z)⟩
theorem isNF_ok {K : PySem.W.Frag} {H : Hp} {ρ : Rh} {M M' : Mo} {v : V} {d e : D} (r : DR K H ρ v d) (h : isNF [d] M = some (e, M')) : e = .bl (decide (v = .non)) ∧ M' = M := by
  cases r <;> (cases h; exact ⟨rfl, rfl⟩)
theorem notNF_ok {K : PySem.W.Frag} {H : Hp} {ρ : Rh} {M M' : Mo} {v : V} {d e : D} (r : DR K H ρ v d) (h : notNF [d] M = some (e, M')) : e = .bl (!decide (v = .non)) ∧ M' = M := by
  cases r <;> (cases h; exact ⟨rfl, rfl⟩)
section
variable {a : Expr} {ma : ME} {pos : Pos}
theorem tIsN_of {W : Wd} {σ : L2.St} {H : Hp} {Q : VK} (q : tM W (mUn isNF ma) σ H Q) : tIsN (tM W ma) σ H Q := by
  have q1 := tM_one (tM_call q)
  obtain ⟨ρ, lo, M, d, M', R, L, e, k⟩ := q1
  refine ⟨ρ, lo, M, d, M', R, L, e, fun v H1 ρ1 g1 R1 r1 => ?_⟩
  obtain ⟨ρ2, M2, ds, d2, M3, R2, r2, e2, k2⟩ := k v H1 ρ1 g1 R1 r1
  cases r2 with
  | cons ra rr =>
    cases rr
    obtain ⟨rfl, rfl⟩ := isNF_ok ra e2
    exact k2 _ H1 ρ2 (.refl H1 ρ2) R2 (.bl _)
theorem tNotN_of {W : Wd} {σ : L2.St} {H : Hp} {Q : VK} (q : tM W (mUn notNF ma) σ H Q) : tNotN (tM W ma) σ H Q := by
  have q1 := tM_one (tM_call q)
  obtain ⟨ρ, lo, M, d, M', R, L, e, k⟩ := q1
  refine ⟨ρ, lo, M, d, M', R, L, e, fun v H1 ρ1 g1 R1 r1 => ?_⟩
  obtain ⟨ρ2, M2, ds, d2, M3, R2, r2, e2, k2⟩ := k v H1 ρ1 g1 R1 r1
  cases r2 with
  | cons ra rr =>
    cases rr
    obtain ⟨rfl, rfl⟩ := notNF_ok ra e2
    exact k2 _ H1 ρ2 (.refl H1 ρ2) R2 (.bl _)
theorem ge_isN {j pos'} (h : GE cl X a ma) : GE cl X (.Compare a [.Is] [.Constant .none j pos'] pos) (mUn isNF ma) := (pe_cmp (pc_isN h)).imp fun _ _ _ q => tIsN_of q
theorem ge_notN {j pos'} (h : GE cl X a ma) : GE cl X (.Compare a [.IsNot] [.Constant .none j pos'] pos) (mUn notNF ma) := (pe_cmp (pc_notN h)).imp fun _ _ _ q => tNotN_of q
theorem tB_tru {W : Wd} {m : ME} {σ : L2.St} {H : Hp} {Q : Bool → Hp → Prop} (q : tMT W (tru m) σ H Q) : tM W m σ H fun x H1 => ∃ c, x = .bl c ∧ Q c H1 := tB_of q
theorem gt_isN {j pos'} (h : GE cl X a ma) : GT cl X (.Compare a [.Is] [.Constant .none j pos'] pos) (tru (mUn isNF ma)) := (pt_cmp (pc_isN h)).imp fun _ _ _ q => tIsN_of (tB_tru q)
theorem gt_notN {j pos'} (h : GE cl X a ma) : GT cl X (.Compare a [.IsNot] [.Constant .none j pos'] pos) (tru (mUn notNF ma)) := (pt_cmp (pc_notN h)).imp fun _ _ _ q => tNotN_of (tB_tru q)
end
end
end G

set_option Elab.async false
set_option linter.all false
set_option maxRecDepth 100000
namespace G
open PySem PySem.Spec L2

section
variable {X : Cx} {cl : Nat → Addr} {pos : Pos}

/-! ### o[i], o[i:j] -/
def atF : F1 := fun ds M => match ds with
  | [d, .int i] => match seqOf M d with
    | some (_, es) => match atI es i with
      | some e => some (e, M)
      | none => none
    | none => none
  | _ => none
theorem DRs.atI {K : PySem.W.Frag} {H : Hp} {ρ : Rh} {vs : List V} {ds : List D} {i : Int} {d : D} (h : DRs K H ρ vs ds) (e : atI ds i = some d) : ∃ v, L2.atI vs i = some v ∧ DR K H ρ v d := by
  unfold L2.atI at e ⊢
  rw [h.length]
  cases q : ixN ds.length i with
  | none => rw [q] at e; cases e
  | some j =>
    rw [q] at e
    exact h.get (i := j) e
theorem ix_at : IxR X (r2 ⟨X.K, cl, X.w⟩ atF) := by
  intro value slice pins s σ H x y v u Q I rx ry q hs
  obtain ⟨ρ, M, ds, d, M', R, r, e, k⟩ := q
  obtain ⟨dx, dy, rfl, ra, rb⟩ := r.two
  unfold atF at e
  split at e
  · rename_i dd i e0
    cases e0
    cases rb
    split at e
    · rename_i t es h1
      split at e
      · rename_i el h2
        cases e
        obtain ⟨a, xs, rfl, hr, h⟩ := seqOf_ok R ra h1
        obtain ⟨w', hw, rw'⟩ := hr.atI h2
        have fin := k _ H ρ (.refl H ρ) R rw'
        rcases h with ⟨_, h⟩ | ⟨_, h⟩
        · exact ix_seq value slice pins s σ H _ _ v u Q I rx ry (.inr (.inl ⟨a, xs, i, w', rfl, rfl, h, hw, fin⟩)) hs
        · exact ix_seq value slice pins s σ H _ _ v u Q I rx ry (.inl ⟨a, xs, i, w', rfl, rfl, h, hw, fin⟩) hs
      · cases e
    · cases e
  · cases e
theorem ge_ix {a b : Expr} {ma mb : ME} (ha : GE cl X a ma) (hb : GE cl X b mb) (hs : PlainIx b := by exact fun _ _ => rfl) : GE cl X (.Subscript a b pos) (mBin atF ma mb) :=
  (pe_ix ix_at ha hb hs).imp fun _ _ _ q => tM_bin q
/-- the items from one place to another -/
def cutD (xs : List D) (lo hi : Option Int) : List D := (xs.drop (HT.sIx xs.length 0 lo)).take (HT.sIx xs.length xs.length hi - HT.sIx xs.length 0 lo)
theorem DRs.cut {K : PySem.W.Frag} {H : Hp} {ρ : Rh} {vs : List V} {ds : List D} (h : DRs K H ρ vs ds) (lo hi : Option Int) : DRs K H ρ (cutV vs lo hi) (cutD ds lo hi) := by
  unfold cutV cutD
  rw [h.length]
  exact (h.drop _).take _
/-- a part of a slice -/
abbrev MP := Lo → Mo → Option (Option Int × Mo)
def tP (W : Wd) (m : MP) : TO := fun σ H Q => ∃ ρ lo M o M', Rep W H ρ M ∧ LoR W.K H ρ σ lo ∧ m lo M = some (o, M') ∧ ∀ H' ρ', Gr H ρ H' ρ' → Rep W H' ρ' M' → Q o H'
abbrev GP (cl : Nat → Addr) (X : Cx) (e : Option Expr) (m : MP) : Prop := PO X e (tP ⟨X.K, cl, X.w⟩ m)
theorem PO.imp {e : Option Expr} {t t' : TO} (h : PO X e t) (i : ∀ σ H Q, t' σ H Q → t σ H Q) : PO X e t' := ⟨fun pins s σ H Q I q => h.run pins s σ H Q I (i σ H Q q)⟩
def pNone : MP := fun _ M => some (none, M)
def pSome (m : ME) : MP := fun lo M => match m lo M with | some (.int i, M1) => some (some i, M1) | _ => none
theorem gp_none : GP cl X none pNone := PO.imp po_none fun σ H Q q => by
  obtain ⟨ρ, lo, M, o, M', R, L, e, k⟩ := q
  cases e
  exact k H ρ (.refl H ρ) R
theorem gp_some {e : Expr} {m : ME} (h : GE cl X e m) : GP cl X (some e) (pSome m) := PO.imp (po_some h) fun σ H Q q => by
  obtain ⟨ρ, lo, M, o, M', R, L, e, k⟩ := q
  unfold pSome at e
  split at e
  · rename_i i M1 h1
    cases e
    refine ⟨ρ, lo, M, _, _, R, L, h1, fun v H1 ρ1 g1 R1 r1 => ?_⟩
    cases r1
    exact ⟨i, rfl, k H1 ρ1 g1 R1⟩
  · cases e
def mSl (m : ME) (lo hi : MP) : ME := fun l M => match m l M with
  | some (d, M1) => match lo l M1 with
    | some (a, M2) => match hi l M2 with
      | some (b, M3) => match d with
        | .str z => if z.length ≤ sizeLine then some (.str (cutS z a b), M3) else none
        | _ => match seqOf M3 d with
          | some (true, es) => some (.tup (cutD es a b), M3)
          | some (false, es) => some (.lst (cutD es a b), M3)
          | none => none
      | none => none
    | none => none
  | none => none
theorem cutV_whole {xs : List V} {lo hi : Option Int} (h : HT.sIx xs.length 0 lo = 0 ∧ HT.sIx xs.length xs.length hi = xs.length) : cutV xs lo hi = xs := by
  unfold cutV
  rw [h.1, h.2, List.drop_zero, Nat.sub_zero, List.take_length]
def rSlM (W : Wd) (f : Lo → Mo → Option (D × Mo)) : V → Option Int → Option Int → Hp → VK → Prop := fun x lo hi H Q => True
theorem SlR.or3 {r1 r2 r3 : V → Option Int → Option Int → Hp → VK → Prop} (h1 : SlR X r1) (h2 : SlR X r2) (h3 : SlR X r3) : SlR X (fun x lo hi H Q => r1 x lo hi H Q ∨ r2 x lo hi H Q ∨ r3 x lo hi H Q) := by
  intro pins s σ H x v vl vu lo hi sl Q I rx hs pl pu h
  rcases h with h | h | h
  · exact h1 pins s σ H x v vl vu lo hi sl Q I rx hs pl pu h
  · exact h2 pins s σ H x v vl vu lo hi sl Q I rx hs pl pu h
  · exact h3 pins s σ H x v vl vu lo hi sl Q I rx hs pl pu h
theorem ge_sl {e : Expr} {m : ME} {lo hi : Option Expr} {ml mh : MP} {p2 : Pos} (he : GE cl X e m) (hl : GP cl X lo ml) (hu : GP cl X hi mh) : GE cl X (.Subscript e (.Slice lo hi none p2) pos) (mSl m ml mh) := by
  refine (pe_slice (SlR.or3 sl_tupA sl_list sl_str) he hl hu).imp fun σ H Q q => ?_
  obtain ⟨ρ, l, M, d, M', R, L, e, k⟩ := q
  unfold mSl at e
  split at e
  · rename_i d1 M1 h1
    split at e
    · rename_i a M2 h2
      split at e
      · rename_i b M3 h3
        refine ⟨ρ, l, M, d1, M1, R, L, h1, fun v H1 ρ1 g1 R1 r1 => ?_⟩
        refine ⟨ρ1, l, M1, a, M2, R1, L.mono g1, h2, fun H2 ρ2 g2 R2 => ?_⟩
        refine ⟨ρ2, l, M2, b, M3, R2, (L.mono g1).mono g2, h3, fun H3 ρ3 g3 R3 => ?_⟩
        have r3 := (r1.mono g2).mono g3
        have g := (g1.trans g2).trans g3
        split at e
        · rename_i z
          split at e
          · rename_i hz
            cases e
            cases r3
            exact .inr (.inr ⟨z, rfl, hz, k _ H3 ρ3 g R3 (.str _)⟩)
          · cases e
        · split at e
          · rename_i es hq
            cases e
            obtain ⟨p, xs, rfl, hr, ⟨_, h⟩ | ⟨hf, _⟩⟩ := seqOf_ok R3 r3 hq
            · refine .inl ⟨p, xs, rfl, h, fun hw => ?_, fun hw q' hq' => ?_⟩
              · have hc := hr.cut a b
                rw [cutV_whole hw] at hc
                cases r3 with
                | tup ht hs =>
                  cases hq
                  refine k _ H3 ρ3 g R3 (.tup ht ?_)
                  have e1 := (hr.cut a b).length
                  rw [cutV_whole hw] at e1
                  have : cutD es a b = es := by
                    unfold cutD
                    rw [← hr.length, hw.1, hw.2, List.drop_zero, Nat.sub_zero, hr.length, List.take_length]
                  rw [this]
                  exact hs
                | lst _ _ => cases hq
                | rol _ _ => cases hq
                | fn _ => cases hq
                | ref hn =>
                  exfalso
                  unfold seqOf at hq
                  simp only at hq
                  split at hq <;> cases hq
              · exact k _ _ ρ3 (g.trans (.new hq')) (R3.new hq') (.newTup hq' (R3.fresh hq') (hr.cut a b))
            · cases hf
          · rename_i es hq
            cases e
            obtain ⟨p, xs, rfl, hr, ⟨hf, _⟩ | ⟨_, h⟩⟩ := seqOf_ok R3 r3 hq
            · cases hf
            · exact .inr (.inl ⟨p, xs, rfl, h, fun q' hq' => k _ _ ρ3 (g.trans (.new hq')) (R3.new hq') (.newLst hq' (R3.fresh hq') (hr.cut a b))⟩)
          · cases e
      · cases e
    · cases e
  · cases e
/-- xs[::-1] of a list -/
def revF : F1 := fun ds M => match ds with
  | [d] => match seqOf M d with
    | some (false, es) => some (.lst es.reverse, M)
    | _ => none
  | _ => none
theorem ge_rev {e : Expr} {m : ME} {k : Nat} {p1 p2 p3 pos : Pos} (he : GE cl X e m) : GE cl X (.Subscript e (.Slice none none (some (.UnaryOp .USub (.Constant (.int 1) k p1) p2)) p3) pos) (mUn revF m) := by
  refine (pe_revL he).imp fun σ H Q q => ?_
  obtain ⟨ρ, lo, M, d, M', R, L, e, k⟩ := tM_one (tM_call q)
  refine ⟨ρ, lo, M, d, M', R, L, e, fun v H1 ρ1 g1 R1 r1 => ?_⟩
  obtain ⟨ρ2, M2, ds, d2, M3, R2, r2, e2, k2⟩ := k v H1 ρ1 g1 R1 r1
  cases r2 with
  | cons ra rr =>
    cases rr
    unfold revF at e2
    simp only at e2
    split at e2
    · rename_i es hq
      cases e2
      obtain ⟨p, xs, rfl, hr, ⟨hf, _⟩ | ⟨_, h⟩⟩ := seqOf_ok R2 ra hq
      · cases hf
      · exact ⟨p, xs, rfl, h, fun q' hq' => k2 _ _ ρ2 (.new hq') (R2.new hq') (.newLst hq' (R2.fresh hq') hr.reverse)⟩
    · cases e2

/-! ### built-ins -/
def lenF : F1 := fun ds M => match ds with
  | [.str z] => if z.length ≤ sizeLine then some (.int z.length, M) else none
  | [d] => match seqOf M d with
    | some (_, es) => some (.int es.length, M)
    | none => none
  | _ => none
theorem c_len : CallR X (.builtin "len") (rM ⟨X.K, cl, X.w⟩ lenF) := by
  intro pins s σ H xs us Q I rv q
  obtain ⟨ρ, M, ds, d, M', R, r, e, k⟩ := q
  unfold lenF at e
  split at e
  · rename_i z
    split at e
    · rename_i hz
      cases e
      obtain ⟨v, rfl, ra⟩ := r.one
      cases ra
      exact call_len pins s σ H _ us Q I rv ⟨.str z, z.length, rfl, ⟨hz, rfl⟩, k _ H ρ (.refl H ρ) R (.int _)⟩
    · cases e
  · rename_i dd _
    split at e
    · rename_i t es hq
      cases e
      obtain ⟨v, rfl, ra⟩ := r.one
      obtain ⟨a, ys, rfl, hr, h⟩ := seqOf_ok R ra hq
      have fin := k (.int ys.length) H ρ (.refl H ρ) R (by rw [hr.length]; exact .int _)
      refine call_len pins s σ H _ us Q I rv ⟨.ref a, ys.length, rfl, ?_, fin⟩
      rcases h with ⟨_, h⟩ | ⟨_, h⟩
      · exact .inr ⟨ys, h, rfl⟩
      · exact .inl ⟨ys, h, rfl⟩
    · cases e
  · cases e
def intF : F1 := fun ds M => match ds with
  | [.int i] => some (.int i, M)
  | [.bl b] => some (.int (if b then 1 else 0), M)
  | _ => none
theorem c_int : CallR X (.type "int") (rM ⟨X.K, cl, X.w⟩ intF) := by
  intro pins s σ H xs us Q I rv q
  obtain ⟨ρ, M, ds, d, M', R, r, e, k⟩ := q
  unfold intF at e
  split at e
  · cases e
    obtain ⟨v, rfl, ra⟩ := r.one
    cases ra
    exact call_int1 pins s σ H _ us Q I rv (.inl ⟨_, rfl, k _ H ρ (.refl H ρ) R (.int _)⟩)
  · cases e
    obtain ⟨v, rfl, ra⟩ := r.one
    cases ra
    exact call_int1 pins s σ H _ us Q I rv (.inr ⟨_, rfl, k _ H ρ (.refl H ρ) R (.int _)⟩)
  · cases e
def max2F : F1 := iiF (fun _ _ => true) fun i j => .int (if j > i then j else i)
def min2F : F1 := iiF (fun _ _ => true) fun i j => .int (if j < i then j else i)
theorem c_max2 (hc : X.calm = true) : CallR X (.builtin "max") (rM ⟨X.K, cl, X.w⟩ max2F) := by
  intro pins s σ H xs us Q I rv q
  obtain ⟨ρ, M, ds, d, M', R, r, e, k⟩ := q
  obtain ⟨a, b, rfl, _, rfl, rfl⟩ := iiF_some e
  obtain ⟨v, u, rfl, ra, rb⟩ := r.pair
  cases ra; cases rb
  exact call_max2 hc pins s σ H _ us Q I rv ⟨a, b, rfl, k _ H ρ (.refl H ρ) R (.int _)⟩
theorem c_min2 (hc : X.calm = true) : CallR X (.builtin "min") (rM ⟨X.K, cl, X.w⟩ min2F) := by
  intro pins s σ H xs us Q I rv q
  obtain ⟨ρ, M, ds, d, M', R, r, e, k⟩ := q
  obtain ⟨a, b, rfl, _, rfl, rfl⟩ := iiF_some e
  obtain ⟨v, u, rfl, ra, rb⟩ := r.pair
  cases ra; cases rb
  exact call_min2 hc pins s σ H _ us Q I rv ⟨a, b, rfl, k _ H ρ (.refl H ρ) R (.int _)⟩
def absF : F1 := fun ds M => match ds with | [.int i] => some (.int (if i < 0 then -i else i), M) | _ => none
theorem c_abs : CallR X (.builtin "abs") (rM ⟨X.K, cl, X.w⟩ absF) := by
  intro pins s σ H xs us Q I rv q
  obtain ⟨ρ, M, ds, d, M', R, r, e, k⟩ := q
  unfold absF at e
  split at e
  · cases e
    obtain ⟨v, rfl, ra⟩ := r.one
    cases ra
    exact call_abs pins s σ H _ us Q I rv ⟨_, rfl, k _ H ρ (.refl H ρ) R (.int _)⟩
  · cases e
def negF : F1 := fun ds M => match ds with | [.int i] => some (.int (-i), M) | _ => none
theorem u_neg : UnR X (unaryOp .USub) (fun x H Q => rM ⟨X.K, cl, X.w⟩ negF [x] H Q) := by
  intro pins s σ H x v Q I rx q
  obtain ⟨ρ, M, ds, d, M', R, r, e, k⟩ := q
  cases r with
  | cons ra rr =>
    cases rr
    unfold negF at e
    split at e
    · rename_i i e0
      cases e0
      cases e
      cases ra
      exact un_neg pins s σ H _ v Q I rx ⟨i, rfl, k _ H ρ (.refl H ρ) R (.int _)⟩
    · cases e
/-- list(x): a list that does not change; one that will -/
def listF : F1 := fun ds M => match ds with
  | [d] => match seqOf M d with
    | some (_, es) => some (.lst es, M)
    | none => none
  | _ => none
def listM : F1 := fun ds M => match ds with
  | [d] => match seqOf M d with
    | some (_, es) => some (.ref M.length, M ++ [.lst es])
    | none => none
  | _ => none
theorem seqOf_any {W : Wd} {H : Hp} {ρ : Rh} {M : Mo} {v : V} {d : D} {t : Bool} {es : List D} (R : Rep W H ρ M) (r : DR W.K H ρ v d) (e : seqOf M d = some (t, es)) : ∃ a xs, v = .ref a ∧ DRs W.K H ρ xs es ∧ (SqL W.K H a xs ∨ SqT W.K H a xs) := by
  obtain ⟨a, xs, h1, h2, ⟨_, h⟩ | ⟨_, h⟩⟩ := seqOf_ok R r e
  · exact ⟨a, xs, h1, h2, .inr h⟩
  · exact ⟨a, xs, h1, h2, .inl h⟩
theorem c_list : CallR X (.type "list") (rM ⟨X.K, cl, X.w⟩ listF) := by
  intro pins s σ H xs us Q I rv q
  obtain ⟨ρ, M, ds, d, M', R, r, e, k⟩ := q
  unfold listF at e
  split at e
  · split at e
    · rename_i t es hq
      cases e
      obtain ⟨v, rfl, ra⟩ := r.one
      obtain ⟨a, ys, rfl, hr, h⟩ := seqOf_any R ra hq
      exact call_list_of pins s σ H _ us Q I rv ⟨a, ys, rfl, h, fun p hp => k _ _ ρ (.new hp) (R.new hp) (.newLst hp (R.fresh hp) hr)⟩
    · cases e
  · cases e
theorem DR.grow {K : PySem.W.Frag} {H : Hp} {ρ : Rh} {p : Addr} {o : HO} {v : V} {d : D} (hp : H p = none) (h : DR K H ρ v d) : DR K (upd H p o) ρ v d := h.mono (.new hp)
theorem c_listM : CallR X (.type "list") (rM ⟨X.K, cl, X.w⟩ listM) := by
  intro pins s σ H xs us Q I rv q
  obtain ⟨ρ, M, ds, d, M', R, r, e, k⟩ := q
  unfold listM at e
  split at e
  · split at e
    · rename_i t es hq
      cases e
      obtain ⟨v, rfl, ra⟩ := r.one
      obtain ⟨a, ys, rfl, hr, h⟩ := seqOf_any R ra hq
      exact call_list_of pins s σ H _ us Q I rv ⟨a, ys, rfl, h, fun p hp => k _ _ _ (.push hp) (R.newL hp hr) ((Rep.ref_new R p).mono (.new hp))⟩
    · cases e
  · cases e
def tupleF : F1 := fun ds M => match ds with
  | [.tup es] => some (.tup es, M)
  | [d] => match seqOf M d with
    | some (false, es) => some (.tup es, M)
    | _ => none
  | _ => none
theorem c_tuple : CallR X (.type "tuple") (rM ⟨X.K, cl, X.w⟩ tupleF) := by
  intro pins s σ H xs us Q I rv q
  obtain ⟨ρ, M, ds, d, M', R, r, e, k⟩ := q
  unfold tupleF at e
  split at e
  · cases e
    obtain ⟨v, rfl, ra⟩ := r.one
    have fin := k _ H ρ (.refl H ρ) R ra
    cases ra with
    | tup ht hs => exact call_tuple_of pins s σ H _ us Q I rv ⟨_, _, rfl, .inr ⟨ht.sq, fin⟩⟩
  · split at e
    · rename_i es hq
      cases e
      obtain ⟨v, rfl, ra⟩ := r.one
      obtain ⟨a, ys, rfl, hr, ⟨hf, _⟩ | ⟨_, h⟩⟩ := seqOf_ok R ra hq
      · cases hf
      · exact call_tuple_of pins s σ H _ us Q I rv ⟨a, ys, rfl, .inl ⟨h, fun p hp => k _ _ ρ (.new hp) (R.new hp) (.newTup hp (R.fresh hp) hr)⟩⟩
    · cases e
  · cases e
def boolsOf : List D → Option (List Bool)
  | [] => some []
  | .bl b :: ds => match boolsOf ds with | some bs => some (b :: bs) | none => none
  | _ => none
theorem boolsOf_ok {K : PySem.W.Frag} {H : Hp} {ρ : Rh} : ∀ {vs : List V} {ds : List D} {bs : List Bool}, DRs K H ρ vs ds → boolsOf ds = some bs → vs = bs.map V.bl
  | _, [], _, .nil, e => by cases e; rfl
  | _, d :: ds, bs, .cons h hs, e => by
    cases d with
    | bl b =>
      rw [boolsOf] at e
      split at e
      · rename_i bs' h1
        cases e
        cases h
        rw [boolsOf_ok hs h1]
        rfl
      · cases e
    | _ => cases e
def allF : F1 := fun ds M => match ds with
  | [d] => match seqOf M d with
    | some (false, es) => match boolsOf es with
      | some bs => some (.bl (bs.all id), M)
      | none => none
    | _ => none
  | _ => none
def anyF : F1 := fun ds M => match ds with
  | [d] => match seqOf M d with
    | some (false, es) => match boolsOf es with
      | some bs => some (.bl (bs.any id), M)
      | none => none
    | _ => none
  | _ => none
theorem c_all (hc : X.calm = true) : CallR X (.builtin "all") (rM ⟨X.K, cl, X.w⟩ allF) := by
  intro pins s σ H xs us Q I rv q
  obtain ⟨ρ, M, ds, d, M', R, r, e, k⟩ := q
  unfold allF at e
  split at e
  · split at e
    · rename_i es hq
      split at e
      · rename_i bs hb
        cases e
        obtain ⟨v, rfl, ra⟩ := r.one
        obtain ⟨a, ys, rfl, hr, ⟨hf, _⟩ | ⟨_, h⟩⟩ := seqOf_ok R ra hq
        · cases hf
        · rw [boolsOf_ok hr hb] at h
          exact cr_all hc pins s σ H _ us Q I rv ⟨a, bs, rfl, h, k _ H ρ (.refl H ρ) R (.bl _)⟩
      · cases e
    · cases e
  · cases e
theorem c_any (hc : X.calm = true) : CallR X (.builtin "any") (rM ⟨X.K, cl, X.w⟩ anyF) := by
  intro pins s σ H xs us Q I rv q
  obtain ⟨ρ, M, ds, d, M', R, r, e, k⟩ := q
  unfold anyF at e
  split at e
  · split at e
    · rename_i es hq
      split at e
      · rename_i bs hb
        cases e
        obtain ⟨v, rfl, ra⟩ := r.one
        obtain ⟨a, ys, rfl, hr, ⟨hf, _⟩ | ⟨_, h⟩⟩ := seqOf_ok R ra hq
        · cases hf
        · rw [boolsOf_ok hr hb] at h
          exact cr_any hc pins s σ H _ us Q I rv ⟨a, bs, rfl, h, k _ H ρ (.refl H ρ) R (.bl _)⟩
      · cases e
    · cases e
  · cases e
def intsOf : List D → Option (List Int)
  | [] => some []
  | .int b :: ds => match intsOf ds with | some bs => some (b :: bs) | none => none
  | _ => none
theorem intsOf_ok {K : PySem.W.Frag} {H : Hp} {ρ : Rh} : ∀ {vs : List V} {ds : List D} {bs : List Int}, DRs K H ρ vs ds → intsOf ds = some bs → vs = bs.map V.int
  | _, [], _, .nil, e => by cases e; rfl
  | _, d :: ds, bs, .cons h hs, e => by
    cases d with
    | int b =>
      rw [intsOf] at e
      split at e
      · rename_i bs' h1
        cases e
        cases h
        rw [intsOf_ok hs h1]
        rfl
      · cases e
    | _ => cases e
def sumF : F1 := fun ds M => match ds with
  | [d] => match seqOf M d with
    | some (false, es) => match intsOf es with
      | some ns => some (.int ns.sum, M)
      | none => none
    | _ => none
  | _ => none
theorem c_sum (hc : X.calm = true) : CallR X (.builtin "sum") (rM ⟨X.K, cl, X.w⟩ sumF) := by
  intro pins s σ H xs us Q I rv q
  obtain ⟨ρ, M, ds, d, M', R, r, e, k⟩ := q
  unfold sumF at e
  split at e
  · split at e
    · rename_i es hq
      split at e
      · rename_i bs hb
        cases e
        obtain ⟨v, rfl, ra⟩ := r.one
        obtain ⟨a, ys, rfl, hr, ⟨hf, _⟩ | ⟨_, h⟩⟩ := seqOf_ok R ra hq
        · cases hf
        · rw [intsOf_ok hr hb] at h
          exact cr_sum hc pins s σ H _ us Q I rv ⟨a, bs, rfl, h, k _ H ρ (.refl H ρ) R (.int _)⟩
      · cases e
    · cases e
  · cases e
/-- putting in order, one item after another -/
def insBy {α : Type} (le : α → α → Bool) (x : α) : List α → List α
  | [] => [x]
  | y :: ys => if le x y = true then x :: y :: ys else y :: insBy le x ys
def sortBy {α : Type} (le : α → α → Bool) : List α → List α
  | [] => []
  | x :: xs => insBy le x (sortBy le xs)
theorem insBy_perm {α : Type} (le : α → α → Bool) (x : α) : ∀ l : List α, (insBy le x l).Perm (x :: l)
  | [] => .refl _
  | y :: ys => by
    rw [insBy]
    split
    · exact .refl _
    · exact ((insBy_perm le x ys).cons y).trans (.swap x y ys)
theorem sortBy_perm {α : Type} (le : α → α → Bool) : ∀ l : List α, (sortBy le l).Perm l
  | [] => .refl _
  | x :: xs => (insBy_perm le x _).trans ((sortBy_perm le xs).cons x)
theorem insBy_sorted {α : Type} {le : α → α → Bool} (tot : ∀ a b, le a b = true ∨ le b a = true) (tr : ∀ a b c, le a b = true → le b c = true → le a c = true) (x : α) : ∀ l : List α, l.Pairwise (fun a b => le a b = true) → (insBy le x l).Pairwise (fun a b => le a b = true)
  | [], _ => by rw [insBy]; exact List.pairwise_singleton _ _
  | y :: ys, h => by
    rw [insBy]
    have h' := List.pairwise_cons.mp h
    split
    · rename_i hxy
      refine List.pairwise_cons.mpr ⟨fun z hz => ?_, h⟩
      rcases List.mem_cons.mp hz with rfl | hz
      · exact hxy
      · exact tr _ _ _ hxy (h'.1 z hz)
    · rename_i hxy
      have hyx : le y x = true := (tot y x).resolve_right hxy
      refine List.pairwise_cons.mpr ⟨fun z hz => ?_, insBy_sorted tot tr x ys h'.2⟩
      rcases List.mem_cons.mp ((insBy_perm le x ys).mem_iff.mp hz) with rfl | hz
      · exact hyx
      · exact h'.1 z hz
theorem sortBy_sorted {α : Type} {le : α → α → Bool} (tot : ∀ a b, le a b = true ∨ le b a = true) (tr : ∀ a b c, le a b = true → le b c = true → le a c = true) : ∀ l : List α, (sortBy le l).Pairwise (fun a b => le a b = true)
  | [] => .nil
  | x :: xs => insBy_sorted tot tr x _ (sortBy_sorted tot tr xs)
def sortI (ns : List Int) : List Int := sortBy (fun a b => decide (a ≤ b)) ns
theorem sortI_of {ns out : List Int} (p : out.Perm ns) (s : out.Pairwise (fun a b => a ≤ b)) : out = sortI ns := by
  have h1 : (sortI ns).Pairwise (fun a b => a ≤ b) := (sortBy_sorted (fun a b => by simp; omega) (fun a b c h1 h2 => by simp at h1 h2 ⊢; omega) ns).imp fun h => by simpa using h
  exact (p.trans (sortBy_perm _ ns).symm).eq_of_pairwise (fun a b _ _ h1 h2 => by omega) s h1
def sortedIF : F1 := fun ds M => match ds with
  | [d] => match seqOf M d with
    | some (false, es) => match intsOf es with
      | some ns => if ns.length ≤ sizeLine then some (.lst ((sortI ns).map D.int), M) else none
      | none => none
    | _ => none
  | _ => none
end
end G

set_option Elab.async false
set_option linter.all false
set_option maxRecDepth 100000
namespace G
open PySem PySem.Spec L2

section
variable {X : Cx} {cl : Nat → Addr} {pos : Pos}
theorem c_sortedI : CallR X (.builtin "sorted") (rM ⟨X.K, cl, X.w⟩ sortedIF) := by
  intro pins s σ H xs us Q I rv q
  obtain ⟨ρ, M, ds, d, M', R, r, e, k⟩ := q
  unfold sortedIF at e
  split at e
  · split at e
    · rename_i es hq
      split at e
      · rename_i ns hb
        split at e
        · rename_i hz
          cases e
          obtain ⟨v, rfl, ra⟩ := r.one
          obtain ⟨a, ys, rfl, hr, ⟨hf, _⟩ | ⟨_, h⟩⟩ := seqOf_ok R ra hq
          · cases hf
          · rw [intsOf_ok hr hb] at h
            refine cr_sortedI pins s σ H _ us Q I rv ⟨a, ns, rfl, h, fun ns' p hp hs hn => ?_⟩
            rw [sortI_of hp hs]
            exact k _ _ ρ (.new hn) (R.new hn) (.newLst hn (R.fresh hn) (.ints _))
        · cases e
      · cases e
    · cases e
  · cases e

/-! ### methods of lists -/
def isLst (M : Mo) (d : D) : Bool := match seqOf M d with | some (false, _) => true | _ => false
/-- o.m(args) of a list -/
def mMetL (f : F1) (mo : ME) (ms : MA) : ME := fun lo M => match mo lo M with
  | some (d, M1) => if isLst M1 d = true then (match ms lo M1 with | some (ds, M2) => f (d :: ds) M2 | none => none) else none
  | none => none
theorem isLst_ok {W : Wd} {H : Hp} {ρ : Rh} {M : Mo} {v : V} {d : D} (R : Rep W H ρ M) (r : DR W.K H ρ v d) (e : isLst M d = true) : tyV W.K "list" v H := by
  unfold isLst at e
  split at e
  · rename_i es hq
    obtain ⟨a, xs, rfl, hr, ⟨hf, _⟩ | ⟨_, h⟩⟩ := seqOf_ok R r hq
    · cases hf
    · exact .inl ⟨rfl, xs, h⟩
  · cases e
theorem tBM_of {W : Wd} {f : F1} {mo : ME} {ms : MA} {σ : L2.St} {H : Hp} {Q : VK} (q : tM W (mMetL f mo ms) σ H Q) : tBM W.K "list" (fun x xs H Q => rM W f (x :: xs) H Q) (tM W mo) (tMs W ms) σ H Q := by
  obtain ⟨ρ, lo, M, d, M', R, L, e, k⟩ := q
  unfold mMetL at e
  split at e
  · rename_i d1 M1 h1
    split at e
    · rename_i hl
      split at e
      · rename_i ds M2 h2
        refine ⟨ρ, lo, M, d1, M1, R, L, h1, fun v H1 ρ1 g1 R1 r1 => ⟨isLst_ok R1 r1 hl, ?_⟩⟩
        refine ⟨ρ1, lo, M1, ds, M2, R1, L.mono g1, h2, fun vs H2 ρ2 g2 R2 r2 => ?_⟩
        exact ⟨ρ2, M2, d1 :: ds, d, M', R2, .cons (r1.mono g2) r2, e, fun v H3 ρ3 g3 R3 r3 => k v H3 ρ3 ((g1.trans g2).trans g3) R3 r3⟩
      · cases e
    · cases e
  · cases e
section
variable {o a : Expr} {es : List Expr} {mo : ME} {ms : MA} {name : Str} {apos cpos : Pos} {id : String} {f : F1}
theorem ge_metL (slot : Slot "list" name id) (hty : typeOf (.builtin id) = pure (.type "method_descriptor")) (hm : MtR X id (fun x xs H Q => rM ⟨X.K, cl, X.w⟩ f (x :: xs) H Q)) (ho : GE cl X o mo) (ha : GA cl X (a :: es) ms)
    (hbase : attributeBase o name X.env (eval o X.env) = eval o X.env := by rfl)
    (hfew : ((backTo cpos (starEach (a :: es) X.env)).all (fun x => !x.1) && (backToKw cpos (keywordEach [] X.env)).all (fun x => x.1.isSome)
      && decide ((a :: es).length + ([] : List Keyword).length + (if ([] : List Keyword).isEmpty then 0 else 1) < 30)) = true := by rfl)
    (hline : (apos.endLine == cpos.line) = true := by rfl) (hs : starEach (a :: es) X.env = (false, eval a X.env) :: starEach es X.env := by rfl) (hplain : (backTo cpos (starEach es X.env)).any (·.1) = false := by rfl) :
    GE cl X (.Call (.Attribute o name apos) (a :: es) [] cpos) (mMetL f mo ms) :=
  (pe_bm PySem.F.plainAttrs_list slot hty hm ho ha hbase hfew hline hs hplain).imp fun _ _ _ q => tBM_of q
theorem ge_metL0 (slot : Slot "list" name id) (hty : typeOf (.builtin id) = pure (.type "method_descriptor")) (hm : MtR X id (fun x xs H Q => rM ⟨X.K, cl, X.w⟩ f (x :: xs) H Q)) (ho : GE cl X o mo)
    (hbase : attributeBase o name X.env (eval o X.env) = eval o X.env := by rfl) (hline : (apos.endLine == cpos.line) = true := by rfl) :
    GE cl X (.Call (.Attribute o name apos) [] [] cpos) (mMetL f mo mNil) := by
  refine (pe_bm0 PySem.F.plainAttrs_list slot hty hm ho hbase hline).imp fun σ H Q q => ?_
  obtain ⟨ρ, lo, M, d, M', R, L, e, k⟩ := tBM_of q
  refine ⟨ρ, lo, M, d, M', R, L, e, fun v H1 ρ1 g1 R1 r1 => ?_⟩
  obtain ⟨h1, ρ2, lo2, M2, ds, M3, R2, L2', e2, k2⟩ := k v H1 ρ1 g1 R1 r1
  cases e2
  exact ⟨h1, k2 [] H1 ρ2 (.refl H1 ρ2) R2 .nil⟩
end
theorem Rep.setL {W : Wd} {H : Hp} {ρ : Rh} {M : Mo} {n : Nat} {p : Addr} {xs : List V} {ds : List D} (R : Rep W H ρ M) (h : ρ.m[n]? = some p) (r : DRs W.K H ρ xs ds) : Rep W (upd H p (.lst xs)) ρ (M.set n (.lst ds)) :=
  R.put h ⟨xs, upd_same, r.mono (.put R (List.mem_of_getElem? h))⟩
theorem refL {W : Wd} {H : Hp} {ρ : Rh} {M : Mo} {n : Nat} {v : V} {ds : List D} (R : Rep W H ρ M) (r : DR W.K H ρ v (.ref n)) (e : M[n]? = some (.lst ds)) : ∃ p xs, v = .ref p ∧ ρ.m[n]? = some p ∧ H p = some (.lst xs) ∧ DRs W.K H ρ xs ds := by
  cases r with
  | ref h =>
    obtain ⟨xs, h1, h2⟩ := R.at_ h e
    exact ⟨_, xs, rfl, h, h1, h2⟩
def appendF : F1 := fun ds M => match ds with
  | [.ref n, d] => match M[n]? with
    | some (.lst es) => if es.length < sizeLine then some (.non, M.set n (.lst (es ++ [d]))) else none
    | _ => none
  | _ => none
theorem m_append : MtR X "list.append" (fun x xs H Q => rM ⟨X.K, cl, X.w⟩ appendF (x :: xs) H Q) := by
  intro pins s σ H x xs v us Q I rx rv q
  obtain ⟨ρ, M, ds, d, M', R, r, e, k⟩ := q
  unfold appendF at e
  split at e
  · rename_i n d1
    split at e
    · rename_i es hm
      split at e
      · rename_i hl
        cases e
        cases r with
        | cons ra rr =>
          obtain ⟨y, rfl, ry⟩ := rr.one
          obtain ⟨p, ys, rfl, hp, hH, hr⟩ := refL R ra hm
          exact mt_append pins s σ H _ _ v us Q I rx rv ⟨p, ys, y, rfl, rfl, hH, by rw [hr.length]; exact hl, k _ _ ρ (.put R (List.mem_of_getElem? hp)) (R.setL hp (hr.append (.cons ry .nil))) .non⟩
      · cases e
    · cases e
  · cases e
def extendF : F1 := fun ds M => match ds with
  | [.ref n, d] => match M[n]?, lstOf M d with
    | some (.lst es), some fs => if es.length + fs.length ≤ sizeLine then some (.non, M.set n (.lst (es ++ fs))) else none
    | _, _ => none
  | _ => none
theorem m_extend : MtR X "list.extend" (fun x xs H Q => rM ⟨X.K, cl, X.w⟩ extendF (x :: xs) H Q) := by
  intro pins s σ H x xs v us Q I rx rv q
  obtain ⟨ρ, M, ds, d, M', R, r, e, k⟩ := q
  unfold extendF at e
  split at e
  · rename_i n d1
    split at e
    · rename_i es fs hm hf
      split at e
      · rename_i hl
        cases e
        cases r with
        | cons ra rr =>
          obtain ⟨y, rfl, ry⟩ := rr.one
          obtain ⟨p, ys, rfl, hp, hH, hr⟩ := refL R ra hm
          obtain ⟨b, zs, rfl, hrz, hB⟩ := lstOf_ok R ry hf
          exact mt_extend pins s σ H _ _ v us Q I rx rv ⟨p, b, ys, zs, rfl, rfl, hH, hB, by rw [hr.length, hrz.length]; exact hl, k _ _ ρ (.put R (List.mem_of_getElem? hp)) (R.setL hp (hr.append hrz)) .non⟩
      · cases e
    · cases e
  · cases e
def popF : F1 := fun ds M => match ds with
  | [.ref n] => match M[n]? with
    | some (.lst es) => match es[es.length - 1]? with
      | some d => some (d, M.set n (.lst es.dropLast))
      | none => none
    | _ => none
  | [.ref n, .int i] => match M[n]? with
    | some (.lst es) => if decide (0 ≤ i) && decide (i < es.length) && decide (es.length ≤ 1000000) then (match es[i.toNat]? with
      | some d => some (d, M.set n (.lst (es.eraseIdx i.toNat)))
      | none => none) else none
    | _ => none
  | _ => none
theorem m_pop : MtR X "list.pop" (fun x xs H Q => rM ⟨X.K, cl, X.w⟩ popF (x :: xs) H Q) := by
  intro pins s σ H x xs v us Q I rx rv q
  obtain ⟨ρ, M, ds, d, M', R, r, e, k⟩ := q
  unfold popF at e
  split at e
  · rename_i n
    split at e
    · rename_i es hm
      split at e
      · rename_i d1 hd
        cases e
        cases r with
        | cons ra rr =>
          cases rr
          obtain ⟨p, ys, rfl, hp, hH, hr⟩ := refL R ra hm
          obtain ⟨y, hy, ry⟩ := hr.get hd
          have g : Gr H ρ (upd H p (.lst ys.dropLast)) ρ := .put R (List.mem_of_getElem? hp)
          exact mt_pop pins s σ H _ _ v us Q I rx rv ⟨p, ys, y, rfl, rfl, hH, by rw [hr.length]; exact hy, k _ _ ρ g (R.setL hp hr.dropLast) (ry.mono g)⟩
      · cases e
    · cases e
  · rename_i n i
    split at e
    · rename_i es hm
      split at e
      · rename_i hl
        simp only [Bool.and_eq_true, decide_eq_true_eq] at hl
        split at e
        · rename_i d1 hd
          cases e
          cases r with
          | cons ra rr =>
            obtain ⟨y0, rfl, ry0⟩ := rr.one
            cases ry0
            obtain ⟨p, ys, rfl, hp, hH, hr⟩ := refL R ra hm
            obtain ⟨y, hy, ry⟩ := hr.get hd
            have g : Gr H ρ (upd H p (.lst (ys.eraseIdx i.toNat))) ρ := .put R (List.mem_of_getElem? hp)
            have hlen := hr.length
            have hix : ixN ys.length i = some i.toNat := by unfold ixN; rw [if_pos hl.1.1, if_pos (by rw [hlen]; exact hl.1.2)]
            exact mt_popAt pins s σ H _ _ v us Q I rx rv ⟨p, ys, i, i.toNat, y, rfl, rfl, hH, by omega, by omega, (ixN_seq hix).1, hy, k _ _ ρ g (R.setL hp (hr.eraseIdx _)) (ry.mono g)⟩
        · cases e
      · cases e
    · cases e
  · cases e
/-! ### methods of texts, one argument -/
def mMetS (f : Str → Str → D) (mo ma : ME) : ME := fun lo M => match mo lo M with
  | some (.str a, M1) => match ma lo M1 with
    | some (.str b, M2) => some (f a b, M2)
    | _ => none
  | _ => none
theorem ge_endswith {o a : Expr} {mo ma : ME} {apos : Pos} (ho : GE cl X o mo) (ha : GE cl X a ma) (hs : starEach [a] X.env = [(false, eval a X.env)] := by rfl) (hbase : attributeBase o "endswith" X.env (eval o X.env) = eval o X.env := by rfl) (hline : (apos.endLine == pos.line) = true := by rfl) :
    GE cl X (.Call (.Attribute o "endswith" apos) [a] [] pos) (mMetS (fun a b => .bl (Txt.endswith a b)) mo ma) := by
  refine (pe_m1 PySem.F.slot_str_endswith PySem.F.type_str_endswith mt_endswith ho ha hs hbase hline).imp fun σ H Q q => ?_
  obtain ⟨ρ, lo, M, d, M', R, L, e, k⟩ := q
  unfold mMetS at e
  split at e
  · rename_i z M1 h1
    split at e
    · rename_i b M2 h2
      cases e
      refine ⟨ρ, lo, M, _, _, R, L, h1, fun v H1 ρ1 g1 R1 r1 => ?_⟩
      cases r1
      refine ⟨⟨z, rfl⟩, ρ1, lo, M1, _, _, R1, L.mono g1, h2, fun u H2 ρ2 g2 R2 r2 => ?_⟩
      cases r2
      exact ⟨z, b, rfl, rfl, k _ H2 ρ2 (g1.trans g2) R2 (.bl _)⟩
    · cases e
  · cases e
/-! ### stores -/
def sSet (m : ME) (g : MG) : MS := fun lo M => match m lo M with
  | some (d, M1) => match g d lo M1 with
    | some (lo2, M2) => some (.nx lo2 M2)
    | none => none
  | none => none
theorem gs_asg {tg e : Expr} {m : ME} {g : MG} (he : GE cl X e m) (hg : GG cl X tg g) (hs : swapsWithSole [tg] e pos.line X.env = pure false := by rfl) (hw : swappedStores [tg] e X.env = pure none := by rfl) (h1 : (assignEach [tg] X.env).map (·.2) = [assign tg X.env] := by rfl) : GS cl X (.Assign [tg] e pos) (sSet m g) :=
  (ps_asg he hg hs hw h1).imp fun De σ H q => by
    obtain ⟨ρ, lo, M, o, R, L, e, k⟩ := q
    unfold sSet at e
    split at e
    · rename_i d M1 h1
      split at e
      · rename_i lo2 M2 h2
        cases e
        refine ⟨ρ, lo, M, d, M1, R, L, h1, fun v H1 ρ1 g1 R1 r1 => ?_⟩
        exact ⟨ρ1, lo, M1, d, lo2, M2, R1, L.mono g1, r1, h2, fun σ2 H2 ρ2 g2 R2 L2 => k σ2 H2 ρ2 (g1.trans g2) R2 L2⟩
      · cases e
    · cases e
theorem gs_set {i : Nat} {x : Str} {e : Expr} {m : ME} {pos' : Pos} (hN : X.N.Nodup) (hi : X.N[i]? = some x) (hx : Loc X.env.scope x) (he : GE cl X e m) (hs : swapsWith e (some (.Name x pos')) pos.line X.env = pure false := by rfl) (hf : X.fn x = true ∨ X.env.scope.names.lookup x = some .local := by first | exact .inl rfl | exact .inr rfl | assumption) :
    GS cl X (.Assign [.Name x pos'] e pos) (sSet m (gName i)) := (ps_set hN hi hx he hs hf).imp fun De σ H q => by
  obtain ⟨ρ, lo, M, o, R, L, e, k⟩ := q
  unfold sSet at e
  split at e
  · rename_i d M1 h1
    split at e
    · rename_i lo2 M2 h2
      cases e
      cases h2
      exact ⟨ρ, lo, M, d, _, R, L, h1, fun v H1 ρ1 g1 R1 r1 => k _ H1 ρ1 g1 R1 ((L.mono g1).set r1 i)⟩
    · cases e
  · cases e
/-- (a, b, ..) = a tuple -/
def gTup (n : Nat) (g : MGs) : MG := fun d lo M => match d with
  | .tup ds => if ds.length = n then g ds lo M else none
  | _ => none
theorem gg_tup {es : List Expr} {k : Nat} {n : Nat} {g : MGs} (hc : X.calm = true) (h : GGs cl X es g) (hn : (assignEach es X.env).length = n := by rfl) (hst : (assignEach es X.env).findIdx? (·.1) = none := by rfl) : GG cl X (.Tuple es k pos) (gTup n g) :=
  (pg_tup hc h hn hst).imp fun v σ H Q q => by
    obtain ⟨ρ, lo, M, d, lo', M', R, L, r, e, k⟩ := q
    unfold gTup at e
    split at e
    · rename_i ds
      split at e
      · rename_i hl
        cases r with
        | tup ht hs =>
          rename_i a xs
          exact ⟨a, xs, rfl, ht.sq, by rw [hs.length]; exact hl, ρ, lo, M, ds, lo', M', R, L, hs, e, k⟩
      · cases e
    · cases e
/-- o[i] = v of a list -/
def setL (o i v : D) (M : Mo) : Option Mo := match o, i with
  | .ref n, .int k => match M[n]? with
    | some (.lst es) => match ixN es.length k with
      | some j => some (M.set n (.lst (es.set j v)))
      | none => none
    | _ => none
  | _, _ => none
def gSub (mo mi : ME) (f : D → D → D → Mo → Option Mo) : MG := fun v lo M => match mo lo M with
  | some (o, M1) => match mi lo M1 with
    | some (i, M2) => match f o i v M2 with
      | some M3 => some (lo, M3)
      | none => none
    | none => none
  | none => none
theorem gg_subL {o i : Expr} {mo mi : ME} (ho : GE cl X o mo) (hi : GE cl X i mi)
    (ha : ∀ u, assign (.Subscript o i pos) X.env u = (do
      let p ← holding [u] (eval o X.env)
      let q ← holding [u, p] (eval i X.env)
      standAt pos
      holding [u, p, q] (setItem p q u)
      release [u, p, q] []) := by intro _; rfl) : GG cl X (.Subscript o i pos) (gSub mo mi setL) := by
  refine (pg_sub ho hi set_list ha).imp fun v σ H Q q => ?_
  obtain ⟨ρ, lo, M, d, lo', M', R, L, r, e, k⟩ := q
  unfold gSub at e
  split at e
  · rename_i od M1 h1
    split at e
    · rename_i id M2 h2
      split at e
      · rename_i M3 h3
        cases e
        refine ⟨ρ, lo, M, od, M1, R, L, h1, fun ov H1 ρ1 g1 R1 r1 => ?_⟩
        refine ⟨ρ1, lo, M1, id, M2, R1, L.mono g1, h2, fun iv H2 ρ2 g2 R2 r2 => ?_⟩
        unfold setL at h3
        split at h3
        · rename_i n kk
          cases r2
          split at h3
          · rename_i es hm
            split at h3
            · rename_i j hj
              cases h3
              obtain ⟨p, ys, rfl, hp, hH, hr⟩ := refL R2 (r1.mono g2) hm
              have g3 : Gr H2 ρ2 (upd H2 p (.lst (ys.set j v))) ρ2 := .put R2 (List.mem_of_getElem? hp)
              refine ⟨p, ys, kk, j, rfl, rfl, hH, by rw [hr.length]; exact hj, ?_⟩
              exact k _ _ ρ2 ((g1.trans g2).trans g3) (R2.setL hp (hr.set j ((r.mono g1).mono g2))) (((L.mono g1).mono g2).mono g3)
            · cases h3
          · cases h3
        · cases h3
      · cases e
    · cases e
  · cases e
/-- a, b = x, y with names -/
def sPar (i j : Nat) (ma mb : ME) : MS := fun lo M => match mTwo ma mb lo M with
  | some ([d, e], M1) => some (.nx ((lo.set i (some d)).set j (some e)) M1)
  | _ => none
theorem gs_par {i j : Nat} {x y : Str} {a b : Expr} {ma mb : ME} {px py pt : Pos} {kt k2 pt2} (hc : X.calm = true) (hN : X.N.Nodup) (hi : X.N[i]? = some x) (hj : X.N[j]? = some y) (hij : i ≠ j)
    (hx : X.env.scope.names.lookup x = some .local) (hy : X.env.scope.names.lookup y = some .local) (ha : GA cl X [a, b] (mTwo ma mb))
    (hw : swappedStores [.Tuple [.Name x px, .Name y py] kt pt] (.Tuple [a, b] k2 pt2) X.env = pure (some [x, y]))
    (hs : swapsWithSole [.Tuple [.Name x px, .Name y py] kt pt] (.Tuple [a, b] k2 pt2) pos.line X.env = pure false := by rfl) :
    GS cl X (.Assign [.Tuple [.Name x px, .Name y py] kt pt] (.Tuple [a, b] k2 pt2) pos) (sPar i j ma mb) :=
  (ps_par hc hN hi hj hij hx hy ha hw hs).imp fun De σ H q => by
    obtain ⟨ρ, lo, M, o, R, L, e, k⟩ := q
    unfold sPar at e
    split at e
    · rename_i d1 d2 M1 h1
      cases e
      refine ⟨ρ, lo, M, _, M1, R, L, h1, fun vs H1 ρ1 g1 R1 r1 => ?_⟩
      obtain ⟨v, u, rfl, ra, rb⟩ := r1.pair
      exact ⟨v, u, rfl, k _ H1 ρ1 g1 R1 (((L.mono g1).set ra i).set rb j)⟩
    · cases e
end
end G

set_option Elab.async false
set_option linter.all false
set_option maxRecDepth 100000
namespace G
open PySem PySem.Spec L2

/-! ### what is walked -/
/-- the iterator J gives the items ds, as long as the heap grows from (H0, ρ0) -/
def ItOk (W : Wd) (ds : List D) (H0 : Hp) (ρ0 : Rh) (J : It) : Prop :=
  ∀ (i : Nat) (H1 : Hp) (ρ1 : Rh) (M1 : Mo), (∀ v d, DR W.K H0 ρ0 v d → DR W.K H1 ρ1 v d) → Rep W H1 ρ1 M1 →
    (ds.length = i → J.stop i H1) ∧ ∀ d, ds[i]? = some d → J.go i H1 ∧ ∀ x H2, J.yld i H1 x H2 → Gr H1 ρ1 H2 ρ1 ∧ Rep W H2 ρ1 M1 ∧ DR W.K H2 ρ1 x d ∧ (∀ (a : Addr) (o : HO), H1 a = some o → H2 a = some o)
def iM (W : Wd) (mi : MA) : TI := fun σ H R => ∃ ρ lo M ds M', Rep W H ρ M ∧ LoR W.K H ρ σ lo ∧ mi lo M = some (ds, M') ∧ ∀ J H' ρ', Gr H ρ H' ρ' → Rep W H' ρ' M' → ItOk W ds H' ρ' J → R J H'
abbrev GI (cl : Nat → Addr) (X : Cx) (tg e : Expr) (mi : MA) : Prop := PI X tg e (iM ⟨X.K, cl, X.w⟩ mi)
theorem _root_.L2.PI.imp {X : Cx} {tg e : Expr} {t t' : TI} (h : PI X tg e t) (i : ∀ σ H Q, t' σ H Q → t σ H Q) : PI X tg e t' := ⟨fun pins s σ H R I q => h.run pins s σ H R I (i σ H R q)⟩
/-- a tuple; a list that does not change -/
def iTupM (m : ME) : MA := fun lo M => match m lo M with | some (.tup ds, M1) => some (ds, M1) | _ => none
def iLstM (m : ME) : MA := fun lo M => match m lo M with | some (.lst ds, M1) => some (ds, M1) | _ => none
section
variable {X : Cx} {cl : Nat → Addr} {pos : Pos} {tg e : Expr} {m : ME}
theorem gi_tup (h : GE cl X e m) : GI cl X tg e (iTupM m) := (pi_tup h).imp fun σ H Q q => by
  obtain ⟨ρ, lo, M, ds, M', R, L, e, k⟩ := q
  unfold iTupM at e
  split at e
  · rename_i ds' M1 h1
    cases e
    refine ⟨ρ, lo, M, _, _, R, L, h1, fun v H1 ρ1 g1 R1 r1 => ?_⟩
    cases r1 with
    | tup ht hs =>
      rename_i a xs
      refine ⟨a, rfl, ⟨xs, ht.sq⟩, k _ H1 ρ1 g1 R1 fun i H2 ρ2 M2 mono R2 => ?_⟩
      have r2 := mono _ _ (.tup ht hs)
      cases r2 with
      | tup ht2 hs2 =>
        rename_i ys
        refine ⟨fun hi => ⟨ys, ht2.sq, by rw [hs2.length]; exact Nat.le_of_eq hi⟩, fun d hd => ?_⟩
        obtain ⟨x, hx, rx⟩ := hs2.get hd
        refine ⟨⟨ys, x, ht2.sq, hx⟩, fun x' H3 hy => ?_⟩
        obtain ⟨rfl, hy⟩ := hy
        have hx' := hy ys ht2.sq
        rw [hx] at hx'
        cases hx'
        exact ⟨.refl _ _, R2, rx, fun _ _ h => h⟩
  · cases e
theorem gi_lst (h : GE cl X e m) : GI cl X tg e (iLstM m) := (pi_list h).imp fun σ H Q q => by
  obtain ⟨ρ, lo, M, ds, M', R, L, e, k⟩ := q
  unfold iLstM at e
  split at e
  · rename_i ds' M1 h1
    cases e
    refine ⟨ρ, lo, M, _, _, R, L, h1, fun v H1 ρ1 g1 R1 r1 => ?_⟩
    cases r1 with
    | lst ht hs =>
      rename_i a xs
      refine ⟨a, rfl, ⟨xs, SqL.of ht.1⟩, k _ H1 ρ1 g1 R1 fun i H2 ρ2 M2 mono R2 => ?_⟩
      have r2 := mono _ _ (.lst ht hs)
      cases r2 with
      | lst ht2 hs2 =>
        rename_i ys
        refine ⟨fun hi => ⟨ys, SqL.of ht2.1, by rw [hs2.length]; exact Nat.le_of_eq hi⟩, fun d hd => ?_⟩
        obtain ⟨x, hx, rx⟩ := hs2.get hd
        refine ⟨⟨ys, x, SqL.of ht2.1, hx⟩, fun x' H3 hy => ?_⟩
        obtain ⟨rfl, hy⟩ := hy
        have hx' := hy ys (SqL.of ht2.1)
        rw [hx] at hx'
        cases hx'
        exact ⟨.refl _ _, R2, rx, fun _ _ h => h⟩
  · cases e
/-- range(n), range(a, b) -/
def rgD (a b : Int) : List D := (List.range (b - a).toNat).map fun i => D.int (a + (i : Nat))
def iRg1M (ms : MA) : MA := fun lo M => match ms lo M with | some ([.int n], M1) => if decide (-(2 ^ 62) ≤ n) && decide (n < 2 ^ 62) then some (rgD 0 n, M1) else none | _ => none
def iRg2M (ms : MA) : MA := fun lo M => match ms lo M with | some ([.int a, .int b], M1) => if decide (-(2 ^ 62) ≤ a) && decide (a < 2 ^ 62) && decide (-(2 ^ 62) ≤ b) && decide (b < 2 ^ 62) then some (rgD a b, M1) else none | _ => none
theorem itr_ok {W : Wd} {H : Hp} {ρ : Rh} (a b : Int) : ItOk W (rgD a b) H ρ (Itr a (b - a).toNat) := fun i H1 ρ1 M1 mono R1 => by
  refine ⟨fun hi => ?_, fun d hd => ?_⟩
  · unfold rgD at hi
    rw [List.length_map, List.length_range] at hi
    exact Nat.le_of_eq hi
  · unfold rgD at hd
    rw [List.getElem?_map] at hd
    cases q : (List.range (b - a).toNat)[i]? with
    | none => rw [q] at hd; cases hd
    | some j =>
      rw [q] at hd
      obtain ⟨hlt, hj⟩ := List.getElem?_eq_some_iff.mp q
      simp at hlt hj
      subst hj
      cases hd
      refine ⟨by show i < (b - a).toNat; omega, fun x H2 hy => ?_⟩
      obtain ⟨rfl, rfl⟩ := hy
      exact ⟨.refl _ _, R1, .int _, fun _ _ h => h⟩
theorem gi_rg1 {a : Expr} {ms : MA} {p : Pos} (hg : Gl X "range") (hm : X.mg "range" = none) (ha : GA cl X [a] ms) (hs : starEach [a] X.env = [(false, eval a X.env)] := by rfl) : GI cl X tg (.Call (.Name "range" p) [a] [] pos) (iRg1M ms) := (pi_range1 hg hm ha hs).imp fun σ H Q q => by
  obtain ⟨ρ, lo, M, ds, M', R, L, e, k⟩ := q
  unfold iRg1M at e
  split at e
  · rename_i n M1 h1
    split at e
    · rename_i hb
      simp only [Bool.and_eq_true, decide_eq_true_eq] at hb
      cases e
      refine ⟨ρ, lo, M, _, _, R, L, h1, fun vs H1 ρ1 g1 R1 r1 => ?_⟩
      obtain ⟨v, rfl, rv⟩ := r1.one
      cases rv
      have key := itr_ok (W := ⟨X.K, cl, X.w⟩) (H := H1) (ρ := ρ1) 0 n
      rw [Int.sub_zero] at key
      exact ⟨n, rfl, hb.1, hb.2, k _ H1 ρ1 g1 R1 key⟩
    · cases e
  · cases e
theorem gi_rg2 {a b : Expr} {ms : MA} {p : Pos} (hg : Gl X "range") (hm : X.mg "range" = none) (ha : GA cl X [a, b] ms) (hs : starEach [a, b] X.env = [(false, eval a X.env), (false, eval b X.env)] := by rfl) (hs2 : starEach [b] X.env = [(false, eval b X.env)] := by rfl) : GI cl X tg (.Call (.Name "range" p) [a, b] [] pos) (iRg2M ms) := (pi_range2 hg hm ha hs hs2).imp fun σ H Q q => by
  obtain ⟨ρ, lo, M, ds, M', R, L, e, k⟩ := q
  unfold iRg2M at e
  split at e
  · rename_i n n2 M1 h1
    split at e
    · rename_i hb
      simp only [Bool.and_eq_true, decide_eq_true_eq] at hb
      cases e
      refine ⟨ρ, lo, M, _, _, R, L, h1, fun vs H1 ρ1 g1 R1 r1 => ?_⟩
      obtain ⟨v, u, rfl, rv, ru⟩ := r1.pair
      cases rv; cases ru
      exact ⟨n, n2, rfl, ⟨hb.1.1.1, hb.1.1.2, hb.1.2, hb.2⟩, k _ H1 ρ1 g1 R1 (itr_ok n n2)⟩
    · cases e
  · cases e
end

/-! ### for -/
def forLoop (g : MG) (body : MS) : List D → Lo → Mo → Option Out
  | [], lo, M => some (.nx lo M)
  | d :: ds, lo, M => match g d lo M with
    | some (lo1, M1) => match body lo1 M1 with
      | some (.nx lo2 M2) => forLoop g body ds lo2 M2
      | some (.ct lo2 M2) => forLoop g body ds lo2 M2
      | some (.bk lo2 M2) => some (.nx lo2 M2)
      | some (.rt d M2) => some (.rt d M2)
      | none => none
    | none => none
def sFor (mi : MA) (g : MG) (body : MS) : MS := fun lo M => match mi lo M with
  | some (ds, M1) => forLoop g body ds lo M1
  | none => none
section
variable {X : Cx} {cl : Nat → Addr} {pos : Pos}
theorem drop_get {α : Type} {l : List α} {i : Nat} {x : α} (h : l[i]? = some x) : l.drop i = x :: l.drop (i + 1) := by
  obtain ⟨hl, he⟩ := List.getElem?_eq_some_iff.mp h
  rw [List.drop_eq_getElem_cons hl, he]
theorem tFor_of {W : Wd} {wi : TI} {mi : MA} {g : MG} {body : MS} {De : Ends} {σ : L2.St} {H : Hp} (hwi : ∀ σ H R, iM W mi σ H R → wi σ H R) (q : tS W (sFor mi g body) De σ H) : tFor wi (tG W g) (tS W body) De σ H := by
  obtain ⟨ρ, lo, M, o, R, L, e, k⟩ := q
  unfold sFor at e
  split at e
  · rename_i ds M1 h1
    refine hwi σ H _ ⟨ρ, lo, M, ds, M1, R, L, h1, fun J H1 ρ1 g1 R1 it => ?_⟩
    refine ⟨fun i m σ' H' => m = ds.length - i ∧ i ≤ ds.length ∧ ∃ ρ' lo' M', (∀ v d, DR W.K H1 ρ1 v d → DR W.K H' ρ' v d) ∧ Rep W H' ρ' M' ∧ LoR W.K H' ρ' σ' lo' ∧ forLoop g body (ds.drop i) lo' M' = some o ∧ OutOk W H' ρ' De o,
      ⟨ds.length, by simp, Nat.zero_le _, ρ1, lo, M1, fun _ _ h => h, R1, L.mono g1, e, k.mono g1⟩, ?_⟩
    rintro i m σ' H' ⟨rfl, hi, ρ', lo', M', mono, R', L', e', k'⟩
    obtain ⟨hstop, hgo⟩ := it i H' ρ' M' mono R'
    by_cases hlt : i < ds.length
    · right
      have hd : ds[i]? = some ds[i] := List.getElem?_eq_getElem hlt
      generalize ds[i] = d at hd
      obtain ⟨hg, hy⟩ := hgo d hd
      rw [drop_get hd, forLoop] at e'
      refine ⟨hg, fun σ2 H2 => ∃ m', m' < ds.length - i ∧ (m' = ds.length - (i + 1) ∧ i + 1 ≤ ds.length ∧ ∃ ρ' lo' M', (∀ v d, DR W.K H1 ρ1 v d → DR W.K H2 ρ' v d) ∧ Rep W H2 ρ' M' ∧ LoR W.K H2 ρ' σ2 lo' ∧ forLoop g body (ds.drop (i + 1)) lo' M' = some o ∧ OutOk W H2 ρ' De o), fun σ2 H2 h => h, fun x H2 hx => ?_⟩
      obtain ⟨g2, R2, rx, _⟩ := hy x H2 hx
      split at e'
      · rename_i lo1 M2 hg1
        refine ⟨ρ', lo', M', d, lo1, M2, R2, L'.mono g2, rx, hg1, fun σ3 H3 ρ3 g3 R3 L3 => ?_⟩
        have gg := g2.trans g3
        split at e'
        · rename_i lo2 M4 hb
          refine ⟨ρ3, lo1, M2, _, R3, L3, hb, fun σ4 H4 ρ4 g4 R4 L4 => ⟨_, by omega, rfl, by omega, ρ4, lo2, M4, fun v d h => (mono v d h).mono (gg.trans g4), R4, L4, e', k'.mono (gg.trans g4)⟩⟩
        · rename_i lo2 M4 hb
          refine ⟨ρ3, lo1, M2, _, R3, L3, hb, fun σ4 H4 ρ4 g4 R4 L4 => ⟨_, by omega, rfl, by omega, ρ4, lo2, M4, fun v d h => (mono v d h).mono (gg.trans g4), R4, L4, e', k'.mono (gg.trans g4)⟩⟩
        · rename_i lo2 M4 hb
          cases e'
          exact ⟨ρ3, lo1, M2, _, R3, L3, hb, fun σ4 H4 ρ4 g4 R4 L4 => k' σ4 H4 ρ4 (gg.trans g4) R4 L4⟩
        · rename_i d4 M4 hb
          cases e'
          exact ⟨ρ3, lo1, M2, _, R3, L3, hb, fun v4 H4 ρ4 g4 R4 L4 => k' v4 H4 ρ4 (gg.trans g4) R4 L4⟩
        · cases e'
      · cases e'
    · left
      refine ⟨hstop (by omega), ?_⟩
      rw [List.drop_of_length_le (Nat.le_of_not_lt hlt), forLoop] at e'
      cases e'
      exact k' σ' H' ρ' (.refl _ _) R' L'
  · cases e
theorem gs_for {tg iter : Expr} {body : List Stmt} {mi : MA} {g : MG} {mb : MS} (hp : PassesOwn (model X.prog X.w) X.A X.env X.xe) (hc : X.calm = true) (hi : GI cl X tg iter mi) (hg : GG cl X tg g) (hb : GB cl X body mb) (hs : ∀ x, foldedSetIterable iter X.env x = pure x := by intro _; rfl) : GS cl X (.For tg iter body [] pos) (sFor mi g mb) :=
  (ps_for hp hc hi hg hb hs).imp fun De σ H q => tFor_of (fun _ _ _ h => h) q

/-! ### while -/
def whileLoop (c : MT) (body : MS) : Nat → Lo → Mo → Option Out
  | 0, _, _ => none
  | n + 1, lo, M => match c lo M with
    | some (true, M1) => match body lo M1 with
      | some (.nx lo2 M2) => whileLoop c body n lo2 M2
      | some (.ct lo2 M2) => whileLoop c body n lo2 M2
      | some (.bk lo2 M2) => some (.nx lo2 M2)
      | some (.rt d M2) => some (.rt d M2)
      | none => none
    | some (false, M1) => some (.nx lo M1)
    | none => none
def sWhile (n : Nat) (c : MT) (body : MS) : MS := fun lo M => whileLoop c body n lo M
theorem gs_while {c : Expr} {body : List Stmt} {mc : MT} {mb : MS} (n : Nat) (hp : PassesOwn (model X.prog X.w) X.A X.env X.xe) (hc : GT cl X c mc) (hb : GB cl X body mb) : GS cl X (.While c body [] pos) (sWhile n mc mb) :=
  (ps_while hp hc hb).imp fun De σ H q => by
    obtain ⟨ρ, lo, M, o, R, L, e, k⟩ := q
    unfold sWhile at e
    refine ⟨fun m σ' H' => ∃ ρ' lo' M', Rep ⟨X.K, cl, X.w⟩ H' ρ' M' ∧ LoR X.K H' ρ' σ' lo' ∧ whileLoop mc mb m lo' M' = some o ∧ OutOk ⟨X.K, cl, X.w⟩ H' ρ' De o, ⟨n, ρ, lo, M, R, L, e, k⟩, ?_⟩
    rintro m σ' H' ⟨ρ', lo', M', R', L', e', k'⟩
    cases m with
    | zero => cases e'
    | succ m =>
      rw [whileLoop] at e'
      split at e'
      · rename_i M1 h1
        refine ⟨ρ', lo', M', true, M1, R', L', h1, fun H1 ρ1 g1 R1 => ?_⟩
        refine iteT ⟨fun σ2 H2 => ∃ m', m' < m + 1 ∧ ∃ ρ' lo' M', Rep ⟨X.K, cl, X.w⟩ H2 ρ' M' ∧ LoR X.K H2 ρ' σ2 lo' ∧ whileLoop mc mb m' lo' M' = some o ∧ OutOk ⟨X.K, cl, X.w⟩ H2 ρ' De o, fun σ2 H2 h => h, ?_⟩
        split at e'
        · rename_i lo2 M4 hb
          exact ⟨ρ1, lo', M1, _, R1, L'.mono g1, hb, fun σ4 H4 ρ4 g4 R4 L4 => ⟨m, by omega, ρ4, lo2, M4, R4, L4, e', k'.mono (g1.trans g4)⟩⟩
        · rename_i lo2 M4 hb
          exact ⟨ρ1, lo', M1, _, R1, L'.mono g1, hb, fun σ4 H4 ρ4 g4 R4 L4 => ⟨m, by omega, ρ4, lo2, M4, R4, L4, e', k'.mono (g1.trans g4)⟩⟩
        · rename_i lo2 M4 hb
          cases e'
          exact ⟨ρ1, lo', M1, _, R1, L'.mono g1, hb, fun σ4 H4 ρ4 g4 R4 L4 => k' σ4 H4 ρ4 (g1.trans g4) R4 L4⟩
        · rename_i d4 M4 hb
          cases e'
          exact ⟨ρ1, lo', M1, _, R1, L'.mono g1, hb, fun v4 H4 ρ4 g4 R4 L4 => k' v4 H4 ρ4 (g1.trans g4) R4 L4⟩
        · cases e'
      · rename_i M1 h1
        cases e'
        refine ⟨ρ', lo', M', false, M1, R', L', h1, fun H1 ρ1 g1 R1 => ?_⟩
        exact iteF (k' σ' H1 ρ1 g1 R1 (L'.mono g1))
      · cases e'
end

/-! ### comprehensions -/
def wipeD (lo : Lo) : List Nat → Lo
  | [] => lo
  | v :: vs => (wipeD lo vs).set v none
theorem LoR.wipe {K : PySem.W.Frag} {H : Hp} {ρ : Rh} {σ : L2.St} {lo : Lo} (h : LoR K H ρ σ lo) : ∀ vs : List Nat, LoR K H ρ (L2.wipe σ vs) (wipeD lo vs)
  | [] => h
  | v :: vs => by
    have ih := LoR.wipe h vs
    refine ⟨by simp [L2.wipe, wipeD, ih.1], fun j e hj => ?_⟩
    unfold wipeD at hj
    unfold L2.wipe
    by_cases hij : v = j
    · subst hij
      by_cases hl : v < (wipeD lo vs).length
      · rw [List.getElem?_set_self hl] at hj; cases hj
      · rw [List.getElem?_eq_none (by simpa using Nat.le_of_not_lt hl)] at hj; cases hj
    · rw [List.getElem?_set_ne hij] at hj ⊢
      exact ih.2 j e hj
/-- a target within a comprehension: it stores its own names alone -/
structure CG (W : Wd) (vs : List Nat) (t : TG) (g : MG) : Prop where
  ok : ∀ (ρ : Rh) (H : Hp) (σ : L2.St) (lo : Lo) (M : Mo) (v : V) (d : D) (lo' : Lo) (M' : Mo) (Q : L2.St → Hp → Prop), Rep W H ρ M → LoR W.K H ρ σ lo → DR W.K H ρ v d → g d lo M = some (lo', M') →
    (∀ σ', LoR W.K H ρ σ' lo' → L2.wipe σ' vs = L2.wipe σ vs → Q σ' H) → t v σ H Q
  st : ∀ d lo M lo' M', g d lo M = some (lo', M') → M' = M
theorem wipe_set {σ : L2.St} {i : Nat} {x : Option V} : ∀ {vs : List Nat}, i ∈ vs → L2.wipe (σ.set i x) vs = L2.wipe σ vs
  | v :: vs, h => by
    unfold L2.wipe
    by_cases hv : i ∈ vs
    · rw [wipe_set hv]
    · have e : i = v := (List.mem_cons.mp h).resolve_right hv
      subst e
      have key : ∀ (vs : List Nat) (τ : L2.St), i ∉ vs → (L2.wipe (τ.set i x) vs) = (L2.wipe τ vs).set i x := by
        intro vs
        induction vs with
        | nil => intro τ _; rfl
        | cons w ws ih =>
          intro τ hw
          unfold L2.wipe
          rw [ih τ (fun z => hw (List.mem_cons_of_mem _ z))]
          exact List.set_comm _ _ (fun z => hw (by rw [z]; exact List.mem_cons_self))
      rw [key vs σ hv, List.set_set]
theorem cg_name {W : Wd} {vs : List Nat} {i : Nat} (hi : i ∈ vs) : CG W vs (L2.gName i) (gName i) where
  ok := fun ρ H σ lo M v d lo' M' Q R L r e k => by
    cases e
    exact k _ (L.set r i) (wipe_set hi)
  st := fun d lo M lo' M' e => by cases e; rfl
theorem cg_pair {W : Wd} {vs : List Nat} {i j : Nat} (hi : i ∈ vs) (hj : j ∈ vs) : CG W vs (L2.gTup W.K 2 (L2.gCons (L2.gName i) (L2.gCons (L2.gName j) L2.gNil))) (gTup 2 (gsCons (gName i) (gsCons (gName j) gsNil))) where
  ok := fun ρ H σ lo M v d lo' M' Q R L r e k => by
    unfold gTup at e
    split at e
    · rename_i ds
      split at e
      · rename_i hl
        match ds, hl with
        | [d1, d2], _ =>
          cases e
          cases r with
          | tup ht hs =>
            obtain ⟨v1, v2, rfl, r1, r2⟩ := hs.pair
            exact ⟨_, _, rfl, ht.sq, rfl, v1, [v2], rfl, v2, [], rfl, rfl, k _ ((L.set r1 i).set r2 j) (by rw [wipe_set hj, wipe_set hi])⟩
      · cases e
    · cases e
  st := fun d lo M lo' M' e => by
    unfold gTup at e
    split at e
    · rename_i ds
      split at e
      · rename_i hl
        match ds, hl with
        | [d1, d2], _ => cases e; rfl
      · cases e
    · cases e
def compLoop (g : MG) (c : MT) (m : ME) (vs : List Nat) : List D → Lo → Mo → Option (List D × Mo)
  | [], _, M => some ([], M)
  | d :: ds, lo, M => match g d (wipeD lo vs) M with
    | some (lo1, M1) => match c lo1 M1 with
      | some (true, M2) => match m lo1 M2 with
        | some (e, M3) => match compLoop g c m vs ds lo M3 with
          | some (es, M4) => some (e :: es, M4)
          | none => none
        | none => none
      | some (false, M2) => compLoop g c m vs ds lo M2
      | none => none
    | none => none
def mComp (mi : MA) (g : MG) (c : MT) (m : ME) (vs : List Nat) : ME := fun lo M => match mi lo M with
  | some (ds, M1) => if ds.length ≤ sizeLine then (match compLoop g c m vs ds lo M1 with
    | some (es, M2) => some (.lst es, M2)
    | none => none) else none
  | none => none
def tTrue : MT := fun _ M => some (true, M)
abbrev GTs (cl : Nat → Addr) (X : Cx) (es : List Expr) (m : MT) : Prop := PTs X es (tMT ⟨X.K, cl, X.w⟩ m)
theorem _root_.L2.PTs.imp {X : Cx} {es : List Expr} {t t' : TT} (h : PTs X es t) (i : ∀ σ H Q, t' σ H Q → t σ H Q) : PTs X es t' := ⟨fun pins s σ H R I q => h.run pins s σ H R I (i σ H R q)⟩
section
variable {X : Cx} {cl : Nat → Addr} {pos : Pos}
theorem gts_nil : GTs cl X [] tTrue := pts_nil.imp fun σ H Q q => by
  obtain ⟨ρ, lo, M, b, M', R, L, e, k⟩ := q
  cases e
  exact k H ρ (.refl _ _) R
theorem gts_one {c : Expr} {m : MT} (h : GT cl X c m) : GTs cl X [c] m := pts_one h
theorem wipe_get {σ : L2.St} {j : Nat} : ∀ {vs : List Nat}, (j ∈ vs → j < σ.length → (L2.wipe σ vs)[j]? = some none) ∧ (j ∉ vs → (L2.wipe σ vs)[j]? = σ[j]?)
  | [] => ⟨fun h => absurd h (by simp), fun _ => rfl⟩
  | v :: vs => by
    have ih := wipe_get (σ := σ) (j := j) (vs := vs)
    unfold L2.wipe
    by_cases hv : v = j
    · subst hv
      exact ⟨fun _ hl => List.getElem?_set_self (by rw [wipe_length]; exact hl), fun h => absurd List.mem_cons_self h⟩
    · rw [List.getElem?_set_ne hv]
      exact ⟨fun h hl => ih.1 ((List.mem_cons.mp h).resolve_left fun z => hv z.symm) hl, fun h => ih.2 fun z => h (List.mem_cons_of_mem _ z)⟩
theorem wipe_wipe (σ : L2.St) (vs : List Nat) : L2.wipe (L2.wipe σ vs) vs = L2.wipe σ vs := by
  refine List.ext_getElem? fun j => ?_
  by_cases hj : j ∈ vs
  · by_cases hl : j < σ.length
    · rw [wipe_get.1 hj (by rw [wipe_length]; exact hl), wipe_get.1 hj hl]
    · rw [List.getElem?_eq_none (by rw [wipe_length, wipe_length]; omega), List.getElem?_eq_none (by rw [wipe_length]; omega)]
  · rw [wipe_get.2 hj]
theorem tLc_of {W : Wd} {wi : TI} {mi : MA} {t : TG} {g : MG} {c : MT} {m : ME} {vs : List Nat} {σ : L2.St} {H : Hp} {Q : VK} (hwi : ∀ σ H R, iM W mi σ H R → wi σ H R) (cg : CG W vs t g) (q : tM W (mComp mi g c m vs) σ H Q) :
    tLc wi t (tMT W c) (tM W m) vs σ H Q := by
  obtain ⟨ρ, lo, M, d, Mf, R, L, e, k⟩ := q
  unfold mComp at e
  split at e
  · rename_i ds M1 h1
    split at e
    · rename_i hz
      split at e
      · rename_i es Mg h2
        obtain ⟨rfl, rfl⟩ : D.lst es = d ∧ Mg = Mf := by simpa using e
        refine hwi σ H _ ⟨ρ, lo, M, ds, M1, R, L, h1, fun J H1 ρ1 g1 R1 it p hp => ?_⟩
        have L1 := L.mono g1
        refine ⟨fun i n H' => n = ds.length - i ∧ i ≤ ds.length ∧ ∃ ρ' M' xs acc rest, Kp H1 ρ1 H' ρ' ∧ (∀ a o, a ∈ ρ1.v → H1 a = some o → H' a = some o) ∧ Rep W H' ρ' M' ∧ ρ'.v = p :: ρ1.v ∧ H' p = some (.lst xs) ∧ DRs W.K H' ρ' xs acc ∧ acc.length ≤ i ∧
          compLoop g c m vs (ds.drop i) lo M' = some (rest, Mg) ∧ acc ++ rest = es,
          ⟨ds.length, by simp, Nat.zero_le _, ⟨ρ1.m, p :: ρ1.v⟩, M1, [], [], es, .begin hp, fun a o ha e => by rw [upd_ne (ne_of_none e hp)]; exact e, R1.begin hp, rfl, upd_same, .nil, Nat.le_refl _, h2, rfl⟩, ?_⟩
        rintro i n H' ⟨rfl, hi, ρ', M', xs, acc, rest, kp, hh, R', ev, ep, ra, hl, e', ee⟩
        obtain ⟨hstop, hgo⟩ := it i H' ρ' M' (fun v d h => h.stay kp) R'
        have hpv : p ∈ ρ'.v := by rw [ev]; exact List.mem_cons_self
        by_cases hlt : i < ds.length
        · right
          have hd : ds[i]? = some ds[i] := List.getElem?_eq_getElem hlt
          generalize ds[i] = d at hd
          obtain ⟨hg, hy⟩ := hgo d hd
          rw [drop_get hd, compLoop] at e'
          refine ⟨hg, fun H2 => ∃ n', n' < ds.length - i ∧ (n' = ds.length - (i + 1) ∧ i + 1 ≤ ds.length ∧ ∃ ρ' M' xs acc rest, Kp H1 ρ1 H2 ρ' ∧ (∀ a o, a ∈ ρ1.v → H1 a = some o → H2 a = some o) ∧ Rep W H2 ρ' M' ∧ ρ'.v = p :: ρ1.v ∧ H2 p = some (.lst xs) ∧ DRs W.K H2 ρ' xs acc ∧ acc.length ≤ i + 1 ∧
            compLoop g c m vs (ds.drop (i + 1)) lo M' = some (rest, Mg) ∧ acc ++ rest = es), fun H2 h => h, fun x H2 hx => ?_⟩
          obtain ⟨g2, R2, rx, _⟩ := hy x H2 hx
          split at e'
          · rename_i lo1 M2 hg1
            have hst := cg.st _ _ _ _ _ hg1
            subst hst
            refine cg.ok ρ' H2 (L2.wipe σ vs) (wipeD lo vs) _ x d lo1 _ _ R2 (((L1.stay kp).wipe vs).mono g2) rx hg1 fun σ' Lσ hw => ⟨by rw [hw, wipe_wipe], ?_⟩
            split at e'
            · rename_i M3 hc
              split at e'
              · rename_i el M4 hm
                split at e'
                · rename_i es2 M5 hr
                  cases e'
                  refine ⟨ρ', lo1, _, true, M3, R2, Lσ, hc, fun H3 ρ3 g3 R3 => iteT ?_⟩
                  refine ⟨ρ3, lo1, M3, el, M4, R3, Lσ.mono g3, hm, fun y H4 ρ4 g4 R4 r4 => ?_⟩
                  have gg := (g2.trans g3).trans g4
                  have ep4 : H4 p = some (.lst xs) := gg.hid p _ hpv ep
                  have ev4 : ρ4.v = p :: ρ1.v := gg.vol.trans ev
                  have hpv4 : p ∈ ρ4.v := by rw [ev4]; exact List.mem_cons_self
                  have hlen := ra.length
                  refine ⟨xs, ep4, by omega, _, by omega, rfl, by omega, ρ4, M4, xs ++ [y], acc ++ [el], es2, (kp.trans gg.kp).put hp, fun a o ha e => ?_, R4.hide hpv4, ev4, upd_same, ((ra.mono gg).append (.cons r4 .nil)).hide hpv4, by rw [List.length_append]; simp; omega, hr, by rw [List.append_assoc]; exact ee⟩
                  rw [upd_ne (ne_of_none e hp)]
                  exact gg.hid a o (by rw [ev]; exact List.mem_cons_of_mem _ ha) (hh a o ha e)
                · cases e'
              · cases e'
            · rename_i M3 hc
              refine ⟨ρ', lo1, _, false, M3, R2, Lσ, hc, fun H3 ρ3 g3 R3 => iteF ?_⟩
              have gg := g2.trans g3
              exact ⟨_, by omega, rfl, by omega, ρ3, M3, xs, acc, rest, kp.trans gg.kp, fun a o ha e => gg.hid a o (by rw [ev]; exact List.mem_cons_of_mem _ ha) (hh a o ha e), R3, gg.vol.trans ev, gg.hid p _ hpv ep, ra.mono gg, by omega, e', ee⟩
            · cases e'
          · cases e'
        · left
          refine ⟨hstop (by omega), ?_⟩
          rw [List.drop_of_length_le (Nat.le_of_not_lt hlt), compLoop] at e'
          cases e'
          rw [List.append_nil] at ee
          subst ee
          have hpm : p ∉ ρ'.m := (R'.hid p hpv).2
          have hp1 : p ∉ ρ1.v := fun z => by
            obtain ⟨⟨u, e⟩, _⟩ := R1.hid p z
            rw [hp] at e; cases e
          have hsub : ∀ a, a ∈ (⟨ρ'.m, ρ1.v⟩ : Rh).v → a ∈ ρ'.v := fun a ha => by rw [ev]; exact List.mem_cons_of_mem _ ha
          have hnot : ∀ a, a ∉ ρ' → a ∉ (⟨ρ'.m, ρ1.v⟩ : Rh) := fun a n z => z.elim (fun z => n (.inl z)) fun z => n (.inr (hsub a z))
          refine k _ H' ⟨ρ'.m, ρ1.v⟩ (g1.trans ⟨kp.pre, fun a o h n => ?_, rfl, hh⟩) (R'.less rfl hsub) (.lst ⟨ep, fun z => z.elim hpm hp1⟩ (DRs.less (ρ := ρ') (ρ' := ⟨ρ'.m, ρ1.v⟩) rfl hnot ra))
          obtain ⟨h2, n2⟩ := kp.keep a o h n
          exact ⟨h2, hnot a n2⟩
      · cases e
    · cases e
  · cases e
section
variable {elt tg iter : Expr} {ifs : List Expr} {scope : Scope} {own : List (Str × Nat)} {mi : MA} {t : TG} {g : MG} {c : MT} {m : ME}
/-- [elt for tg in iter if ..] -/
theorem ge_comp (hc : X.calm = true) (hN : X.N.Nodup) (hi : GI cl X tg iter mi) (ok : BlkOk X.N X.env.scope scope own) (cg : CG ⟨X.K, cl, X.w⟩ (own.map (·.2)) t g)
    (hg : ∀ (s : Shared) (H : Hp) (C : Addr) (c2 : List (Str × Addr)) (fp : List Addr), PG (X.blk s H scope (compEnvC scope c2 C X.env) fp) tg t)
    (ht : ∀ (s : Shared) (H : Hp) (C : Addr) (c2 : List (Str × Addr)) (fp : List Addr), GTs cl (X.blk s H scope (compEnvC scope c2 C X.env) fp) ifs c)
    (he : ∀ (s : Shared) (H : Hp) (C : Addr) (c2 : List (Str × Addr)) (fp : List Addr), GE cl (X.blk s H scope (compEnvC scope c2 C X.env) fp) elt m) (hs : ∀ x, foldedSetIterable iter X.env x = pure x := by intro _; rfl) :
    GE cl X (.ListComp elt [⟨tg, iter, ifs, 0⟩] scope pos) (mComp mi g c m (own.map (·.2))) :=
  (pe_lc hc hN hi ok hg ht he hs).imp fun σ H Q q => tLc_of (fun _ _ _ h => h) cg q
theorem gs_setComp {i : Nat} {y : Str} {py spos : Pos} (hc : X.calm = true) (hN : X.N.Nodup) (hy : X.N[i]? = some y) (hyl : X.env.scope.names.lookup y = some .local)
    (hsw : swapsWith (.ListComp elt [⟨tg, iter, ifs, 0⟩] scope pos) (some (.Name y py)) spos.line X.env = pure true) (hi : GI cl X tg iter mi) (ok : BlkOk X.N X.env.scope scope own) (cg : CG ⟨X.K, cl, X.w⟩ (own.map (·.2)) t g)
    (hg : ∀ (s : Shared) (H : Hp) (C : Addr) (c2 : List (Str × Addr)) (fp : List Addr), PG (X.blk s H scope (compEnvC scope c2 C X.env) fp) tg t)
    (ht : ∀ (s : Shared) (H : Hp) (C : Addr) (c2 : List (Str × Addr)) (fp : List Addr), GTs cl (X.blk s H scope (compEnvC scope c2 C X.env) fp) ifs c)
    (he : ∀ (s : Shared) (H : Hp) (C : Addr) (c2 : List (Str × Addr)) (fp : List Addr), GE cl (X.blk s H scope (compEnvC scope c2 C X.env) fp) elt m) (hs : ∀ x, foldedSetIterable iter X.env x = pure x := by intro _; rfl) :
    GS cl X (.Assign [.Name y py] (.ListComp elt [⟨tg, iter, ifs, 0⟩] scope pos) spos) (sSet (mComp mi g c m (own.map (·.2))) (gName i)) :=
  (ps_setLc hc hN hy hyl hsw hi ok hg ht he hs).imp fun De σ H q => by
    obtain ⟨ρ, lo, M, o, R, L, e, k⟩ := q
    unfold sSet at e
    split at e
    · rename_i d M1 h1
      split at e
      · rename_i lo2 M2 h2
        cases e
        cases h2
        exact tLc_of (fun _ _ _ h => h) cg ⟨ρ, lo, M, d, _, R, L, h1, fun v H1 ρ1 g1 R1 r1 => k _ H1 ρ1 g1 R1 ((L.mono g1).set r1 i)⟩
      · cases e
    · cases e
end
end
end G

set_option Elab.async false
set_option linter.all false
set_option maxRecDepth 100000
namespace G
open PySem PySem.Spec L2
open PyProof.Rows (envOfC)

/-! ### equality of data, decided -/
mutual
def D.beq : D → D → Bool
  | .non, .non => true
  | .bl a, .bl b => a == b
  | .int a, .int b => decide (a = b)
  | .str a, .str b => decide (a = b)
  | .tup a, .tup b => D.beqs a b
  | .lst a, .lst b => D.beqs a b
  | .rol a, .rol b => D.beqs a b
  | .ref a, .ref b => a == b
  | .fn a, .fn b => decide (a = b)
  | _, _ => false
def D.beqs : List D → List D → Bool
  | [], [] => true
  | a :: as, b :: bs => D.beq a b && D.beqs as bs
  | _, _ => false
end
mutual
theorem D.beq_self : ∀ a : D, D.beq a a = true
  | .non => by rw [D.beq]
  | .bl a => by simp [D.beq]
  | .int a => by simp [D.beq]
  | .str a => by simp [D.beq]
  | .tup a => by rw [D.beq]; exact D.beqs_self a
  | .lst a => by rw [D.beq]; exact D.beqs_self a
  | .rol a => by rw [D.beq]; exact D.beqs_self a
  | .ref a => by simp [D.beq]
  | .fn a => by simp [D.beq]
theorem D.beqs_self : ∀ a : List D, D.beqs a a = true
  | [] => by rw [D.beqs]
  | a :: as => by rw [D.beqs, D.beq_self a, D.beqs_self as]; rfl
end
mutual
theorem D.eq_of_beq : ∀ a b : D, D.beq a b = true → a = b
  | .non, b, h => by cases b <;> simp [D.beq] at h ⊢
  | .bl a, b, h => by cases b <;> simp [D.beq] at h ⊢; exact h
  | .int a, b, h => by cases b <;> simp [D.beq] at h ⊢; exact h
  | .str a, b, h => by cases b <;> simp [D.beq] at h ⊢; exact h
  | .tup a, b, h => by cases b <;> simp [D.beq] at h ⊢; exact D.eq_of_beqs a _ h
  | .lst a, b, h => by cases b <;> simp [D.beq] at h ⊢; exact D.eq_of_beqs a _ h
  | .rol a, b, h => by cases b <;> simp [D.beq] at h ⊢; exact D.eq_of_beqs a _ h
  | .ref a, b, h => by cases b <;> simp [D.beq] at h ⊢; exact h
  | .fn a, b, h => by cases b <;> simp [D.beq] at h ⊢; exact h
theorem D.eq_of_beqs : ∀ a b : List D, D.beqs a b = true → a = b
  | [], b, h => by cases b <;> simp [D.beqs] at h ⊢
  | a :: as, b, h => by
    cases b with
    | nil => simp [D.beqs] at h
    | cons c cs =>
      rw [D.beqs, Bool.and_eq_true] at h
      rw [D.eq_of_beq a c h.1, D.eq_of_beqs as cs h.2]
end
def eqKV {κ : Type} [DecidableEq κ] : List (κ × D) → List (κ × D) → Bool
  | [], [] => true
  | (k, d) :: r, (l, e) :: s => decide (k = l) && D.beq d e && eqKV r s
  | _, _ => false
theorem eqKV_self {κ : Type} [DecidableEq κ] : ∀ a : List (κ × D), eqKV a a = true
  | [] => rfl
  | (k, d) :: r => by rw [eqKV, D.beq_self, eqKV_self r]; simp
theorem eq_of_eqKV {κ : Type} [DecidableEq κ] : ∀ a b : List (κ × D), eqKV a b = true → a = b
  | [], b, h => by cases b <;> simp [eqKV] at h ⊢
  | (k, d) :: r, b, h => by
    cases b with
    | nil => simp [eqKV] at h
    | cons c s =>
      obtain ⟨l, e⟩ := c
      rw [eqKV, Bool.and_eq_true, Bool.and_eq_true] at h
      rw [of_decide_eq_true h.1.1, D.eq_of_beq d e h.1.2, eq_of_eqKV r s h.2]
def MO.beq : MO → MO → Bool
  | .lst a, .lst b => D.beqs a b
  | .dct a, .dct b => eqKV a b
  | .ins c a, .ins d b => c == d && eqKV a b
  | .dcn a, .dcn b => D.beqs (a.map (·.1)) (b.map (·.1)) && D.beqs (a.map (·.2)) (b.map (·.2))
  | _, _ => false
theorem pairs_ext {α β : Type} : ∀ {a b : List (α × β)}, a.map (·.1) = b.map (·.1) → a.map (·.2) = b.map (·.2) → a = b
  | [], [], _, _ => rfl
  | [], _ :: _, h, _ => by cases h
  | _ :: _, [], h, _ => by cases h
  | (p, q) :: a, (r, s) :: b, h1, h2 => by
    simp only [List.map_cons, List.cons.injEq] at h1 h2
    rw [h1.1, h2.1, pairs_ext h1.2 h2.2]
theorem MO.beq_self : ∀ a : MO, MO.beq a a = true
  | .lst a => D.beqs_self a
  | .dct a => eqKV_self a
  | .ins c a => by rw [MO.beq, eqKV_self a]; simp
  | .dcn a => by rw [MO.beq, D.beqs_self, D.beqs_self]; rfl
theorem MO.eq_of_beq : ∀ a b : MO, MO.beq a b = true → a = b
  | .lst a, b, h => by cases b <;> simp [MO.beq] at h ⊢; exact D.eq_of_beqs a _ h
  | .dct a, b, h => by cases b <;> simp [MO.beq] at h ⊢; exact eq_of_eqKV a _ h
  | .ins c a, b, h => by cases b <;> simp [MO.beq] at h ⊢; exact ⟨h.1, eq_of_eqKV a _ h.2⟩
  | .dcn a, b, h => by
    cases b with
    | dcn b =>
      rw [MO.beq, Bool.and_eq_true] at h
      rw [pairs_ext (D.eq_of_beqs _ _ h.1) (D.eq_of_beqs _ _ h.2)]
    | _ => simp [MO.beq] at h

/-! ### what speaks of the first n things of the store alone -/
mutual
def D.closed (n : Nat) : D → Bool
  | .tup ds => D.closeds n ds
  | .lst ds => D.closeds n ds
  | .rol ds => D.closeds n ds
  | .ref k => decide (k < n)
  | _ => true
def D.closeds (n : Nat) : List D → Bool
  | [] => true
  | d :: ds => D.closed n d && D.closeds n ds
end
def MO.closed (n : Nat) : MO → Bool
  | .lst ds => D.closeds n ds
  | .dct kvs => D.closeds n (kvs.map (·.2))
  | .ins _ fs => D.closeds n (fs.map (·.2))
  | .dcn kvs => D.closeds n (kvs.map (·.1)) && D.closeds n (kvs.map (·.2))
section
variable {K : PySem.W.Frag} {H : Hp} {ρ ρ' : Rh}
mutual
theorem DR.closed_of : ∀ {v : V} {d : D}, DR K H ρ v d → d.closed ρ.m.length = true
  | _, .non, .non => by rw [D.closed] <;> intros <;> contradiction
  | _, .bl b, .bl _ => by rw [D.closed] <;> intros <;> contradiction
  | _, .int i, .int _ => by rw [D.closed] <;> intros <;> contradiction
  | _, .str x, .str _ => by rw [D.closed] <;> intros <;> contradiction
  | _, .tup ds, .tup _ hs => by rw [D.closed]; exact DRs.closed_of hs
  | _, .lst ds, .lst _ hs => by rw [D.closed]; exact DRs.closed_of hs
  | _, .rol ds, .rol _ hs => by rw [D.closed]; exact DRs.closed_of hs
  | _, .ref n, .ref h => by rw [D.closed]; exact decide_eq_true (List.getElem?_eq_some_iff.mp h).1
  | _, .fn x, .fn _ => by rw [D.closed] <;> intros <;> contradiction
theorem DRs.closed_of : ∀ {vs : List V} {ds : List D}, DRs K H ρ vs ds → D.closeds ρ.m.length ds = true
  | _, [], .nil => by rw [D.closeds]
  | _, _ :: _, .cons h hs => by rw [D.closeds, DR.closed_of h, DRs.closed_of hs]; rfl
end
mutual
/-- the store cut -/
theorem DR.cutR (hm : ρ'.m = ρ.m.take ρ'.m.length) (hv : ∀ a, a ∉ ρ → a ∉ ρ') : ∀ {v : V} {d : D}, DR K H ρ v d → d.closed ρ'.m.length = true → DR K H ρ' v d
  | _, .non, .non, _ => .non
  | _, .bl b, .bl _, _ => .bl b
  | _, .int i, .int _, _ => .int i
  | _, .str x, .str _, _ => .str x
  | _, .tup ds, .tup h hs, e => .tup (h.elim (fun ⟨e, n⟩ => .inl ⟨e, hv _ n⟩) .inr) (DRs.cutR hm hv hs (by rw [D.closed] at e; exact e))
  | _, .lst ds, .lst ⟨e, n⟩ hs, c => .lst ⟨e, hv _ n⟩ (DRs.cutR hm hv hs (by rw [D.closed] at c; exact c))
  | _, .rol ds, .rol h hs, c => .rol (h.elim (fun ⟨o, e, n⟩ => .inl ⟨o, e, hv _ n⟩) .inr) (DRs.cutR hm hv hs (by rw [D.closed] at c; exact c))
  | _, .fn x, .fn _, _ => .fn x
  | _, .ref n, .ref h, c => .ref (by
    rw [D.closed] at c
    have c := of_decide_eq_true c
    rw [hm, List.getElem?_take_of_lt c]
    exact h)
theorem DRs.cutR (hm : ρ'.m = ρ.m.take ρ'.m.length) (hv : ∀ a, a ∉ ρ → a ∉ ρ') : ∀ {vs : List V} {ds : List D}, DRs K H ρ vs ds → D.closeds ρ'.m.length ds = true → DRs K H ρ' vs ds
  | _, [], .nil, _ => .nil
  | _, _ :: _, .cons h hs, c => by
    rw [D.closeds, Bool.and_eq_true] at c
    exact .cons (DR.cutR hm hv h c.1) (DRs.cutR hm hv hs c.2)
end
theorem MR.closed_of {W : Wd} {a : Addr} {o : MO} (h : MR W H ρ a o) : o.closed ρ.m.length = true := by
  cases o with
  | lst ds => obtain ⟨xs, _, h2⟩ := h; exact h2.closed_of
  | dct kvs => obtain ⟨vs, _, ⟨_, h2⟩, _⟩ := h; exact h2.closed_of
  | ins c fs => obtain ⟨dx, vs, _, _, h2⟩ := h; exact h2.closed_of
  | dcn kvs => obtain ⟨xs, _, _, h2⟩ := h; obtain ⟨vs, h3, _⟩ := h2.vals; rw [MO.closed, h2.keys.closed_of, h3.closed_of]; rfl
theorem MR.cutR {W : Wd} (hm : ρ'.m = ρ.m.take ρ'.m.length) (hv : ∀ a, a ∉ ρ → a ∉ ρ') {a : Addr} {o : MO} (h : MR W H ρ a o) (c : o.closed ρ'.m.length = true) : MR W H ρ' a o := by
  cases o with
  | lst ds => obtain ⟨xs, h1, h2⟩ := h; exact ⟨xs, h1, h2.cutR hm hv c⟩
  | dct kvs => obtain ⟨vs, h1, ⟨h2, h3⟩, h4⟩ := h; exact ⟨vs, h1, ⟨h2, h3.cutR hm hv c⟩, h4⟩
  | ins c' fs => obtain ⟨dx, vs, h1, h2, h3⟩ := h; exact ⟨dx, vs, h1, h2, h3.cutR hm hv c⟩
  | dcn kvs =>
    obtain ⟨xs, h1, h2, h3⟩ := h
    rw [MO.closed, Bool.and_eq_true] at c
    exact ⟨xs, h1, h2, h3.nk, h3.ok, h3.nd, h3.keys.cutR hm hv c.1, let ⟨vs, h4, h5⟩ := h3.vals; ⟨vs, h4.cutR hm hv c.2, h5⟩⟩
end
/-- the first things of the store are as they were, or speak of these alone -/
def okT (n : Nat) : Mo → Mo → Bool
  | [], _ => true
  | m :: M, m' :: M' => (MO.beq m m' || m'.closed n) && okT n M M'
  | _ :: _, [] => false
theorem okT_get {n : Nat} : ∀ {M M' : Mo} {i : Nat} {m m' : MO}, okT n M M' = true → M[i]? = some m → M'[i]? = some m' → m = m' ∨ m'.closed n = true
  | [], _, i, _, _, _, e, _ => by simp at e
  | _ :: _, [], _, _, _, h, _, _ => by simp [okT] at h
  | a :: M, b :: M', 0, m, m', h, e1, e2 => by
    simp at e1 e2
    subst e1; subst e2
    rw [okT, Bool.and_eq_true, Bool.or_eq_true] at h
    exact h.1.imp (MO.eq_of_beq _ _) id
  | a :: M, b :: M', i + 1, m, m', h, e1, e2 => by
    rw [okT, Bool.and_eq_true] at h
    exact okT_get (i := i) h.2 (by simpa using e1) (by simpa using e2)
theorem okT_self (n : Nat) : ∀ (M E : Mo), okT n M (M ++ E) = true
  | [], _ => by rw [List.nil_append, okT]
  | m :: M, E => by rw [List.cons_append, okT, MO.beq_self, okT_self n M E]; rfl
/-- what is handed back, and the store without what the def alone has made -/
def exitF (M : Mo) (d : D) (M' : Mo) : D × Mo :=
  if M'.length ≤ M.length then (d, M')
  else if okT M.length M M' = true then
    if d.closed M.length = true then (d, M'.take M.length)
    else match d with
      | .ref k => match M'[k]? with
        | some (.lst ds) => if D.closeds M.length ds = true then (.lst ds, M'.take M.length) else (d, M')
        | _ => (d, M')
      | _ => (d, M')
  else (d, M')
theorem exit_ok {W : Wd} {H H' : Hp} {ρ ρ1 : Rh} {M M' : Mo} {v : V} {d : D} (R : Rep W H ρ M) (g : Gr H ρ H' ρ1) (R' : Rep W H' ρ1 M') (r : DR W.K H' ρ1 v d) :
    ∃ ρ2, Gr H ρ H' ρ2 ∧ Rep W H' ρ2 (exitF M d M').2 ∧ DR W.K H' ρ2 v (exitF M d M').1 := by
  have keep : ∃ ρ2, Gr H ρ H' ρ2 ∧ Rep W H' ρ2 (d, M').2 ∧ DR W.K H' ρ2 v (d, M').1 := ⟨ρ1, g, R', r⟩
  have hlen := R.len
  have hm : ρ.m = ρ1.m.take ρ.m.length := by
    obtain ⟨t, ht⟩ := g.pre
    rw [← ht, List.take_left]
  have hv : ∀ a, a ∉ ρ1 → a ∉ ρ := fun a n z => z.elim (fun z => n (.inl (g.pre.subset z))) fun z => n (.inr (by rw [g.vol]; exact z))
  have g0 : Gr H ρ H' ρ := ⟨List.prefix_refl _, fun a o h n => ⟨(g.keep a o h n).1, n⟩, rfl, g.hid⟩
  have cut : okT M.length M M' = true → ¬ M'.length ≤ M.length → Rep W H' ρ (M'.take M.length) := fun hk hl => by
    refine ⟨R.nd, by rw [List.length_take, R.len]; omega, fun a ha => ?_, fun i a o h1 h2 => ?_⟩
    · obtain ⟨h1, h2⟩ := R'.hid a (by rw [g.vol]; exact ha)
      exact ⟨h1, fun z => h2 (g.pre.subset z)⟩
    · have hi : i < M.length := by rw [← R.len]; exact (List.getElem?_eq_some_iff.mp h1).1
      rw [List.getElem?_take_of_lt hi] at h2
      have h3 := R'.mem i a o (getElem?_pre g.pre h1) h2
      have h4 := R.mem i a M[i] h1 (List.getElem?_eq_getElem hi)
      refine h3.cutR hm hv ?_
      rcases okT_get hk (List.getElem?_eq_getElem hi) h2 with z | z
      · rw [← z]; exact h4.closed_of
      · rw [R.len]; exact z
  unfold exitF
  split
  · exact keep
  · rename_i hl
    split
    · rename_i hk
      split
      · rename_i hc
        exact ⟨ρ, g0, cut hk hl, r.cutR hm hv (by rw [R.len]; exact hc)⟩
      · rename_i hc
        split
        · rename_i k
          split
          · rename_i ds he
            split
            · rename_i hcs
              refine ⟨ρ, g0, cut hk hl, ?_⟩
              cases r with
              | ref hr =>
                rename_i a
                obtain ⟨xs, h1, h2⟩ := R'.at_ hr he
                refine .lst ⟨h1, fun z => z.elim (fun z => ?_) fun z => ?_⟩ (h2.cutR hm hv (by rw [R.len]; exact hcs))
                · obtain ⟨j, hj, e⟩ := List.getElem_of_mem z
                  have hj1 : ρ.m[j]? = some a := by rw [List.getElem?_eq_getElem hj, e]
                  have e2 := nodup_ix R'.nd (getElem?_pre g.pre hj1) hr
                  subst e2
                  exact hc (by rw [D.closed, ← R.len]; exact decide_eq_true hj)
                · exact (R'.hid a (by rw [g.vol]; exact z)).2 (List.mem_of_getElem? hr)
            · exact keep
          · exact keep
        · exact keep
    · exact keep

/-! ### defs and their calls -/
def spG (cl : Nat → Addr) (K : PySem.W.Frag) (w : World) (np : Nat) (f : F1) : Sp := fun vs H Q _ => vs.length = np ∧ rM ⟨K, cl, w⟩ f vs H Q
/-- a def: nl names, its body -/
def fnF (nl : Nat) (body : MS) : F1 := fun ds M => match body (ds.map some ++ List.replicate (nl - ds.length) none) M with
  | some (.rt d M') => some (exitF M d M')
  | some (.nx _ M') => some (exitF M .non M')
  | _ => none
section
variable {P : Program} {w : World} {K : PySem.W.Frag} {mg : Str → Option Value} {base : Heap} {x qual : Str} {params : Arguments} {body : List Stmt} {scope : Scope} {f : Addr} {fd : FuncData} {cl : Nat → Addr}
/-- a def keeps its promise -/
theorem fn_ok {N ps : List Str} {k : Nat} {m : MS} (F : FunD K x qual params body scope [] [] f fd) (S : FnScope N ps scope)
    (hb : ∀ (cdv : Value) (A : Around) (outer : List Env) (s : Shared) (H : Hp) (E : XK), Room k (A.deeper (envOfC qual scope s.heap.objs.size f cdv)) → GB cl (cxOf CX0 P w K mg base N qual scope f cdv A outer s H E).nox body m) :
    FnOk P w K mg base CX0 (k + 1) f fd ps (spG cl K w ps.length (fnF N.length m)) := by
  refine F.ok S (fun vs H Q E h => h.1) (fun cdv A outer s H vs Q E hr h => ⟨tS ⟨K, cl, w⟩ m, PSs.nox (hb cdv A outer s H E hr), ?_⟩)
  obtain ⟨hl, ρ, M, ds, d, M', R, r, e, k⟩ := h
  unfold fnF at e
  split at e
  · rename_i d1 M1 h1
    have e := Option.some.inj e
    refine ⟨ρ, _, M, _, R, .start N r, h1, fun v H' ρ' g R' r' => ?_⟩
    obtain ⟨ρ2, g2, R2, r2⟩ := exit_ok R g R' r'
    rw [e] at R2 r2
    exact k v H' ρ2 g2 R2 r2
  · rename_i lo1 M1 h1
    have e := Option.some.inj e
    refine ⟨ρ, _, M, _, R, .start N r, h1, fun σ' H' ρ' g R' _ => ?_⟩
    obtain ⟨ρ2, g2, R2, r2⟩ := exit_ok (v := .non) (d := .non) R g R' .non
    rw [e] at R2 r2
    exact k .non H' ρ2 g2 R2 r2
  · cases e
/-- a def that nothing is promised of -/
theorem fn_zero {ps : List Str} {k : Nat} : FnOk P w K mg base CX0 k f fd ps (spG cl K w ps.length fun _ _ => none) :=
  ⟨fun vs H Q E h => h.1, fun A outer s H args us vs Q E hr he hb hv h => by
    obtain ⟨_, ρ, M, ds, d, M', R, r, e, k⟩ := h
    cases e⟩
end
/-- what a call of the module's def x with np arguments comes to -/
structure Fnd (P : Program) (w : World) (K : PySem.W.Frag) (mg : Str → Option Value) (base : Heap) (A : Around) (cl : Nat → Addr) (x : Str) (np : Nat) (f : F1) : Prop where
  ex : ∃ (k : Nat) (a : Addr) (fd : FuncData) (ps : List Str), ps.length = np ∧ FnOk P w K mg base CX0 k a fd ps (spG cl K w np f) ∧ Room (k + 1) A ∧ mg x = some (.ref a) ∧ PySem.W.keepIn K (.ref a) = true ∧ Binds K fd ps [] ∧ a = He.ga K x
/-- a method m of the class c -/
structure Mtd (P : Program) (w : World) (K : PySem.W.Frag) (mg : Str → Option Value) (base : Heap) (A : Around) (cl : Nat → Addr) (c : Nat) (m : Str) (np : Nat) (f : F1) : Prop where
  ex : ∃ (k : Nat) (a : Addr) (fd : FuncData) (ps : List Str), ps.length = np ∧ FnOk P w K mg base CX0 k a fd ps (spG cl K w np f) ∧ Room (k + 1) A ∧ Cls K (cl c) ∧ Meth K (cl c) m a ∧ Binds K fd ps []
/-- the making of an instance of the class c -/
structure Mkd (P : Program) (w : World) (K : PySem.W.Frag) (mg : Str → Option Value) (base : Heap) (A : Around) (cl : Nat → Addr) (x : Str) (c : Nat) (np : Nat) (f : F1) : Prop where
  ex : ∃ (k : Nat) (a : Addr) (fd : FuncData) (ps : List Str), ps.length = np ∧ FnOk P w K mg base CX0 k a fd ps (spG cl K w np f) ∧ Room (k + 1) A ∧ mg x = some (.ref (cl c)) ∧ Mk K (cl c) a ∧ Binds K fd ps []
section
variable {X : Cx} {cl : Nat → Addr} {pos : Pos} {x : Str} {p : Pos} {a : Expr} {es : List Expr} {ms : MA} {f : F1} {np : Nat}
/-- the arguments, as many as there must be -/
def mCallN (np : Nat) (f : F1) (ms : MA) : ME := fun lo M => match ms lo M with
  | some (ds, M1) => if ds.length = np then f ds M1 else none
  | none => none
theorem tCall_of {σ : L2.St} {H : Hp} {Q : VK} {E : XK} {K : PySem.W.Frag} {w : World} (q : tM ⟨K, cl, w⟩ (mCallN np f ms) σ H Q) : tCall (spG cl K w np f) [] E (tMs ⟨K, cl, w⟩ ms) σ H Q := by
  obtain ⟨ρ, lo, M, d, M', R, L, e, k⟩ := q
  unfold mCallN at e
  split at e
  · rename_i ds M1 h1
    split at e
    · rename_i hl
      refine ⟨ρ, lo, M, ds, M1, R, L, h1, fun vs H1 ρ1 g1 R1 r1 => ?_⟩
      show spG cl K w np f (vs ++ []) H1 Q E
      rw [List.append_nil]
      exact ⟨by rw [r1.length]; exact hl, ρ1, M1, ds, d, M', R1, r1, e, fun v H2 ρ2 g2 R2 rr => k v H2 ρ2 (g1.trans g2) R2 rr⟩
    · cases e
  · cases e
theorem ge_call (C : Fnd X.prog X.w X.K X.mg X.base X.A cl x np f) (hg : Gl X x) (ha : GA cl X (a :: es) ms) (hdb : (x == ("__debug__" : Str)) = false := by decide) (he : starEach (a :: es) X.env = (false, eval a X.env) :: starEach es X.env := by rfl) (hpl : (backTo pos (starEach es X.env)).any (·.1) = false := by rfl) :
    GE cl X (.Call (.Name x p) (a :: es) [] pos) (mCallN np f ms) := by
  obtain ⟨k, ad, fd, ps, rfl, F, hr, hm, hk, hb, _⟩ := C.ex
  exact (pe_call F (hr.mono (Nat.le_succ _)) hg hm hk hb .nil pass0 ha hdb he hpl).imp fun _ _ _ q => tCall_of q
theorem ge_call0 (C : Fnd X.prog X.w X.K X.mg X.base X.A cl x np f) (hg : Gl X x) (hdb : (x == ("__debug__" : Str)) = false := by decide) :
    GE cl X (.Call (.Name x p) [] [] pos) (mCallN np f mNil) := by
  obtain ⟨k, ad, fd, ps, rfl, F, hr, hm, hk, hb, _⟩ := C.ex
  refine (pe_call0 F (hr.mono (Nat.le_succ _)) hg hm hk hb .nil pass0 hdb).imp fun σ H Q q => ?_
  obtain ⟨ρ, lo, M, ds, M', R, L, e, k⟩ := tCall_of (E := E0) q
  cases e
  exact k [] H ρ (.refl _ _) R .nil
/-- C(args) -/
def mMake (c np : Nat) (f : F1) (ms : MA) : ME := fun lo M => match ms lo M with
  | some (ds, M1) => if ds.length + 1 = np then (match f (.ref M1.length :: ds) (M1 ++ [.ins c []]) with
    | some (.non, M2) => some (.ref M1.length, M2)
    | _ => none) else none
  | none => none
theorem tMake_of {c : Nat} {σ : L2.St} {H : Hp} {Q : VK} {E : XK} {K : PySem.W.Frag} {w : World} (q : tM ⟨K, cl, w⟩ (mMake c np f ms) σ H Q) : tMake (cl c) (spG cl K w np f) [] E (tMs ⟨K, cl, w⟩ ms) σ H Q := by
  obtain ⟨ρ, lo, M, d, M', R, L, e, k⟩ := q
  unfold mMake at e
  split at e
  · rename_i ds M1 h1
    split at e
    · rename_i hl
      split at e
      · rename_i M2 h2
        cases e
        refine ⟨ρ, lo, M, ds, M1, R, L, h1, fun vs H1 ρ1 g1 R1 r1 y dx ny ndx hne => ?_⟩
        show spG cl K w np f (.ref y :: (vs ++ [])) _ _ E
        rw [List.append_nil]
        have gd : Gr H1 ρ1 (upd H1 dx (.own y)) ρ1 := .new ndx
        have ny2 : upd H1 dx (.own y) y = none := by rw [upd_ne hne.symm]; exact ny
        have gy : Gr (upd H1 dx (.own y)) ρ1 (upd (upd H1 dx (.own y)) y (.ins (cl c) dx [])) (ρ1.push y) := .push ny2
        have Ry : Rep ⟨K, cl, w⟩ (upd (upd H1 dx (.own y)) y (.ins (cl c) dx [])) (ρ1.push y) (M1 ++ [.ins c []]) := (R1.new ndx).push ny2 ⟨dx, [], upd_same, rfl, .nil⟩
        have g12 := gd.trans gy
        have ry : DR K (upd (upd H1 dx (.own y)) y (.ins (cl c) dx [])) (ρ1.push y) (.ref y) (.ref M1.length) := .ref (by
          show (ρ1.m ++ [y])[M1.length]? = some y
          rw [← R1.len, List.getElem?_append_right (Nat.le_refl _), Nat.sub_self]
          rfl)
        refine ⟨by rw [List.length_cons, r1.length]; exact hl, ρ1.push y, _, _, _, _, Ry, .cons ry (r1.mono g12), h2, fun v H2 ρ2 g2 R2 rr => ?_⟩
        cases rr
        exact ⟨rfl, k _ H2 ρ2 ((g1.trans g12).trans g2) R2 (ry.mono g2)⟩
      · cases e
    · cases e
  · cases e
theorem ge_make {c : Nat} (C : Mkd X.prog X.w X.K X.mg X.base X.A cl x c np f) (hg : Gl X x) (ha : GA cl X (a :: es) ms) (hdb : (x == ("__debug__" : Str)) = false := by decide) (he : starEach (a :: es) X.env = (false, eval a X.env) :: starEach es X.env := by rfl) (hpl : (backTo pos (starEach es X.env)).any (·.1) = false := by rfl) :
    GE cl X (.Call (.Name x p) (a :: es) [] pos) (mMake c np f ms) := by
  obtain ⟨k, ad, fd, ps, rfl, F, hr, hm, M, hb⟩ := C.ex
  exact (pe_make M F hr hg hm hb .nil pass0 ha hdb he hpl).imp fun _ _ _ q => tMake_of q
theorem ge_make0 {c : Nat} (C : Mkd X.prog X.w X.K X.mg X.base X.A cl x c np f) (hg : Gl X x) (hdb : (x == ("__debug__" : Str)) = false := by decide) :
    GE cl X (.Call (.Name x p) [] [] pos) (mMake c np f mNil) := by
  obtain ⟨k, ad, fd, ps, rfl, F, hr, hm, M, hb⟩ := C.ex
  refine (pe_make0 M F hr hg hm hb .nil pass0 hdb).imp fun σ H Q q => ?_
  obtain ⟨ρ, lo, M, ds, M', R, L, e, k⟩ := tMake_of (E := E0) q
  cases e
  exact k [] H ρ (.refl _ _) R .nil
/-- o.m(args), o an instance of the class c -/
def mMethO (c : Nat) (m : Str) (np : Nat) (f : F1) (mo : ME) (ms : MA) : ME := fun lo M => match mo lo M with
  | some (.ref n, M1) => match M1[n]? with
    | some (.ins c' fs) => if c' = c ∧ fs.lookup m = none then (match ms lo M1 with
      | some (ds, M2) => if ds.length + 1 = np then f (.ref n :: ds) M2 else none
      | none => none) else none
    | _ => none
  | _ => none
theorem lookup_flds {K : PySem.W.Frag} {H : Hp} {ρ : Rh} : ∀ {vs : List (Str × V)} {fs : List (Str × D)} {g : Str}, Flds K H ρ vs fs → (fs.lookup g = none → vs.lookup g = none) ∧ ∀ d, fs.lookup g = some d → ∃ v, vs.lookup g = some v ∧ DR K H ρ v d
  | [], [], g, _ => ⟨fun _ => rfl, fun d e => by cases e⟩
  | [], _ :: _, g, h => by cases h.1
  | _ :: _, [], g, h => by cases h.1
  | (k, v) :: vs, (l, d) :: fs, g, h => by
    obtain ⟨h1, h2⟩ := h
    simp only [List.map_cons, List.cons.injEq] at h1
    obtain ⟨rfl, h1⟩ := h1
    rw [List.map_cons, List.map_cons] at h2
    cases h2 with
    | cons r rr =>
      have ih := lookup_flds (g := g) (vs := vs) (fs := fs) ⟨h1, rr⟩
      rw [List.lookup_cons, List.lookup_cons]
      cases hq : (g == k) with
      | true => exact ⟨fun e => by simp at e, fun d' e => by simp at e; subst e; exact ⟨v, rfl, r⟩⟩
      | false => exact ih
theorem refI {W : Wd} {H : Hp} {ρ : Rh} {M : Mo} {n : Nat} {v : V} {c : Nat} {fs : List (Str × D)} (R : Rep W H ρ M) (r : DR W.K H ρ v (.ref n)) (e : M[n]? = some (.ins c fs)) : ∃ q dx vs, v = .ref q ∧ ρ.m[n]? = some q ∧ H q = some (.ins (W.cl c) dx vs) ∧ Flds W.K H ρ vs fs := by
  cases r with
  | ref h =>
    obtain ⟨dx, vs, h1, h2⟩ := R.at_ h e
    exact ⟨_, dx, vs, rfl, h, h1, h2⟩
theorem tMeth_of {c : Nat} {m : Str} {mo : ME} {σ : L2.St} {H : Hp} {Q : VK} {E : XK} {K : PySem.W.Frag} {w : World} (q : tM ⟨K, cl, w⟩ (mMethO c m np f mo ms) σ H Q) : tMeth (cl c) m (spG cl K w np f) [] E (tM ⟨K, cl, w⟩ mo) (tMs ⟨K, cl, w⟩ ms) σ H Q := by
  obtain ⟨ρ, lo, M, d, M', R, L, e, k⟩ := q
  unfold mMethO at e
  split at e
  · rename_i n M1 h1
    split at e
    · rename_i c' fs hm
      split at e
      · rename_i hc
        obtain ⟨rfl, hf⟩ := hc
        split at e
        · rename_i ds M2 h2
          split at e
          · rename_i hl
            refine ⟨ρ, lo, M, _, M1, R, L, h1, fun v H1 ρ1 g1 R1 r1 => ?_⟩
            obtain ⟨q', dx, vs, rfl, hp, hH, hfl⟩ := refI R1 r1 hm
            refine ⟨q', dx, vs, rfl, hH, (lookup_flds hfl).1 hf, ρ1, lo, M1, ds, M2, R1, L.mono g1, h2, fun us H2 ρ2 g2 R2 r2 => ?_⟩
            show spG cl K w np f (.ref q' :: (us ++ [])) H2 Q E
            rw [List.append_nil]
            exact ⟨by rw [List.length_cons, r2.length]; exact hl, ρ2, M2, _, d, M', R2, .cons (r1.mono g2) r2, e, fun v H3 ρ3 g3 R3 rr => k v H3 ρ3 ((g1.trans g2).trans g3) R3 rr⟩
          · cases e
        · cases e
      · cases e
    · cases e
  · cases e
section
variable {o : Expr} {mo : ME} {m : Str} {apos : Pos} {c : Nat} {pl : Sem Bool}
theorem ge_meth (C : Mtd X.prog X.w X.K X.mg X.base X.A cl c m np f) (ho : GE cl X o mo) (ha : GA cl X (a :: es) ms)
    (hst : starEach (a :: es) X.env = (false, eval a X.env) :: starEach es X.env := by rfl) (hpl : (backTo pos (starEach es X.env)).any (·.1) = false := by rfl)
    (ht : eval (.Call (.Attribute o m apos) (a :: es) [] pos) X.env = (do
      let u ← eval o X.env
      standAt apos.atName
      let (q, z) ← holding [u] (getMethod u m pl)
      callWith pos q z (backTo pos (starEach (a :: es) X.env)) (backToKw pos (keywordEach [] X.env))) := by rfl) :
    GE cl X (.Call (.Attribute o m apos) (a :: es) [] pos) (mMethO c m np f mo ms) := by
  obtain ⟨k, ad, fd, ps, rfl, F, hr, hc, hm, hb⟩ := C.ex
  exact (pe_meth ho hc hm F (hr.mono (Nat.le_succ _)) hb .nil pass0 ha hst hpl ht).imp fun _ _ _ q => tMeth_of q
/-- o.f, o an instance of the class c -/
def mFld (c : Nat) (mo : ME) (g : Str) : ME := fun lo M => match mo lo M with
  | some (.ref n, M1) => match M1[n]? with
    | some (.ins c' fs) => if c' = c then (match fs.lookup g with
      | some d => some (d, M1)
      | none => none) else none
    | _ => none
  | _ => none
theorem ge_fld {g : Str} (hc : Cls X.K (cl c)) (hn : NoAttr X.K (cl c) g) (ho : GE cl X o mo) (hb : attributeBase o g X.env (eval o X.env) = eval o X.env := by rfl) : GE cl X (.Attribute o g pos) (mFld c mo g) :=
  (pe_fld ho hb).imp fun σ H Q q => by
    obtain ⟨ρ, lo, M, d, M', R, L, e, k⟩ := q
    unfold mFld at e
    split at e
    · rename_i n M1 h1
      split at e
      · rename_i c' fs hm
        split at e
        · rename_i hcc
          subst hcc
          split at e
          · rename_i d1 hf
            cases e
            refine ⟨ρ, lo, M, _, _, R, L, h1, fun v H1 ρ1 g1 R1 r1 => ?_⟩
            obtain ⟨q', dx, vs, rfl, hp, hH, hfl⟩ := refI R1 r1 hm
            obtain ⟨v', hv', rv'⟩ := (lookup_flds hfl).2 _ hf
            exact ⟨q', cl c', dx, vs, v', rfl, hH, hc, hn, hv', k v' H1 ρ1 g1 R1 rv'⟩
          · cases e
        · cases e
      · cases e
    · cases e
def putD (f : Str) (v : D) : List (Str × D) → List (Str × D)
  | [] => [(f, v)]
  | (g, x) :: r => if g = f then (g, v) :: r else (g, x) :: putD f v r
theorem flds_put {K : PySem.W.Frag} {H : Hp} {ρ : Rh} {g : Str} {v : V} {d : D} (r : DR K H ρ v d) : ∀ {vs : List (Str × V)} {fs : List (Str × D)}, Flds K H ρ vs fs → Flds K H ρ (putF g v vs) (putD g d fs)
  | [], [], _ => ⟨rfl, .cons r .nil⟩
  | [], _ :: _, h => by cases h.1
  | _ :: _, [], h => by cases h.1
  | (k, u) :: vs, (l, e) :: fs, h => by
    obtain ⟨h1, h2⟩ := h
    simp only [List.map_cons, List.cons.injEq] at h1
    obtain ⟨rfl, h1⟩ := h1
    rw [List.map_cons, List.map_cons] at h2
    cases h2 with
    | cons r1 rr =>
      have ih := flds_put (g := g) r (vs := vs) (fs := fs) ⟨h1, rr⟩
      unfold putF putD
      by_cases hq : k = g
      · rw [if_pos hq, if_pos hq]
        exact ⟨by simp [h1], .cons r rr⟩
      · rw [if_neg hq, if_neg hq]
        exact ⟨by simp [ih.1], .cons r1 ih.2⟩
/-- o.f = value -/
def sFldM (c : Nat) (mo mv : ME) (g : Str) : MS := fun lo M => match mv lo M with
  | some (d, M1) => match mo lo M1 with
    | some (.ref n, M2) => match M2[n]? with
      | some (.ins c' fs) => if c' = c ∧ fs.length < 1000 then some (.nx lo (M2.set n (.ins c (putD g d fs)))) else none
      | _ => none
    | _ => none
  | none => none
theorem gs_fld {g : Str} {value : Expr} {mv : ME} {pos' : Pos} (hc : Cls X.K (cl c)) (hn : NoAttr X.K (cl c) g) (ho : GE cl X o mo) (hv : GE cl X value mv) (hs : swapsWith value (some (.Attribute o g pos')) pos.line X.env = pure false := by rfl) :
    GS cl X (.Assign [.Attribute o g pos'] value pos) (sFldM c mo mv g) :=
  (ps_fld ho hv hs).imp fun De σ H q => by
    obtain ⟨ρ, lo, M, o', R, L, e, k⟩ := q
    unfold sFldM at e
    split at e
    · rename_i d M1 h1
      split at e
      · rename_i n M2 h2
        split at e
        · rename_i c' fs hm
          split at e
          · rename_i hcc
            obtain ⟨rfl, hl⟩ := hcc
            cases e
            refine ⟨ρ, lo, M, d, M1, R, L, h1, fun v H1 ρ1 g1 R1 r1 => ?_⟩
            refine ⟨ρ1, lo, M1, _, M2, R1, L.mono g1, h2, fun ov H2 ρ2 g2 R2 r2 => ?_⟩
            obtain ⟨q', dx, vs, rfl, hp, hH, hfl⟩ := refI R2 r2 hm
            have g3 : Gr H2 ρ2 (upd H2 q' (.ins (cl c') dx (putF g v vs))) ρ2 := .put R2 (List.mem_of_getElem? hp)
            have hlen : vs.length = fs.length := by have := congrArg List.length hfl.1; simpa using this
            have hfl2 := flds_put (g := g) (r1.mono g2) hfl
            refine ⟨q', cl c', dx, vs, rfl, hH, hc, hn, by rw [hlen]; exact hl, ?_⟩
            exact k σ _ ρ2 ((g1.trans g2).trans g3) (R2.put hp ⟨dx, _, upd_same, hfl2.1, hfl2.2.mono g3⟩) (((L.mono g1).mono g2).mono g3)
          · cases e
        · cases e
      · cases e
    · cases e
end
end
end G

set_option Elab.async false
set_option linter.all false
set_option maxRecDepth 100000
namespace G
open PySem PySem.Spec L2

/-! ### zip of tuples and lists in any mix -/
def Sq (t : Bool) (K : PySem.W.Frag) (H : Hp) (a : Addr) (xs : List V) : Prop := match t with | true => SqT K H a xs | false => SqL K H a xs
def IsIt (t : Bool) (h : Heap) (i a : Addr) (k : Nat) : Prop := match t with | true => h.IsTupleIter i a k | false => h.IsListIter i a k
def IsSq (t : Bool) (h : Heap) (a : Addr) (items : Array Value) : Prop := match t with | true => h.IsTuple a items | false => h.IsList a items
def itObj (t : Bool) (a : Addr) : Obj := match t with
  | true => { cls := .type "tuple_iterator", data := .fields #[.ref a, .int 0 0] }
  | false => { cls := .type "list_iterator", data := .fields #[.ref a, .int 0 0] }
theorem Sq.inv {X : Cx} {pins : List (Addr × Obj)} {σ : L2.St} {H : Hp} {s : Shared} {t : Bool} {a : Addr} {xs : List V} (I : Inv X pins σ H s) (h : Sq t X.K H a xs) : ∃ its : List Value, Vals xs its ∧ IsSq t s.heap a its.toArray := by
  cases t with
  | true =>
    obtain ⟨its, r, p, _⟩ := I.tuple h
    exact ⟨its, r, p⟩
  | false =>
    obtain ⟨its, r, p, _⟩ := I.list h
    exact ⟨its, r, p.isList⟩
theorem Sq.inj {X : Cx} {pins : List (Addr × Obj)} {σ : L2.St} {H : Hp} {s : Shared} {t : Bool} {a : Addr} {xs ys : List V} (I : Inv X pins σ H s) (h : Sq t X.K H a xs) (h' : Sq t X.K H a ys) : xs = ys := by
  cases t with
  | true => exact I.tuple_inj h h'
  | false => exact I.list_inj h h'
theorem drawsG {P : Program} {w : World} {A : Around} (hh : A.handled = none) (t : Bool) (i a : Addr) (hne : a ≠ i) (items : Array Value) :
    Draws P w A i [i, a] items.size (fun k v => items[k]? = some v) (fun k h => IsIt t h i a k ∧ IsSq t h a items) := by
  cases t with
  | true => exact Draws.tuple hh i a hne items
  | false => exact Draws.list hh i a hne items
theorem IsIt.live {t : Bool} {h : Heap} {i a : Addr} {k : Nat} (x : IsIt t h i a k) : ∃ o, h.get? i = some o ∧ ∀ v, o.data ≠ .cell v := by
  cases t with
  | true => obtain ⟨o, e, _, d⟩ := x; exact ⟨o, e, fun v q => by rw [d] at q; cases q⟩
  | false => obtain ⟨o, e, _, d⟩ := x; exact ⟨o, e, fun v q => by rw [d] at q; cases q⟩
theorem IsIt.stays {t : Bool} {h h' : Heap} {i a : Addr} {k : Nat} (x : IsIt t h i a k) (e : ∀ o, h.get? i = some o → h'.get? i = some o) : IsIt t h' i a k := by
  cases t with
  | true => exact Heap.IsTupleIter.at x e
  | false => exact Heap.IsListIter.at x e
def ItzG (K : PySem.W.Frag) (t1 t2 : Bool) (a b : Addr) : It :=
  ⟨fun i H => ∃ (xs ys : List V) (x y : V), Sq t1 K H a xs ∧ Sq t2 K H b ys ∧ xs[i]? = some x ∧ ys[i]? = some y,
    fun i H v H' => ∃ T x y, v = .ref T ∧ H T = none ∧ H' = upd H T (.tup [x, y]) ∧ (∀ xs, Sq t1 K H a xs → xs[i]? = some x) ∧ ∀ ys, Sq t2 K H b ys → ys[i]? = some y,
    fun i H => ∃ xs ys : List V, Sq t1 K H a xs ∧ Sq t2 K H b ys ∧ min xs.length ys.length = i⟩
theorem turn_zipG {P : Program} {w : World} {K : PySem.W.Frag} {elts : List Expr} {kk : Nat} {tpos : Pos} {t1 t2 : Bool} {a b z TI TO i1 i2 : Addr} (S : ZipSep2 z TI TO i1 i2 [i1, a] [i2, b]) (ha : a ≠ i1) (hb : b ≠ i2) :
    Turn P w K (.Tuple elts kk tpos) (ItzG K t1 t2 a b) [z, TI, TO, i1, i2] z (fun i h => IsZip h z TI TO .none ∧ IsTupOf2 h TI (.ref i1) (.ref i2) ∧ (∃ x y, IsTupOf2 h TO x y) ∧ IsIt t1 h i1 a i ∧ IsIt t2 h i2 b i) where
  mem := by simp
  obj := fun i h st c hc => by
    obtain ⟨hz, hTI, ⟨x, y, hTO⟩, h1, h2⟩ := st
    have hc' : c = z ∨ c = TI ∨ c = TO ∨ c = i1 ∨ c = i2 := by simpa using hc
    rcases hc' with rfl | rfl | rfl | rfl | rfl
    · exact ⟨_, hz, fun v q => nomatch q⟩
    · exact ⟨_, hTI, fun v q => nomatch q⟩
    · exact ⟨_, hTO, fun v q => nomatch q⟩
    · exact h1.live
    · exact h2.live
  keep := fun i h h' st k => by
    obtain ⟨hz, hTI, ⟨x, y, hTO⟩, h1, h2⟩ := st
    exact ⟨k z (by simp) _ hz, k TI (by simp) _ hTI, ⟨x, y, k TO (by simp) _ hTO⟩, h1.stays fun o q => k i1 (by simp) o q, h2.stays fun o q => k i2 (by simp) o q⟩
  item := by
    intro X hP hw hK hc i pins s σ H E I hf st hg
    subst hP hw hK
    obtain ⟨hz, hTI, hTO, h1, h2⟩ := st
    obtain ⟨xs, ys, x, y, hqx, hqy, hx, hy⟩ := hg
    obtain ⟨its, rv, p1⟩ := hqx.inv I
    obtain ⟨its2, rv2, p2⟩ := hqy.inv I
    obtain ⟨u, hu, ru⟩ := rv.get hx
    obtain ⟨u2, hu2, ru2⟩ := rv2.get hy
    have hhd : X.A.in1.handled = none := I.ok.hd hc
    have l1 : i < its.toArray.size := by
      have := (List.getElem?_eq_some_iff.mp hu).1
      simpa using this
    have l2 : i < its2.toArray.size := by
      have := (List.getElem?_eq_some_iff.mp hu2).1
      simpa using this
    refine (GoesN.zip2 (prog := X.prog) (w := X.w) (A := X.A) (elts := elts) (x1 := kk) (pos := tpos) S (drawsG hhd t1 i1 a ha its.toArray) (drawsG hhd t2 i2 b hb its2.toArray)).goes i s _ _ (by omega) ⟨hz, hTI, hTO, ⟨h1, p1⟩, h2, p2⟩ fun v h' tk hY st' hk htk => ?_
    obtain ⟨T, v1, v2, rfl, hnew, e1, e2, hT⟩ := hY
    obtain ⟨hz', hTI', hTO', ⟨h1', _⟩, h2', _⟩ := st'
    have hu' : its.toArray[i]? = some u := by simpa using hu
    have hu2' : its2.toArray[i]? = some u2 := by simpa using hu2
    rw [hu'] at e1
    rw [hu2'] at e2
    cases e1; cases e2
    have new : ObjOk X.prog X.w (upd H T (.tup [x, y])) h' T (.tup [x, y]) := ⟨by show 2 ≤ sizeLine; decide, [u, u2], .cons ru (.cons ru2 .nil), hT⟩
    have I1 := I.turnedNew (t' := tk) (ch := [z, TI, TO, i1, i2]) (fun c o hb q => hk c o (fun q' => hb (by
      have : c = z ∨ c = TO ∨ c = i1 ∨ c = i2 := by simpa using q'
      rcases this with rfl | rfl | rfl | rfl <;> simp)) q) hf hnew new
    have fresh : H T = none := I.hok.fresh hnew
    refine ⟨.ref T, _, I1, rfl, ⟨T, x, y, rfl, fresh, rfl, fun l hl => by rw [Sq.inj I hl hqx]; exact hx, fun l hl => by rw [Sq.inj I hl hqy]; exact hy⟩, ⟨hz', hTI', hTO', h1', h2'⟩, fun c hcm => ?_⟩
    have hlt : c < s.heap.objs.size := by
      have hc' : c = z ∨ c = TI ∨ c = TO ∨ c = i1 ∨ c = i2 := by simpa using hcm
      obtain ⟨x0, y0, hTO⟩ := hTO
      rcases hc' with rfl | rfl | rfl | rfl | rfl
      · exact Heap.lt_size hz
      · exact Heap.lt_size hTI
      · exact Heap.lt_size hTO
      · exact Heap.lt_size h1.live.choose_spec.1
      · exact Heap.lt_size h2.live.choose_spec.1
    rw [upd_ne (fun q => absurd (Nat.lt_of_lt_of_le hlt hnew) (by rw [q]; exact Nat.lt_irrefl _))]
    exact (hf c hcm).1
  done := by
    intro X hP hw hK hc i pins s σ H E I hf st hg
    subst hP hw hK
    obtain ⟨hz, hTI, hTO, h1, h2⟩ := st
    obtain ⟨xs, ys, hqx, hqy, hend⟩ := hg
    obtain ⟨its, rv, p1⟩ := hqx.inv I
    obtain ⟨its2, rv2, p2⟩ := hqy.inv I
    have hhd : X.A.in1.handled = none := I.ok.hd hc
    have e1 := rv.length
    have e2 := rv2.length
    have e3 : min its.toArray.size its2.toArray.size = i := by
      rw [List.size_toArray, List.size_toArray]
      omega
    have st : IsZip s.heap z TI TO .none ∧ IsTupOf2 s.heap TI (.ref i1) (.ref i2) ∧ (∃ x y, IsTupOf2 s.heap TO x y) ∧ (IsIt t1 s.heap i1 a (min its.toArray.size its2.toArray.size) ∧ IsSq t1 s.heap a its.toArray) ∧ IsIt t2 s.heap i2 b (min its.toArray.size its2.toArray.size) ∧ IsSq t2 s.heap b its2.toArray := by
      rw [e3]
      exact ⟨hz, hTI, hTO, ⟨h1, p1⟩, h2, p2⟩
    refine (GoesN.zip2 (prog := X.prog) (w := X.w) (A := X.A) (elts := elts) (x1 := kk) (pos := tpos) S (drawsG hhd t1 i1 a ha its.toArray) (drawsG hhd t2 i2 b hb its2.toArray)).stops s _ _ st fun h' tk hk htk => ?_
    exact I.turnedL (t' := tk) (ch := [z, TI, TO, i1, i2]) (fun c o hb q => hk c o (fun q' => hb (by
      have : c = z ∨ c = TO ∨ c = i1 ∨ c = i2 := by simpa using q'
      rcases this with rfl | rfl | rfl | rfl <;> simp)) q) hf
  self := fun A i s Q E st h => wpAny_pyIter_zip st.1 h
/-- two values that are walked -/
def iZipG (K : PySem.W.Frag) (t : TA) : TI := fun σ H R => t σ H fun vs H1 => ∃ t1 t2 a b xs ys, vs = [V.ref a, V.ref b] ∧ Sq t1 K H1 a xs ∧ Sq t2 K H1 b ys ∧ R (ItzG K t1 t2 a b) H1
theorem beginsG (t : Bool) (a : Addr) (items : Array Value) : Begins (.ref a) (itObj t a) (fun h => IsSq t h a items) := by
  cases t with
  | true => exact begins_tuple a items
  | false => exact begins_list a items
theorem IsIt.new {t : Bool} {h : Heap} {i a : Addr} (e : h.get? i = some (itObj t a)) : IsIt t h i a 0 := by
  cases t with
  | true => exact ⟨_, e, rfl, rfl⟩
  | false => exact ⟨_, e, rfl, rfl⟩
theorem IsSq.lt {t : Bool} {h : Heap} {a : Addr} {items : Array Value} (x : IsSq t h a items) : a < h.objs.size := by
  cases t with
  | true => obtain ⟨o, e, _⟩ := x; exact Heap.lt_size e
  | false => obtain ⟨o, e, _⟩ := x; exact Heap.lt_size e
theorem pi_zipG {X : Cx} {e e2 : Expr} {t : TA} {p pos tpos : Pos} {elts : List Expr} {kk : Nat} (hc : X.calm = true) (hg : Gl X "zip") (hm : X.mg "zip" = none) (ha : PA X [e, e2] t)
    (hs : starEach [e, e2] X.env = (false, eval e X.env) :: starEach [e2] X.env := by rfl) (hpl : (backTo pos (starEach [e2] X.env)).any (·.1) = false := by rfl) :
    PI X (.Tuple elts kk tpos) (.Call (.Name "zip" p) [e, e2] [] pos) (iZipG X.K t) := by
  refine ⟨fun pins s σ H R I h => ?_⟩
  refine PyProof.Rows.Call_ (ld_blt I hg hm PyProof.Rows.boot_zip (PyProof.Rows.callWith_type1 (thn (ha.run pos pins s σ H _ I h) fun us s1 ⟨vs, H1, I1, r1, q1⟩ => ?_) hs hpl))
  obtain ⟨t1, t2, a, b, xs, ys, rfl, hqx, hqy, q⟩ := q1
  cases r1 with
  | cons r rr =>
    cases rr with
    | cons r' rr =>
      cases rr
      cases r
      cases r'
      obtain ⟨its, rv, p1⟩ := hqx.inv I1
      obtain ⟨its2, rv2, p2⟩ := hqy.inv I1
      have la := p1.lt
      have lb := p2.lt
      have fresh5 : ∀ c, c ∈ [s1.heap.objs.size + 4, s1.heap.objs.size + 2, s1.heap.objs.size + 3, s1.heap.objs.size, s1.heap.objs.size + 1] → FpOk X pins H1 c := fun c hcm => by
        have hle : s1.heap.objs.size ≤ c := by
          have e' : c = s1.heap.objs.size + 4 ∨ c = s1.heap.objs.size + 2 ∨ c = s1.heap.objs.size + 3 ∨ c = s1.heap.objs.size ∨ c = s1.heap.objs.size + 1 := by simpa using hcm
          rcases e' with z | z | z | z | z
          all_goals (rw [z]; first | exact Nat.le_add_right _ _ | exact Nat.le_refl _)
        exact I1.fpOk hle (I1.hok.fresh hle)
      refine zip_begins2 (beginsG t1 a its.toArray) (beginsG t2 b its2.toArray) p1 p2 fun h' hz hTI hTO h1 h2 hsz hk => wpAny_pyIter_zip hz ?_
      have I2 : Inv X pins σ H1 { s1 with heap := h' } := I1.kept (t' := s1.toks) hk
      exact ⟨s1.heap.objs.size + 4, [s1.heap.objs.size + 4, s1.heap.objs.size + 2, s1.heap.objs.size + 3, s1.heap.objs.size, s1.heap.objs.size + 1], _, _, H1, rfl, I2,
        turn_zipG (zip_sep2 (fp1 := [a]) (fp2 := [b]) (fun c hcm => by rw [List.mem_singleton.mp hcm]; exact la) (fun c hcm => by rw [List.mem_singleton.mp hcm]; exact lb)) (Nat.ne_of_lt la) (Nat.ne_of_lt (Nat.lt_succ_of_lt lb)),
        ⟨hz, hTI, ⟨_, _, hTO⟩, .new h1, .new h2⟩, fresh5, q⟩
/-- data that is walked -/
def kindOf : D → Option (Bool × List D)
  | .tup ds => some (true, ds)
  | .lst ds => some (false, ds)
  | _ => none
def zipD (xs ys : List D) : List D := (xs.zip ys).map fun p => .tup [p.1, p.2]
def iZipM (ma mb : ME) : MA := fun lo M => match mTwo ma mb lo M with
  | some ([da, db], M1) => match kindOf da, kindOf db with
    | some (_, xs), some (_, ys) => some (zipD xs ys, M1)
    | _, _ => none
  | _ => none
theorem kindOf_ok {K : PySem.W.Frag} {H : Hp} {ρ : Rh} {v : V} {d : D} {t : Bool} {ds : List D} (r : DR K H ρ v d) (e : kindOf d = some (t, ds)) : ∃ a xs, v = .ref a ∧ DRs K H ρ xs ds ∧ Sq t K H a xs ∧ d = (if t = true then .tup ds else .lst ds) := by
  cases r with
  | tup h hs => cases e; exact ⟨_, _, rfl, hs, h.sq, rfl⟩
  | lst h hs => cases e; exact ⟨_, _, rfl, hs, SqL.of h.1, rfl⟩
  | _ => cases e
theorem kindOf_stay {K : PySem.W.Frag} {H : Hp} {ρ : Rh} {a : Addr} {t : Bool} {ds : List D} (r : DR K H ρ (.ref a) (if t = true then .tup ds else .lst ds)) : ∃ xs, DRs K H ρ xs ds ∧ Sq t K H a xs := by
  cases t with
  | true =>
    cases r with
    | tup h hs => exact ⟨_, hs, h.sq⟩
  | false =>
    cases r with
    | lst h hs => exact ⟨_, hs, SqL.of h.1⟩
theorem gi_zip {X : Cx} {cl : Nat → Addr} {e e2 : Expr} {ma mb : ME} {p pos tpos : Pos} {elts : List Expr} {kk : Nat} (hc : X.calm = true) (hg : Gl X "zip") (hm : X.mg "zip" = none) (ha : GE cl X e ma) (hb : GE cl X e2 mb)
    (hs : starEach [e, e2] X.env = (false, eval e X.env) :: starEach [e2] X.env := by rfl) (hs2 : starEach [e2] X.env = (false, eval e2 X.env) :: starEach [] X.env := by rfl) (hpl : (backTo pos (starEach [e2] X.env)).any (·.1) = false := by rfl) :
    GI cl X (.Tuple elts kk tpos) (.Call (.Name "zip" p) [e, e2] [] pos) (iZipM ma mb) :=
  (pi_zipG hc hg hm (ga_cons ha (ga_cons hb ga_nil hs2) hs) hs hpl).imp fun σ H R q => by
    obtain ⟨ρ, lo, M, ds, M', R0, L, e, k⟩ := q
    unfold iZipM at e
    split at e
    · rename_i da db M1 h1
      split at e
      · rename_i t1 xs t2 ys k1 k2
        cases e
        refine ⟨ρ, lo, M, _, _, R0, L, h1, fun vs H1 ρ1 g1 R1 r1 => ?_⟩
        obtain ⟨v, u, rfl, rv, ru⟩ := r1.pair
        obtain ⟨a, us, rfl, hr, hq, rfl⟩ := kindOf_ok rv k1
        obtain ⟨b, ws, rfl, hr2, hq2, rfl⟩ := kindOf_ok ru k2
        refine ⟨t1, t2, a, b, us, ws, rfl, hq, hq2, k _ H1 ρ1 g1 R1 fun i H2 ρ2 M2 mono R2 => ?_⟩
        obtain ⟨us2, q1, q2⟩ := kindOf_stay (mono _ _ rv)
        obtain ⟨ws2, q3, q4⟩ := kindOf_stay (mono _ _ ru)
        have hl : (zipD xs ys).length = min us2.length ws2.length := by unfold zipD; rw [List.length_map, List.length_zip, q1.length, q3.length]
        refine ⟨fun hi => ⟨us2, ws2, q2, q4, by rw [← hl]; exact hi⟩, fun d hd => ?_⟩
        unfold zipD at hd
        rw [List.getElem?_map] at hd
        cases hz : (xs.zip ys)[i]? with
        | none => rw [hz] at hd; cases hd
        | some pr =>
          rw [hz] at hd
          cases hd
          obtain ⟨z1, z2⟩ := List.getElem?_zip_eq_some.mp hz
          obtain ⟨x, hx, rx⟩ := q1.get z1
          obtain ⟨y, hy, ry⟩ := q3.get z2
          refine ⟨⟨us2, ws2, x, y, q2, q4, hx, hy⟩, fun v H3 hyl => ?_⟩
          obtain ⟨T, x', y', rfl, hT, rfl, hx', hy'⟩ := hyl
          have e1 := hx' us2 q2
          have e2 := hy' ws2 q4
          rw [hx] at e1
          rw [hy] at e2
          cases e1; cases e2
          exact ⟨.new hT, R2.new hT, .newTup hT (R2.fresh hT) (.cons rx (.cons ry .nil)), fun a o h => by rw [upd_ne (ne_of_none h hT)]; exact h⟩
      · cases e
    · cases e
/-- a tuple or a list that does not change -/
def iSeqM (m : ME) : MA := fun lo M => match m lo M with
  | some (.tup ds, M1) => some (ds, M1)
  | some (.lst ds, M1) => some (ds, M1)
  | _ => none
theorem gi_seq {X : Cx} {cl : Nat → Addr} {tg e : Expr} {m : ME} (h : GE cl X e m) : GI cl X tg e (iSeqM m) := by
  refine ⟨fun pins s σ H R I q => ?_⟩
  obtain ⟨ρ, lo, M, ds, M', R0, L, e, k⟩ := q
  unfold iSeqM at e
  split at e
  · rename_i ds' M1 h1
    cases e
    exact (gi_tup h).run pins s σ H R I ⟨ρ, lo, M, _, _, R0, L, by unfold iTupM; rw [h1], k⟩
  · rename_i ds' M1 h1
    cases e
    exact (gi_lst h).run pins s σ H R I ⟨ρ, lo, M, _, _, R0, L, by unfold iLstM; rw [h1], k⟩
  · cases e
end G

set_option Elab.async false
set_option linter.all false
set_option maxRecDepth 100000
namespace G
open PySem PySem.Spec L2

section
variable {X : Cx} {cl : Nat → Addr} {pos : Pos}
/-- a, b, c = x, y, z with names -/
def sPar3 (i j l : Nat) (ma mb mc : ME) : MS := fun lo M => match mCons ma (mTwo mb mc) lo M with
  | some ([d, e, f], M1) => some (.nx (((lo.set i (some d)).set j (some e)).set l (some f)) M1)
  | _ => none
theorem gs_par3 {i j l : Nat} {x y z : Str} {a b c : Expr} {ma mb mc : ME} {px py pz pt : Pos} {kt k2 pt2} (hc : X.calm = true) (hN : X.N.Nodup) (hi : X.N[i]? = some x) (hj : X.N[j]? = some y) (hl : X.N[l]? = some z) (hij : i ≠ j) (hil : i ≠ l) (hjl : j ≠ l)
    (hx : X.env.scope.names.lookup x = some .local) (hy : X.env.scope.names.lookup y = some .local) (hz : X.env.scope.names.lookup z = some .local) (ha : GA cl X [a, b, c] (mCons ma (mTwo mb mc)))
    (hw : swappedStores [.Tuple [.Name x px, .Name y py, .Name z pz] kt pt] (.Tuple [a, b, c] k2 pt2) X.env = pure (some [x, y, z]))
    (hs : swapsWithSole [.Tuple [.Name x px, .Name y py, .Name z pz] kt pt] (.Tuple [a, b, c] k2 pt2) pos.line X.env = pure false := by rfl) :
    GS cl X (.Assign [.Tuple [.Name x px, .Name y py, .Name z pz] kt pt] (.Tuple [a, b, c] k2 pt2) pos) (sPar3 i j l ma mb mc) :=
  (ps_par3 hc hN hi hj hl hij hil hjl hx hy hz ha hw hs).imp fun De σ H q => by
    obtain ⟨ρ, lo, M, o, R, L, e, k⟩ := q
    unfold sPar3 at e
    split at e
    · rename_i d1 d2 d3 M1 h1
      cases e
      refine ⟨ρ, lo, M, _, M1, R, L, h1, fun vs H1 ρ1 g1 R1 r1 => ?_⟩
      cases r1 with
      | cons ra rr =>
        obtain ⟨u, w', rfl, rb, rc⟩ := rr.pair
        exact ⟨_, u, w', rfl, k _ H1 ρ1 g1 R1 ((((L.mono g1).set ra i).set rb j).set rc l)⟩
    · cases e
/-- a op b op' c -/
def mChain (f g : F1) (ma mb mc : ME) : ME := fun lo M => match mTwo ma mb lo M with
  | some ([d, e], M1) => match f [d, e] M1 with
    | some (.bl true, M2) => (match mc lo M2 with
      | some (h, M3) => (match g [e, h] M3 with
        | some (.bl b, M4) => some (.bl b, M4)
        | _ => none)
      | none => none)
    | some (.bl false, M2) => some (.bl false, M2)
    | _ => none
  | _ => none
end

/-! ### constants of the module -/
structure GlobD (K : PySem.W.Frag) (mg : Str → Option Value) (x : Str) (d : D) : Prop where
  ex : ∃ (v : V) (u : Value), mg x = some u ∧ RelV v u ∧ ∀ H ρ, DR K H ρ v d
theorem ge_globT {X : Cx} {cl : Nat → Addr} {pos : Pos} {x : Str} {d : D} (C : GlobD X.K X.mg x d) (hg : Gl X x) (hd : (x == ("__debug__" : Str)) = false := by decide) : GE cl X (.Name x pos) (mC d) := by
  obtain ⟨v, u, h1, h2, h3⟩ := C.ex
  exact ge_glob hg h1 h2 h3 hd
theorem GlobD.int {K : PySem.W.Frag} {mg : Str → Option Value} {x : Str} {i : Int} (h : ∃ t, mg x = some (.int i t)) : GlobD K mg x (.int i) := by
  obtain ⟨t, h⟩ := h
  exact ⟨.int i, _, h, ⟨t, rfl⟩, fun _ _ => .int i⟩
theorem GlobD.str {K : PySem.W.Frag} {mg : Str → Option Value} {x z : Str} (h : ∃ t, mg x = some (.str z t)) : GlobD K mg x (.str z) := by
  obtain ⟨t, h⟩ := h
  exact ⟨.str z, _, h, ⟨t, rfl⟩, fun _ _ => .str z⟩
/-- a tuple of the written part, read to any depth -/
def kTupD (K : PySem.W.Frag) : Nat → Value → D → Bool
  | _, .none, .non => true
  | _, .bool b, .bl c => b == c
  | _, .int i _, .int j => decide (i = j)
  | _, .str x _, .str y => decide (x = y)
  | _, .ref a, .fn x => decide (a = He.ga K x)
  | n + 1, .ref a, .tup ds => (match K.lookup a with
    | some ⟨.type c, _, .seq its _, _⟩ => decide (c = "tuple") && decide (its.size ≤ sizeLine) && decide (its.size = ds.length) && ((its.toList.zip ds).all fun p => kTupD K n p.1 p.2)
    | _ => false)
  | _, _, _ => false
def absVD : Value → V
  | .none => .non
  | .bool b => .bl b
  | .int i _ => .int i
  | .str x _ => .str x
  | .ref a => .ref a
  | _ => .non
theorem kTupD_ok {K : PySem.W.Frag} : ∀ (n : Nat) (u : Value) (d : D), kTupD K n u d = true → RelV (absVD u) u ∧ ∀ H ρ, DR K H ρ (absVD u) d := by
  intro n
  induction n with
  | zero =>
    intro u d h
    unfold kTupD at h
    split at h
    · exact ⟨rfl, fun _ _ => .non⟩
    · simp at h; subst h; exact ⟨rfl, fun _ _ => .bl _⟩
    · simp at h; subst h; exact ⟨⟨_, rfl⟩, fun _ _ => .int _⟩
    · simp at h; subst h; exact ⟨⟨_, rfl⟩, fun _ _ => .str _⟩
    · simp at h; subst h; exact ⟨rfl, fun _ _ => .fn _⟩
    · rename_i hz; exact absurd hz (by simp)
    · cases h
  | succ n ih =>
    intro u d h
    unfold kTupD at h
    split at h
    · exact ⟨rfl, fun _ _ => .non⟩
    · simp at h; subst h; exact ⟨rfl, fun _ _ => .bl _⟩
    · simp at h; subst h; exact ⟨⟨_, rfl⟩, fun _ _ => .int _⟩
    · simp at h; subst h; exact ⟨⟨_, rfl⟩, fun _ _ => .str _⟩
    · simp at h; subst h; exact ⟨rfl, fun _ _ => .fn _⟩
    · rename_i a ds hz
      cases hz
      split at h
      · rename_i c dd its m sl hk
        simp only [Bool.and_eq_true, decide_eq_true_eq] at h
        obtain ⟨⟨⟨rfl, h2⟩, h3⟩, h4⟩ := h
        have key : ∀ (us : List Value) (ds : List D), us.length = ds.length → ((us.zip ds).all fun p => kTupD K n p.1 p.2) = true → Vals (us.map absVD) us ∧ ∀ H ρ, DRs K H ρ (us.map absVD) ds := by
          intro us
          induction us with
          | nil =>
            intro ds hl _
            cases ds with
            | nil => exact ⟨.nil, fun _ _ => .nil⟩
            | cons _ _ => simp at hl
          | cons u us ihu =>
            intro ds hl hall
            cases ds with
            | nil => simp at hl
            | cons e es =>
              rw [List.zip_cons_cons, List.all_cons, Bool.and_eq_true] at hall
              obtain ⟨a1, a2⟩ := ih u e hall.1
              obtain ⟨b1, b2⟩ := ihu es (by simpa using hl) hall.2
              exact ⟨.cons a1 b1, fun H ρ => .cons (a2 H ρ) (b2 H ρ)⟩
        obtain ⟨k1, k2⟩ := key its.toList ds (by rw [Array.length_toList]; exact h3) h4
        exact ⟨rfl, fun H ρ => .tup (.inr ⟨_, its, m, hk, rfl, rfl, h2, k1⟩) (k2 H ρ)⟩
      · cases h
    · cases h
/-- the module's name x is the datum d -/
def globB (K : PySem.W.Frag) (x : Str) (d : D) : Bool := match PySem.W.nsIn K mainGlobals x with
  | some (some u) => kTupD K 60 u d
  | _ => false
theorem globB_ok {K : PySem.W.Frag} {h : Heap} {mg : Str → Option Value} (X : K.In h) (G : h.Ns mainGlobals mg) {x : Str} {d : D} (c : globB K x d = true) : GlobD K mg x d := by
  unfold globB at c
  split at c
  · rename_i u e
    obtain ⟨h1, h2⟩ := kTupD_ok 60 u d c
    exact ⟨absVD u, u, PySem.W.mg_of X G e, h1, h2⟩
  · cases c

structure KDctD (K : PySem.W.Frag) (w : World) (mg : Str → Option Value) (x : Str) (kvs : List (Str × D)) : Prop where
  ex : ∃ (a : Addr) (es : Array DictEntry) (n : Nat), mg x = some (.ref a) ∧ KDict K w a es n ∧ ∀ k d, kvs.lookup k = some d → ∃ (u : Value) (v : V), PySem.W.nsIn K a k = some (some u) ∧ RelV v u ∧ ∀ H ρ, DR K H ρ v d

/-! ### all that a body leans on -/
structure Env (P : Program) (w : World) (K : PySem.W.Frag) (mg : Str → Option Value) (base : Heap) (A : Around) (cl : Nat → Addr) (F : Nat → F1) (tf : List (Str × Nat)) (tm : List (Nat × Str × Nat × Nat)) (tk : List (Str × Nat × Nat)) (tg : List (Str × D)) (te : List Str) (ta : List (Nat × Str)) (td : List (Str × List (Str × D))) (nc : Nat) : Prop where
  room : Room 1 A
  call : ∀ (i : Nat) {x : Str} {n : Nat}, tf[i]? = some (x, n) → Fnd P w K mg base A cl x n (F i)
  meth : ∀ (i : Nat) {c : Nat} {m : Str} {n j : Nat}, tm[i]? = some (c, m, n, j) → Mtd P w K mg base A cl c m n (F j)
  make : ∀ (c : Nat) {x : Str} {n j : Nat}, tk[c]? = some (x, n, j) → Mkd P w K mg base A cl x c n (F j)
  glob : ∀ (i : Nat) {x : Str} {d : D}, tg[i]? = some (x, d) → GlobD K mg x d
  free : ∀ (i : Nat) {x : Str}, te[i]? = some x → mg x = none
  cls : ∀ (c : Nat), c < nc → Cls K (cl c)
  noat : ∀ (i : Nat) {c : Nat} {f : Str}, ta[i]? = some (c, f) → NoAttr K (cl c) f
  dct : ∀ (i : Nat) {x : Str} {kvs : List (Str × D)}, td[i]? = some (x, kvs) → KDctD K w mg x kvs
section
variable {P : Program} {w : World} {K : PySem.W.Frag} {mg : Str → Option Value} {base : Heap} {A : Around} {cl : Nat → Addr} {F : Nat → F1} {tf : List (Str × Nat)} {tm : List (Nat × Str × Nat × Nat)} {tk : List (Str × Nat × Nat)} {tg : List (Str × D)} {te : List Str} {ta : List (Nat × Str)} {td : List (Str × List (Str × D))} {nc : Nat}
theorem Env.hu (C : Env P w K mg base A cl F tf tm tk tg te ta td nc) : A.units + 64 < cLine := by have := C.room.un; omega
theorem Env.hu1 (C : Env P w K mg base A cl F tf tm tk tg te ta td nc) : A.units + 65 < cLine := by have := C.room.un; omega
theorem Env.hu2 (C : Env P w K mg base A cl F tf tm tk tg te ta td nc) : A.units + 150 < cLine := by have := C.room.un; omega
end
end G

set_option Elab.async false
set_option linter.all false
set_option maxRecDepth 100000
set_option maxHeartbeats 4000000
/-! Sets of nested tuples (any shapes, depth to 8, fewer than 64), and of ints, out of a list or a tuple: set(x). Own work over TabOk (HandS.TupSets) and nestedKind (KE.KeyNested). -/
namespace G
open PySem PySem.Spec L2

section
variable {P : Program} {w : World} {A : Around} {E : Value → Shared → Prop} {s : Shared}

/-! ### what the set asks of its members besides hash and == -/
/-- m leaves s and answers something that ok allows -/
def Says (P : Program) (w : World) (s : Shared) (m : Sem Bool) (ok : Bool → Prop) : Prop := ∀ (A : Around) (E : Value → Shared → Prop) (Q : Bool → Shared → Prop), (∀ b, ok b → Q b s) → wpAny (model P w) A m Q E s
theorem Says.now {b : Bool} {ok : Bool → Prop} (h : ok b) : Says P w s (pure b) ok := fun _ _ _ q => wpAny_pure (q b h)
mutual
theorem key_noClass : ∀ (k : NestedKey) (v : Value) (n : Nat), NestedIs s.heap k v → k.depth ≤ n → Says P w s (ofAClassStatement n v) (· = false)
  | .none, _, n, x, _ => by cases x; cases n <;> exact .now rfl
  | .num _, _, n, x, _ => by cases x <;> cases n <;> exact .now rfl
  | .text _, _, n, x, _ => by cases x; cases n <;> exact .now rfl
  | .tup ks, _, 0, _, hn => absurd hn (by simp [NestedKey.depth])
  | .tup ks, _, n + 1, x, hn => by
    cases x with
    | @tup a o vs m _ g1 g2 g3 g4 =>
      intro A E Q q
      have ty : s.TypeIs (.ref a) "tuple" := ⟨o, g1, g2⟩
      have all := keys_noClass ks vs.toList n g4 (by simp only [NestedKey.depth] at hn; omega)
      unfold ofAClassStatement
      refine wpAny_bind (wpAny_typeOf ty ?_)
      have ee : (("tuple" : String) == "tuple") = true := rfl
      simp only [ee, if_true, Bool.not_true, Bool.false_eq_true, if_false]
      try refine wpAny_bind (wpAny_pure ?_)
      try simp only [Bool.not_true, Bool.false_eq_true, if_false]
      show wpAny _ _ (seqItems? (.ref a) >>= _) _ _ s
      refine wpAny_bind (wpAny_seqItems g1 g3 (wpAny_bind ?_))
      show wpAny _ _ (forIn vs _ _) _ _ s
      rw [← Array.forIn_toList]
      refine wpAny_forIn_list _ (fun rest r s' => (r.1 = none ∧ s' = s) ∧ ∀ v ∈ rest, v ∈ vs.toList) _ ?_ ?_ _ _ ⟨⟨rfl, rfl⟩, fun v h => h⟩
      · rintro v rest r s' ⟨⟨hr, rfl⟩, mem⟩
        refine wpAny_bind (all v (mem v List.mem_cons_self) _ _ _ fun b hb => ?_)
        subst hb
        exact wpAny_pure ⟨⟨rfl, rfl⟩, fun u h => mem u (List.mem_cons_of_mem _ h)⟩
      · rintro ⟨r1, r2⟩ s' ⟨⟨hr, rfl⟩, _⟩
        cases hr
        exact wpAny_pure (q _ rfl)
theorem keys_noClass : ∀ (ks : List NestedKey) (vs : List Value) (n : Nat), NestedAll s.heap ks vs → NestedKey.depthAll ks ≤ n → ∀ v ∈ vs, Says P w s (ofAClassStatement n v) (· = false)
  | [], _, _, x, _, v, hv => by cases x; cases hv
  | k :: ks, _, n, x, hn, v, hv => by
    cases x with
    | cons x1 x2 =>
      simp only [NestedKey.depthAll] at hn
      rcases List.mem_cons.mp hv with e | hv
      · subst e; exact key_noClass k _ n x1 (by omega)
      · exact keys_noClass ks _ n x2 (by omega) v hv
end
mutual
theorem key_byValue : ∀ (k : NestedKey) (v : Value) (n : Nat), NestedIs s.heap k v → Says P w s (hashByValue n v) fun _ => True
  | .none, _, n, x => by cases x; cases n <;> exact .now trivial
  | .num _, _, n, x => by cases x <;> cases n <;> exact .now trivial
  | .text _, _, n, x => by cases x; cases n <;> exact .now trivial
  | .tup ks, _, 0, x => by
    cases x with
    | tup g1 g2 g3 g4 => exact .now trivial
  | .tup ks, _, n + 1, x => by
    cases x with
    | @tup a o vs m _ g1 g2 g3 g4 =>
      intro A E Q q
      have ty : s.TypeIs (.ref a) "tuple" := ⟨o, g1, g2⟩
      have all := keys_byValue ks vs.toList n g4
      unfold hashByValue
      refine wpAny_bind (wpAny_specialOf ty F.slot_tuple_hash.lookup ?_)
      show wpAny _ _ (seqItems? (.ref a) >>= _) _ _ s
      refine wpAny_bind (wpAny_seqItems g1 g3 (wpAny_bind ?_))
      show wpAny _ _ (forIn vs _ _) _ _ s
      rw [← Array.forIn_toList]
      refine wpAny_forIn_list _ (fun rest r s' => (r.1 = none ∧ s' = s) ∧ ∀ v ∈ rest, v ∈ vs.toList) _ ?_ ?_ _ _ ⟨⟨rfl, rfl⟩, fun v h => h⟩
      · rintro v rest r s' ⟨⟨hr, rfl⟩, mem⟩
        refine wpAny_bind (all v (mem v List.mem_cons_self) _ _ _ fun b _ => ?_)
        cases b with
        | true => exact wpAny_pure ⟨⟨rfl, rfl⟩, fun u h => mem u (List.mem_cons_of_mem _ h)⟩
        | false => exact wpAny_pure (wpAny_pure (q _ trivial))
      · rintro ⟨r1, r2⟩ s' ⟨⟨hr, rfl⟩, _⟩
        cases hr
        exact wpAny_pure (q _ trivial)
theorem keys_byValue : ∀ (ks : List NestedKey) (vs : List Value) (n : Nat), NestedAll s.heap ks vs → ∀ v ∈ vs, Says P w s (hashByValue n v) fun _ => True
  | [], _, _, x, v, hv => by cases x; cases hv
  | k :: ks, _, n, x, v, hv => by
    cases x with
    | cons x1 x2 =>
      rcases List.mem_cons.mp hv with e | hv
      · subst e; exact key_byValue k _ n x1
      · exact keys_byValue ks _ n x2 v hv
end

/-- the tuple at b is the key k -/
abbrev IsN (h : Heap) (k : NestedKey) (b : Addr) : Prop := NestedIs h k (.ref b) ∧ k.depth ≤ 8
theorem nk_room {A : Around} (hu : A.units + 8 < cLine) : (nestedKind P w).room A := hu
/-- looking for a key among keys shows nothing -/
theorem keys_unseen {k : NestedKey} {b : Addr} (hb : IsN s.heap k b) {ys : List Value} (hy : ∀ y ∈ ys, ∃ k' c, y = Value.ref c ∧ IsN s.heap k' c) : Says P w s (searchCouldBeSeen (.ref b) ys) (· = false) := by
  intro A E Q q
  unfold searchCouldBeSeen
  refine wpAny_bind (wpAny_forIn_list _ (fun rest r s' => (r.1 = none ∧ s' = s) ∧ ∀ y ∈ rest, y ∈ ys) _ ?_ ?_ _ _ ⟨⟨rfl, rfl⟩, fun y h => h⟩)
  · rintro v rest r s' ⟨⟨hr, rfl⟩, mem⟩
    obtain ⟨k', c, rfl, hc⟩ := hy v (mem v List.mem_cons_self)
    have tl : ∀ y ∈ rest, y ∈ ys := fun u h => mem u (List.mem_cons_of_mem _ h)
    dsimp only
    by_cases same : (b == c || (carriedByValue (.ref b) && carriedByValue (.ref c))) = true
    · exact wp_if_pos same (wpAny_pure ⟨⟨rfl, rfl⟩, tl⟩)
    · refine wp_if_neg same ?_
      refine wpAny_bind ((nestedKind P w).quiet hb (wp_if_neg (by decide) ?_))
      try refine wpAny_bind (wpAny_pure ?_)
      refine wpAny_bind ((nestedKind P w).quiet hc (wp_if_neg (by decide) ?_))
      try refine wpAny_bind (wpAny_pure ?_)
      refine wpAny_bind (key_noClass k _ 8 hb.1 hb.2 _ _ _ fun b1 e1 => ?_)
      subst e1
      refine wp_if_neg (by decide) ?_
      try refine wpAny_bind (wpAny_pure ?_)
      refine wpAny_bind (key_noClass k' _ 8 hc.1 hc.2 _ _ _ fun b2 e2 => ?_)
      subst e2
      exact wp_if_neg (by decide) (wpAny_pure ⟨⟨rfl, rfl⟩, tl⟩)
  · rintro ⟨r1, r2⟩ s' ⟨⟨hr, rfl⟩, _⟩
    cases hr
    exact wpAny_pure (q _ rfl)

/-! ### the set -/
def rowK (w : World) (p : Addr × NestedKey) : Int × Value := (p.2.hash w, .ref p.1)
def hashK (w : World) (p : Addr × NestedKey) : Int := p.2.hash w
structure NSet (w : World) (h : Heap) (a : Addr) (L : List (Addr × NestedKey)) (es : Array (Int × Value)) (ep : Nat) (t : SetTable) : Prop where
  ob : ∃ o, h.get? a = some o ∧ o.ExactSet ∧ o.data = .set es ep t
  rows : es.toList = L.map (rowK w)
  tab : TabOk t (L.map (hashK w))
  nd : (L.map (·.2)).Nodup
  key : ∀ p ∈ L, IsN h p.2 p.1
  led : w.params.followText "set-order" = true ∨ t.led = true
  room : L.length * 5 < t.mask * 3
  few : L.length < 64
variable {a : Addr} {L : List (Addr × NestedKey)} {es : Array (Int × Value)} {ep : Nat} {t : SetTable}
theorem rows_size (e : es.toList = L.map (rowK w)) : es.size = L.length := by
  rw [← Array.length_toList, e, List.length_map]
theorem rows_at (e : es.toList = L.map (rowK w)) {i : Nat} {p : Addr × NestedKey} (h : L[i]? = some p) : es[i]? = some (rowK w p) := by
  rw [← Array.getElem?_toList, e, List.getElem?_map, h] <;> rfl
theorem table_fits {n : Nat} (T : t.place.size = n) (hd : t.dummies = #[]) (hm : n ≤ t.mask) : t.fits n = true := by
  unfold SetTable.fits SetTable.fill
  rw [hd, Bool.and_eq_true, beq_iff_eq, decide_eq_true_eq]
  exact ⟨T, by show t.place.size + 0 ≤ t.mask; omega⟩
theorem NSet.fits (R : NSet w s.heap a L es ep t) : t.fits es.size = true := by
  have h1 := R.tab.sz
  have h2 := rows_size R.rows
  have h3 := R.room
  rw [List.length_map] at h1
  exact table_fits (by omega) R.tab.dm (by omega)
theorem NSet.odd (R : NSet w s.heap a L es ep t) : ¬ t.gaveWay = true := by
  unfold SetTable.gaveWay
  rw [mask_odd R.tab.mok]
  decide

/-- the c-th state of the search for hash h -/
abbrev stepK (m : Nat) (h : Int) (c : Nat) : SetTable.Probe := nth m (runAt m (SetTable.bits h % (m + 1)) (SetTable.bits h)) c
theorem stepK_dummy (m : Nat) (h : Int) (c : Nat) : (stepK m h c).dummy = none := by
  have all : ∀ (n : Nat) (p : SetTable.Probe), p.dummy = none → (nth m p n).dummy = none := by
    intro n
    induction n with
    | zero => exact fun p e => e
    | succ n ih =>
      intro p e
      refine ih _ ?_
      unfold adv
      split <;> exact e
  exact all c _ rfl
theorem stepK_add (m : Nat) (h : Int) (c q : Nat) : nth m (stepK m h c) q = stepK m h (c + q) := (nth_add m c _ q).symm

/-- the search, from the c-th step on -/
theorem nset_seek (R : NSet w s.heap a L es ep t) {x : Addr} {k : NestedKey} (hx : IsN s.heap k x) (hu : A.units + 8 < cLine) {K : Nat} (hKf : K < 10 * SetTable.turns t.mask)
    (hK : way t.mask (k.hash w) K ∉ t.place.toList) (hKb : ∀ c, c < K → way t.mask (k.hash w) c ∈ t.place.toList) {Q : SetFound → Shared → Prop}
    (yes : k ∈ L.map (·.2) → Q (.there none) s) (no : k ∉ L.map (·.2) → Q (.free (way t.mask (k.hash w) K) false) s) :
    ∀ (f c : Nat) (stand : Option SetTable.Probe), stand.getD (t.probeStart (k.hash w)) = stepK t.mask (k.hash w) c → c ≤ K → K - c < f →
      (∀ (i : Nat) p, L[i]? = some p → p.2 = k → ∃ c', c ≤ c' ∧ c' < K ∧ t.place.toList[i]? = some (way t.mask (k.hash w) c')) →
      wpAny (model P w) A (setSearchFrom a (.ref x) (k.hash w) true f stand) Q E s := by
  intro f
  induction f with
  | zero => exact fun c stand _ _ hf => absurd hf (Nat.not_lt_zero _)
  | succ f ih =>
    intro c stand hst hc hf ahead
    obtain ⟨o, ho, hex, hd⟩ := R.ob
    generalize hh : k.hash w = h at *
    rw [setSearchFrom_succ]
    refine wpAny_bind (wpAny_setState_of ho hd R.fits (wp_if_neg R.odd ?_))
    try refine wpAny_bind (wpAny_pure ?_)
    have hjs : ∀ q, (nth t.mask (stepK t.mask h c) q).j = way t.mask h (c + q) := fun q => congrArg SetTable.Probe.j (stepK_add t.mask h c q)
    have ent : ∀ (i : Nat) p, L[i]? = some p → (fun i => (es[i]?.map (·.1)).getD 0) i = p.2.hash w := fun i p hp => by
      show (es[i]?.map (·.1)).getD 0 = _
      rw [rows_at R.rows hp] <;> rfl
    have notPassed : ∀ (q : Nat), (∀ (q' i' : Nat), q' < q → t.place.toList[i']? = some (nth t.mask (stepK t.mask h c) q').j → (fun i => (es[i]?.map (·.1)).getD 0) i' ≠ h) → ∀ (i : Nat) p c', L[i]? = some p → p.2 = k → c ≤ c' → t.place.toList[i]? = some (way t.mask h c') → c + q ≤ c' := by
      intro q fresh i p c' hp hk h1 h3
      rcases Nat.lt_or_ge c' (c + q) with z | z
      · refine absurd ((ent i p hp).trans (by rw [hk, hh])) (fresh (c' - c) i (by omega) ?_)
        rw [hjs, show c + (c' - c) = c' by omega]
        exact h3
      · exact z
    rcases go_spec t R.tab.ris R.tab.dm (fun i => (es[i]?.map (·.1)).getD 0) h (10 * SetTable.turns t.mask) (K - c) _ (stepK_dummy t.mask h c) (by omega) (fun q hq => by rw [hjs]; exact hKb (c + q) (by omega)) (by rw [hjs, show c + (K - c) = K by omega]; exact hK)
      with ⟨q, i, hq, hi, _, fresh, hpr⟩ | ⟨fresh, hpr⟩
    · have hpr2 : t.probe (fun i => (es[i]?.map (·.1)).getD 0) h (stand.getD (t.probeStart h)) = some (.candidate (way t.mask h (c + q)) i (stepK t.mask h (c + (q + 1)))) := by
        rw [hst, ← hjs, ← stepK_add]
        exact hpr
      rw [hpr2]
      rw [hjs] at hi
      have hil : i < L.length := by
        have z1 := (List.getElem?_eq_some_iff.mp hi).1
        have z2 := R.tab.sz
        rw [List.length_map] at z2
        rw [Array.length_toList] at z1
        omega
      obtain ⟨p, hp⟩ : ∃ p, L[i]? = some p := ⟨_, List.getElem?_eq_getElem hil⟩
      have pm : p ∈ L := List.mem_of_getElem? hp
      have slotIs : t.slot (way t.mask h (c + q)) = .live i := slot_live R.tab.ris hi
      have main : wpAny (model P w) A (searchRest a (.ref x) h true f es t (way t.mask h (c + q)) i (stepK t.mask h (c + (q + 1)))) Q E s := by
        unfold searchRest
        rw [rows_at R.rows hp]
        dsimp only [rowK]
        refine wpAny_bind (wpAny_holding ((nestedKind P w).eqBool hu (R.key p pm) hx ?_))
        refine wpAny_bind (wpAny_setState_of ho hd R.fits ?_)
        dsimp only
        by_cases eq : p.2 = k
        · exact wp_if_pos (by simp [eq]) (wpAny_pure (yes (List.mem_map.mpr ⟨p, pm, eq⟩)))
        · refine wp_if_neg (by simp [eq]) ?_
          try refine wpAny_bind (wpAny_pure ?_)
          rw [sameMem]
          simp only [if_true, slotIs, rows_at R.rows hp, rowK]
          refine wpAny_bind (wpAny_isSame_ref_self (wpAny_bind (wpAny_pure ?_)))
          simp only [if_true]
          refine wp_if_neg (by simp [eq]) ?_
          refine ih (c + (q + 1)) _ rfl (by omega) (by omega) fun i0 p0 h0 k0 => ?_
          obtain ⟨c', a1, a2, a3⟩ := ahead i0 p0 h0 k0
          have b1 := notPassed q fresh i0 p0 c' h0 k0 a1 a3
          refine ⟨c', ?_, a2, a3⟩
          rcases Nat.lt_or_eq_of_le b1 with b2 | b2
          · omega
          · subst b2
            have s0 := slot_live R.tab.ris a3
            rw [slotIs] at s0
            injection s0 with s0
            subst s0
            rw [hp] at h0
            exact absurd ((congrArg Prod.snd (Option.some.inj h0)).trans k0) eq
      dsimp only
      by_cases hl : t.led = true
      · refine wp_if_neg (by simp [hl]) ?_
        try refine wpAny_bind (wpAny_pure ?_)
        exact main
      · refine wp_if_pos (by simp [hl]) ?_
        refine wpAny_bind (keys_unseen hx (fun y hy => ?_) _ _ _ fun b hb => ?_)
        · obtain ⟨e, he, ee⟩ := List.mem_map.mp hy
          have he1 : e ∈ es ∧ e.1 = h := by simpa using he
          have he2 : e ∈ es.toList := by simpa using he1.1
          rw [R.rows] at he2
          obtain ⟨p2, m2, e2⟩ := List.mem_map.mp he2
          exact ⟨p2.2, p2.1, by rw [← ee, ← e2] <;> rfl, R.key p2 m2⟩
        · subst hb
          refine wp_if_neg (by decide) ?_
          try refine wpAny_bind (wpAny_pure ?_)
          exact main
    · have hpr2 : t.probe (fun i => (es[i]?.map (·.1)).getD 0) h (stand.getD (t.probeStart h)) = some (.empty (way t.mask h K) none) := by
        have e2 : way t.mask h K = (nth t.mask (stepK t.mask h c) (K - c)).j := by rw [hjs, show c + (K - c) = K by omega]
        rw [hst, e2]
        exact hpr
      rw [hpr2]
      refine wpAny_pure (no fun hm => ?_)
      obtain ⟨p0, m0, k0⟩ := List.mem_map.mp hm
      obtain ⟨i0, h0⟩ := List.getElem?_of_mem m0
      obtain ⟨c', a1, a2, a3⟩ := ahead i0 p0 h0 k0
      have := notPassed (K - c) fresh i0 p0 c' h0 k0 a1 a3
      omega
theorem nset_search (R : NSet w s.heap a L es ep t) {x : Addr} {k : NestedKey} (hx : IsN s.heap k x) (hu : A.units + 8 < cLine) {Q : SetFound → Shared → Prop} (yes : k ∈ L.map (·.2) → Q (.there none) s)
    (no : ∀ K, k ∉ L.map (·.2) → way t.mask (k.hash w) K ∉ t.place.toList → (∀ c, c < K → way t.mask (k.hash w) c ∈ t.place.toList) → Q (.free (way t.mask (k.hash w) K) false) s) :
    wpAny (model P w) A (setSearch a (.ref x) (k.hash w) true) Q E s := by
  have room := R.room
  obtain ⟨K, k1, k2, k3⟩ := R.tab.first (by rw [List.length_map]; omega) (k.hash w)
  have small : K < 100000 := by
    have : 10 * SetTable.turns t.mask ≤ 1420 := by
      unfold SetTable.turns
      rcases R.tab.mok with e | e | e <;> omega
    omega
  unfold setSearch
  refine nset_seek R hx hu k1 k2 k3 yes (fun hn => no K hn k2 k3) 100000 0 none rfl (Nat.zero_le _) (by omega) fun i p hp hk => ?_
  have hi : (L.map (hashK w))[i]? = some (k.hash w) := by rw [List.getElem?_map, hp, ← hk] <;> rfl
  have hlt : i < t.place.toList.length := by
    have z := (List.getElem?_eq_some_iff.mp hi).1
    rw [← R.tab.sz] at z
    rw [Array.length_toList]
    exact z
  obtain ⟨c, c1, c2⟩ := R.tab.before k2 hi (List.getElem?_eq_getElem hlt)
  exact ⟨c, Nat.zero_le _, c1, by rw [List.getElem?_eq_getElem hlt, c2]⟩

/-- a key isn't the set, so it stays when only the set changes -/
theorem isN_but {h h' : Heap} {k : NestedKey} {a b : Addr} {o : Obj} {es : Array (Int × Value)} {ep : Nat} {t : SetTable} (x : IsN h k b) (ho : h.get? a = some o) (hd : o.data = .set es ep t) (hs : Heap.SameBut a h h') : IsN h' k b := by
  refine ⟨NestedIs.at (fun c oc vs n hc hv => (hs.2 c fun e => ?_).trans hc) k _ x.1, x.2⟩
  subst e
  rw [ho] at hc
  cases hc
  rw [hd] at hv
  cases hv
theorem isN_keep {h h' : Heap} {k : NestedKey} {b : Addr} (x : IsN h k b) (hk : ∀ c o, h.get? c = some o → h'.get? c = some o) : IsN h' k b := ⟨NestedIs.at (fun c o _ _ hc _ => hk c o hc) k _ x.1, x.2⟩

/-- the rows, put into another order -/
theorem rows_order (hr : es.toList = L.map (rowK w)) {order : Array Nat} (hp : order.toList.Perm (List.range L.length)) :
    ∃ L2 : List (Addr × NestedKey), (order.filterMap (es[·]?)).toList = L2.map (rowK w) ∧ L2.Perm L ∧ L2.map (hashK w) = order.toList.map fun i => (es.map (·.1)).getD i 0 := by
  have upto : ∀ n, n ≤ L.length → (List.range n).filterMap (fun i => L[i]?) = L.take n := by
    intro n
    induction n with
    | zero => exact fun _ => rfl
    | succ n ih =>
      intro hn
      rw [List.range_succ, List.filterMap_append, ih (Nat.le_of_lt hn), List.take_succ, List.getElem?_eq_getElem hn, List.filterMap_cons_some (List.getElem?_eq_getElem hn)] <;> rfl
  have each : ∀ l : List Nat, (∀ i ∈ l, i < L.length) → (l.filterMap fun i => es[i]?) = (l.filterMap fun i => L[i]?).map (rowK w) ∧ (l.filterMap fun i => L[i]?).map (hashK w) = l.map fun i => (es.map (·.1)).getD i 0 := by
    intro l hl
    induction l with
    | nil => exact ⟨rfl, rfl⟩
    | cons i l ih =>
      obtain ⟨e1, e2⟩ := ih fun j hj => hl j (List.mem_cons_of_mem _ hj)
      obtain ⟨p0, hi⟩ : ∃ p, L[i]? = some p := ⟨_, List.getElem?_eq_getElem (hl i List.mem_cons_self)⟩
      have he := rows_at hr hi
      have hh : (es.map (·.1)).getD i 0 = hashK w p0 := by
        have z : (es.map (·.1))[i]? = some (hashK w p0) := by rw [Array.getElem?_map, he] <;> rfl
        simp [Array.getD_eq_getD_getElem?, z]
      refine ⟨by rw [List.filterMap_cons_some he, e1, List.filterMap_cons_some hi, List.map_cons], ?_⟩
      rw [List.filterMap_cons_some hi, List.map_cons, List.map_cons, e2, hh]
  obtain ⟨e1, e2⟩ := each order.toList fun i hi => List.mem_range.mp (hp.mem_iff.mp hi)
  refine ⟨order.toList.filterMap fun i => L[i]?, by first | (rw [Array.toList_filterMap]; exact e1) | simpa using e1, ?_, e2⟩
  have z := hp.filterMap fun i => L[i]?
  rwa [upto _ (Nat.le_refl _), List.take_length] at z

/-- the table laid anew -/
theorem nset_relay {o : Obj} (ho : s.heap.get? a = some o) (hex : o.ExactSet) (hd : o.data = .set es ep t) (hr : es.toList = L.map (rowK w)) (T : t.place.size = L.length) (hdm : t.dummies = #[]) (hm : L.length ≤ t.mask)
    (nd : (L.map (·.2)).Nodup) (key : ∀ p ∈ L, IsN s.heap p.2 p.1) (ld : w.params.followText "set-order" = true ∨ t.led = true) (few : L.length < 64) {wanted M : Nat}
    (hw : SetTable.sizeAbove wanted = M + 1) (hM : MaskOk M) (hn : L.length * 5 < M * 3) {Q : Unit → Shared → Prop}
    (q : ∀ h' L' es' ep' t', Heap.SameBut a s.heap h' → NSet w h' a L' es' ep' t' → L'.Perm L → Q () { s with heap := h' }) : wpAny (model P w) A (setRelay a wanted) Q E s := by
  have sz := rows_size hr
  have hM2 : M ≤ 127 := by rcases hM with e | e | e <;> omega
  obtain ⟨t', order, e, hp, T', em, el, ep2, ed⟩ := relaid_ok t (hs := es.map (·.1)) (wanted := wanted) (M := M) (by rw [hw]; rfl) hM (by rw [Array.size_map, sz]; omega)
  rw [Array.size_map, sz] at hp
  obtain ⟨L2, r1, r2, r3⟩ := rows_order hr hp
  rw [← r3] at T'
  have sz2 : (order.filterMap (es[·]?)).size = L.length := by rw [rows_size r1, r2.length_eq]
  rw [setRelay_eq]
  refine wpAny_bind (wpAny_setState_of ho hd (by rw [sz]; exact table_fits T hdm hm) ?_)
  refine wp_if_neg (by rw [hw, sizeLine_eq]; omega) ?_
  try refine wpAny_bind (wpAny_pure ?_)
  rw [e]
  refine wpAny_bind (wp_if_neg (by rw [sz2, sz]; simp) ?_)
  try refine wpAny_bind (wpAny_pure ?_)
  refine wpAny_pure (wpAny_storeSet_of ho hd ?_ (by rw [sz2, sizeLine_eq]; omega))
  have sb : Heap.SameBut a s.heap (s.heap.update a (Obj.putSet (order.filterMap (es[·]?)) t')) := Heap.SameBut.update ..
  exact q _ L2 _ (ep + 1) t' sb ⟨⟨_, store_at ho hd, ⟨hex.1, hex.2.1, hex.2.2⟩, rfl⟩, r1, T', (r2.map (·.2)).nodup_iff.mpr nd, fun p hm2 => isN_but (key p (r2.mem_iff.mp hm2)) ho hd sb, by rw [el]; exact ld, by rw [r2.length_eq, em]; exact hn, by rw [r2.length_eq]; exact few⟩ r2

/-- one more -/
theorem nset_add (R : NSet w s.heap a L es ep t) {x : Addr} {k : NestedKey} (hx : IsN s.heap k x) (hu : A.units + 8 < cLine) (hfew : L.length + 1 < 64) {Q : Bool → Shared → Prop}
    (q : ∀ b h' L' es' ep' t', Heap.SameBut a s.heap h' → NSet w h' a L' es' ep' t' → (k ∈ L.map (·.2) → L' = L) → (k ∉ L.map (·.2) → L'.Perm ((x, k) :: L)) → Q b { s with heap := h' }) :
    wpAny (model P w) A (setAddHashed a (.ref x) (k.hash w)) Q E s := by
  obtain ⟨o, ho, hex, hd⟩ := R.ob
  have sz := rows_size R.rows
  have room := R.room
  unfold setAddHashed
  refine wpAny_holding ?_
  rw [show (100000 : Nat) = 99999 + 1 from rfl, setAddHashedIn_succ]
  refine wpAny_bind (wpAny_setState_of ho hd R.fits (wp_if_neg (by simp [byScan, Value.scannable]) ?_))
  try refine wpAny_bind (wpAny_pure ?_)
  refine wpAny_bind (nset_search R hx hu (fun hm => ?_) fun K hm hK hb => ?_)
  · exact wpAny_pure (q false s.heap L es ep t (Heap.SameBut.refl a s.heap) R (fun _ => rfl) fun z => absurd hm z)
  · dsimp only
    refine wpAny_bind (wpAny_setState_of ho hd R.fits ?_)
    dsimp only
    obtain ⟨q1, q2, q3, q4, q5, q6, q7, q8, q9⟩ := R.tab.put hK hb
    generalize hpt : t.put (way t.mask (k.hash w) K) = pt at q1 q3 q4 q5 q6 q7 q8 q9 ⊢
    obtain ⟨t1, p⟩ := pt
    dsimp only at q1 q3 q4 q5 q6 q7 q8 q9 ⊢
    subst q1
    have fin : ∀ t2 : SetTable, (∀ hs, TabOk t1 hs → TabOk t2 hs) → t2.mask = t1.mask → t2.led = t1.led → t2.tooFull = t1.tooFull → t2.fill = t1.fill → t2.place = t1.place → t2.dummies = t1.dummies →
        wpAny (model P w) A (do
          storeSet a (SetTable.insertAt es (SetTable.below t.place (way t.mask (k.hash w) K)) (k.hash w, .ref x)) t2
          if !false && t2.tooFull then setRelay a (SetTable.grown (es.size + 1))
          return true) Q E s := by
      intro t2 c1 c2 c3 c4 c5 c6 c7
      have rows1 : (SetTable.insertAt es (SetTable.below t.place (way t.mask (k.hash w) K)) (k.hash w, Value.ref x)).toList = (L.take (SetTable.below t.place (way t.mask (k.hash w) K)) ++ (x, k) :: L.drop (SetTable.below t.place (way t.mask (k.hash w) K))).map (rowK w) := by
        rw [SetTable.toList_insertAt, R.rows, List.map_append, List.map_cons, List.map_take, List.map_drop] <;> rfl
      have T2 := c1 _ q3
      generalize hpp : SetTable.below t.place (way t.mask (k.hash w) K) = p at q2 T2 rows1 ⊢
      have pm := put_perm L p (x, k)
      have he : (L.map (hashK w)).take p ++ k.hash w :: (L.map (hashK w)).drop p = (L.take p ++ (x, k) :: L.drop p).map (hashK w) := by
        rw [List.map_append, List.map_cons, List.map_take, List.map_drop] <;> rfl
      rw [he] at T2
      have len1 : (L.take p ++ (x, k) :: L.drop p).length = L.length + 1 := pm.length_eq
      have sz1 := rows_size rows1
      generalize SetTable.insertAt es p (k.hash w, Value.ref x) = es1 at rows1 sz1 ⊢
      generalize L.take p ++ (x, k) :: L.drop p = L1 at pm len1 T2 rows1 sz1
      have nd1 : (L1.map (·.2)).Nodup := by
        refine (pm.map (·.2)).nodup_iff.mpr ?_
        rw [List.map_cons]
        exact List.nodup_cons.mpr ⟨hm, R.nd⟩
      refine wpAny_bind (wpAny_storeSet_of ho hd ?_ (by rw [sz1, len1, sizeLine_eq]; omega))
      have sb : Heap.SameBut a s.heap (s.heap.update a (Obj.putSet es1 t2)) := Heap.SameBut.update ..
      have ho1 := store_at (es' := es1) (t' := t2) ho hd
      generalize s.heap.update a (Obj.putSet es1 t2) = h1 at sb ho1 ⊢
      have key1 : ∀ p ∈ L1, IsN h1 p.2 p.1 := fun p hp => by
        rcases List.mem_cons.mp (pm.mem_iff.mp hp) with e | hp
        · subst e; exact isN_but hx ho hd sb
        · exact isN_but (R.key p hp) ho hd sb
      have ld1 : w.params.followText "set-order" = true ∨ t2.led = true := by rw [c3, q5]; exact R.led
      have full_iff : t2.tooFull = decide ((L.length + 1) * 5 ≥ t2.mask * 3) := by
        unfold SetTable.tooFull
        rw [c5, q9, List.length_map]
      by_cases hf : t2.tooFull = true
      · have big : (L.length + 1) * 5 ≥ t.mask * 3 := by
          rw [full_iff, decide_eq_true_eq, c2, q4] at hf
          exact hf
        rw [sz]
        have go : ∀ M, SetTable.sizeAbove (SetTable.grown (L.length + 1)) = M + 1 → MaskOk M → (L.length + 1) * 5 < M * 3 → L1.length ≤ t2.mask →
            wpAny (model P w) A (setRelay a (SetTable.grown (L.length + 1))) (fun _ s' => wpAny (model P w) A (pure true) Q E s') E { s with heap := h1 } := fun M e1 e2 e3 e4 =>
          nset_relay (s := { s with heap := h1 }) ho1 ⟨hex.1, hex.2.1, hex.2.2⟩ rfl rows1 (by have := T2.sz; rwa [List.length_map] at this) T2.dm e4 nd1 key1 ld1 (by omega) e1 e2 (by rw [len1]; exact e3)
            fun h2 L2 es2 ep2 t3 sb2 R2 pm2 => wpAny_pure (q true h2 L2 es2 ep2 t3 (sb.trans sb2) R2 (fun z => absurd z hm) fun _ => pm2.trans pm)
        have two : (t.mask = 7 ∧ L.length = 4) ∨ (t.mask = 31 ∧ L.length = 18) := by
          rcases R.tab.mok with e | e | e
          · left; exact ⟨e, by omega⟩
          · right; exact ⟨e, by omega⟩
          · omega
        have run : wpAny (model P w) A (setRelay a (SetTable.grown (L.length + 1))) (fun _ s' => wpAny (model P w) A (pure true) Q E s') E { s with heap := h1 } := by
          rcases two with ⟨e1, e2⟩ | ⟨e1, e2⟩
          · exact go 31 (by rw [e2]; exact size_20) (.inr (.inl rfl)) (by omega) (by rw [len1, c2, q4]; omega)
          · exact go 127 (by rw [e2]; exact size_76) (.inr (.inr rfl)) (by omega) (by rw [len1, c2, q4]; omega)
        first
          | exact wpAny_bind (wp_if_pos (by simp [hf]) run)
          | exact wp_if_pos (by simp [hf]) (wpAny_bind run)
      · have sp : L1.length * 5 < t2.mask * 3 := by
          rw [full_iff, decide_eq_true_eq] at hf
          omega
        have last : wpAny (model P w) A (pure true) Q E { s with heap := h1 } := wpAny_pure (q true h1 L1 es1 (ep + 1) t2 sb ⟨⟨_, ho1, ⟨hex.1, hex.2.1, hex.2.2⟩, rfl⟩, rows1, T2, nd1, key1, ld1, sp, by omega⟩ (fun z => absurd z hm) fun _ => pm)
        first
          | exact wp_if_neg (by simp [hf]) last
          | exact wpAny_bind (wp_if_neg (by simp [hf]) (wpAny_pure last))
    have asIs := fin t1 (fun _ T => T) rfl rfl rfl rfl rfl rfl
    have notPlain := fin { t1 with plain := false } (fun _ T => ⟨T.ris, T.dm, T.sz, T.mok, T.bd, T.reach⟩) rfl rfl rfl rfl rfl rfl
    by_cases pl : t1.plain = true
    · refine wp_if_pos pl (wpAny_bind (key_byValue k _ 8 hx.1 _ _ _ fun b _ => ?_))
      cases b with
      | true => exact asIs
      | false => exact notPlain
    · exact wp_if_neg pl asIs

/-! ### the loop of set(x) -/
/-- L: the first i of ks, each key once -/
def Has (ks : List (Addr × NestedKey)) (i : Nat) (L : List (Addr × NestedKey)) : Prop := (∀ p ∈ L, p ∈ ks.take i) ∧ (∀ p ∈ ks.take i, p.2 ∈ L.map (·.2)) ∧ L.length ≤ i
theorem Has.next {ks L L' : List (Addr × NestedKey)} {i : Nat} {x : Addr × NestedKey} (g : Has ks i L) (h : ks[i]? = some x) (c : (x.2 ∈ L.map (·.2) ∧ L' = L) ∨ L'.Perm (x :: L)) : Has ks (i + 1) L' := by
  have tk : ks.take (i + 1) = ks.take i ++ [x] := by rw [List.take_succ, h] <;> rfl
  obtain ⟨g1, g2, g3⟩ := g
  unfold Has
  rw [tk]
  rcases c with ⟨c, rfl⟩ | c
  · refine ⟨fun p hp => List.mem_append_left _ (g1 p hp), fun p hp => ?_, by omega⟩
    rcases List.mem_append.mp hp with z | z
    · exact g2 p z
    · rw [List.mem_singleton.mp z]; exact c
  · refine ⟨fun p hp => ?_, fun p hp => (c.map (·.2)).mem_iff.mpr ?_, by rw [c.length_eq]; exact Nat.succ_le_succ g3⟩
    · rcases List.mem_cons.mp (c.mem_iff.mp hp) with z | z
      · rw [z]; exact List.mem_append_right _ (List.mem_singleton.mpr rfl)
      · exact List.mem_append_left _ (g1 p z)
    · rcases List.mem_append.mp hp with z | z
      · exact List.mem_cons_of_mem _ (g2 p z)
      · rw [List.mem_singleton.mp z]; exact List.mem_cons_self
theorem NSet.moved {h h' : Heap} {a : Addr} {L : List (Addr × NestedKey)} {es : Array (Int × Value)} {ep : Nat} {t : SetTable} (R : NSet w h a L es ep t) (ha : ∀ o, h.get? a = some o → h'.get? a = some o) (key : ∀ p ∈ L, IsN h' p.2 p.1) : NSet w h' a L es ep t :=
  have ⟨o, ho, r⟩ := R.ob
  ⟨⟨o, ha o ho, r⟩, R.rows, R.tab, R.nd, key, R.led, R.room, R.few⟩
/-- the object of a new set -/
def freshSet (w : World) : Obj := { cls := .type "set", dict := none, data := .set #[] 0 (.fresh 0 0 (!w.params.followText "set-order")) }
theorem nset_fresh {h : Heap} {a : Addr} (ho : h.get? a = some (freshSet w)) : NSet w h a [] #[] 0 (.fresh 0 0 (!w.params.followText "set-order")) :=
  { ob := ⟨_, ho, ⟨rfl, rfl, rfl⟩, rfl⟩
    rows := rfl
    tab := { ris := List.Pairwise.nil, dm := rfl, sz := rfl, mok := .inl rfl, bd := fun x hx => (by cases hx), reach := fun i h j hi => (by simp at hi) }
    nd := List.nodup_nil
    key := fun p hp => (by cases hp)
    led := by
      show _ ∨ (!w.params.followText "set-order") = true
      cases w.params.followText "set-order"
      · exact .inr rfl
      · exact .inl rfl
    room := by show 0 * 5 < 7 * 3; decide
    few := by show 0 < 64; decide }
theorem nset_loop {I : Addr} {fp wr : List Addr} {n : Nat} {Pv : Nat → Value → Prop} {St : Nat → Shared → Prop} {R : Result → Shared → Prop} (W : WalksS P w A.in1 I fp wr (fun a b => b = a) n Pv St) (S : Addr) (hSf : S ∉ fp) (ks : List (Addr × NestedKey)) (hn : ks.length = n) (few : n < 64)
    (val : ∀ i v, Pv i v → ∃ p, ks[i]? = some p ∧ v = .ref p.1) (h0 : Heap) (hk : ∀ p ∈ ks, IsN h0 p.2 p.1) (away : ∀ b ∈ S :: wr, h0.get? b = none) (hu : A.in1.units + 8 < cLine) :
    ∀ (m i : Nat) (s : Shared), i + m = n → St i s → (∀ b o, h0.get? b = some o → s.heap.get? b = some o) → (∃ L es ep t, NSet w s.heap S L es ep t ∧ Has ks i L) →
      (∀ s', Moved (S :: wr) (fun a b => b = a) s s' → (∃ L es ep t, NSet w s'.heap S L es ep t ∧ Has ks n L) → R (.ok (.ret .none)) s') →
      codeAny (model P w) A (.builtin "set.update.loop" ⟨[.ref S, .ref I], []⟩) R s := by
  have Sw : S ∉ wr := fun h => hSf (W.sub _ h)
  have wider : ∀ b ∈ wr, b ∈ S :: wr := fun b hb => List.mem_cons_of_mem _ hb
  have stay : ∀ {s s' : Shared}, Moved wr (fun a b => b = a) s s' → (∀ b o, h0.get? b = some o → s.heap.get? b = some o) → ∀ b o, h0.get? b = some o → s'.heap.get? b = some o := fun hm k b o e => by
    refine hm.heap b o (fun hb => ?_) (k b o e)
    rw [away b (wider b hb)] at e
    cases e
  intro m
  induction m with
  | zero =>
    intro i s hi hst keep ⟨L, es, ep, t, hS, g⟩ fin
    obtain rfl : i = n := by omega
    refine codeAny_builtin PyProof.Rows.F.entry_set_update_loop ?_
    rw [Around.under_plainId PyProof.Rows.F.plain_set_update_loop _]
    show wpAny _ A.in1 (pyNext (.ref I) >>= _) _ _ s
    refine wpAny_bind (W.done s _ _ hst fun s' hm => ?_)
    have keep' := stay hm keep
    exact wpAny_pure (fin s' (hm.mono wider) ⟨L, es, ep, t, hS.moved (fun o e => hm.heap S o Sw e) fun p hp => isN_keep (hk p (List.mem_of_mem_take (g.1 p hp))) keep', g⟩)
  | succ m ih =>
    intro i s hi hst keep ⟨L, es, ep, t, hS, g⟩ fin
    refine codeAny_builtin PyProof.Rows.F.entry_set_update_loop ?_
    rw [Around.under_plainId PyProof.Rows.F.plain_set_update_loop _]
    show wpAny _ A.in1 (pyNext (.ref I) >>= _) _ _ s
    refine wpAny_bind (W.item i s _ _ (by omega) hst fun v s' hP hst' hm => ?_)
    obtain ⟨p, hp, rfl⟩ := val i v hP
    have keep' := stay hm keep
    have hx : IsN s'.heap p.2 p.1 := isN_keep (hk p (List.mem_of_getElem? hp)) keep'
    show wpAny _ A.in1 (holding [Value.ref p.1] (setAdd S (.ref p.1)) >>= _) _ _ s'
    refine wpAny_bind (wpAny_holding ?_)
    unfold setAdd
    refine wpAny_holding (wpAny_bind ((nestedKind P w).pyHash hu hx ?_))
    have R' : NSet w s'.heap S L es ep t := hS.moved (fun o e => hm.heap S o Sw e) fun q hq => isN_keep (hk q (List.mem_of_mem_take (g.1 q hq))) keep'
    refine nset_add (s := { s' with toks := s'.toks + (nestedKind P w).draws p.2 }) R' hx hu (by have := g.2.2; omega) fun b h' L' es' ep' t' sb R2 c1 c2 => ?_
    have g' : Has ks (i + 1) L' := g.next hp (by
      rcases Classical.em (p.2 ∈ L.map (·.2)) with c | c
      · exact .inl ⟨c, c1 c⟩
      · exact .inr (c2 c))
    refine wpAny_pure ⟨plainId_quiet PyProof.Rows.F.plain_set_update_loop _, ih (i + 1) _ (by omega) (W.frame _ s' _ _ hst' (Nat.le_add_right _ _) fun b hb o e => ?_) (fun b o e => (sb.2 b fun z => ?_).trans (keep' b o e)) ⟨L', es', ep', t', R2, g'⟩ fun s2 hm2 R3 => ?_⟩
    · rw [sb.2 b fun z => hSf (by rw [← z]; exact hb)]
      exact e
    · rw [z, away S List.mem_cons_self] at e
      cases e
    · refine fin s2 (Moved.trans W.gtrans ((hm.mono wider).then_heap (Nat.le_add_right _ _) fun b o hb e => ?_) hm2) R3
      rw [sb.2 b fun z => hb (by rw [z]; exact List.mem_cons_self)]
      exact e
end
end G

set_option Elab.async false
set_option linter.all false
set_option maxRecDepth 100000
set_option maxHeartbeats 4000000
/-! set(x) of a list or a tuple. -/
namespace G
open PySem PySem.Spec L2

section
variable {P : Program} {w : World} {A : Around} {E : Value → Shared → Prop} {s : Shared}
/-- the thing at l is walked through its items -/
structure Walked (P : Program) (w : World) (h : Heap) (l : Addr) (items : Array Value) : Prop where
  cls : ∃ (c : String) (o : Obj), h.get? l = some o ∧ o.cls = .type c ∧ (isSubtype (.type c) (.type "set") = pure false ∧ isSubtype (.type c) (.type "frozenset") = pure false) ∧ (Value.type c == Value.type "dict") = false
  it : ∀ (A : Around) (s1 : Shared) (E : Value → Shared → Prop) (Q : Value → Shared → Prop), A.handled = none → (∀ o, h.get? l = some o → s1.heap.get? l = some o) →
    (∀ (io : Obj) (Pv : Nat → Value → Prop) (St : Nat → Heap → Prop), (∀ A' : Around, A'.handled = none → Walks P w A' s1.heap.objs.size [s1.heap.objs.size, l] [s1.heap.objs.size] items.size Pv St) → (∀ i v, Pv i v → items[i]? = some v) →
      St 0 (s1.heap.push io) → Q (.ref s1.heap.objs.size) { s1 with heap := s1.heap.push io }) → wpAny (model P w) A (pyIter (.ref l)) Q E s1
theorem Walked.list {h : Heap} {l : Addr} {items : Array Value} (hl : h.IsList l items) : Walked P w h l items := by
  obtain ⟨o, ho, hc, n, hd⟩ := hl
  refine ⟨⟨"list", o, ho, hc, ⟨F.sub_list_set, F.sub_list_frozenset⟩, by decide⟩, fun A s1 E Q hh k q => ?_⟩
  have h1 : s1.heap.IsList l items := ⟨o, k o ho, hc, n, hd⟩
  refine wpAny_pyIter_list h1 (q _ _ _ (fun A' hA' => Walks.list hA' _ l (Nat.ne_of_lt (Heap.lt_size (k o ho))) items) (fun i v e => e) ⟨⟨_, Heap.get?_push_size _ rfl, rfl, rfl⟩, h1.push _⟩)
theorem Walked.tuple {h : Heap} {l : Addr} {items : Array Value} (hl : h.IsTuple l items) : Walked P w h l items := by
  obtain ⟨o, ho, hc, n, hd⟩ := hl
  refine ⟨⟨"tuple", o, ho, hc, ⟨F.sub_tuple_set, F.sub_tuple_frozenset⟩, by decide⟩, fun A s1 E Q hh k q => ?_⟩
  have h1 : s1.heap.IsTuple l items := ⟨o, k o ho, hc, n, hd⟩
  refine wpAny_pyIter_tuple h1 (q _ _ _ (fun A' hA' => Walks.tuple hA' _ l (Nat.ne_of_lt (Heap.lt_size (k o ho))) items) (fun i v e => e) ⟨⟨_, Heap.get?_push_size _ rfl, rfl, rfl⟩, h1.push _⟩)

/-- what the loop of set(x) brings about, Post of the heap -/
structure Fills (P : Program) (w : World) (h : Heap) (n : Nat) (A : Around) (items : Array Value) (Post : Heap → Prop) : Prop where
  run : ∀ {I l : Addr} {Pv : Nat → Value → Prop} {St : Nat → Heap → Prop} {s1 : Shared} {R : Result → Shared → Prop}, Walks P w A.in1 I [I, l] [I] items.size Pv St → (∀ i v, Pv i v → items[i]? = some v) → St 0 s1.heap → l < n → I = n + 1 →
    s1.heap.get? n = some (freshSet w) → (∀ b o, h.get? b = some o → s1.heap.get? b = some o) →
    (∀ s', Moved [n, I] (fun a b => b = a) s1 s' → Post s'.heap → R (.ok (.ret .none)) s') → codeAny (model P w) A (.builtin "set.update.loop" ⟨[.ref n, .ref I], []⟩) R s1

set_option maxHeartbeats 8000000 in
/-- set(x) -/
theorem set_of_walked {l : Addr} {items : Array Value} {Q : Value → Shared → Prop} {Post : Heap → Prop} (hh : A.handled = none) (W : Walked P w s.heap l items) (fill : Fills P w s.heap s.heap.objs.size A.in1.in1 items Post)
    (q : ∀ (h' : Heap) (tk : Nat), Post h' → (∀ b o, s.heap.get? b = some o → h'.get? b = some o) → Q (.ref s.heap.objs.size) { s with heap := h', toks := tk }) : wpAny (model P w) A (call (.type "set") [.ref l]) Q E s := by
  obtain ⟨c0, tl, hmro⟩ := F.called_set.mro
  have hmade := F.called_set.made
  have hsub := F.called_set.sub
  refine wpAny_call (codeAny_of_tree ?_)
  show wpAny _ _ (callAny (.type "set") _) _ _ _
  refine wpAny_pure ⟨Code.quiet_builtin _ (by decide +kernel), codeAny_builtin F.entry_type_call ?_⟩
  rw [Around.under_plain (weight_type_call_type "set" [.ref l] []) rfl]
  have k1 := F.called_set.notType
  have k2 := F.called_set.canCreate
  have k3 := F.typeCall_set_1 (.ref l)
  repeat (any_goals (first | assumption | wp_step))

  refine codeAny_mono (code_set_led1 (.ref l) (E := E) (Q₁ := fun v s1 => v = .ref s.heap.objs.size ∧ s1 = { s with heap := s.heap.push (freshSet w) }) ⟨rfl, rfl⟩) fun r s1 hr => ?_
  cases r with
  | error e => exact hr
  | ok fl =>
    cases fl with
    | ret v =>
      obtain ⟨rfl, rfl⟩ := hr
      have hS : (s.heap.push (freshSet w)).get? s.heap.objs.size = some (freshSet w) := Heap.get?_push_size _ rfl
      have ty : Shared.TypeIs { s with heap := s.heap.push (freshSet w) } (.ref s.heap.objs.size) "set" := ⟨_, hS, rfl⟩
      have m1 := F.called_set.init.lookup
      have m2 := F.called_set.init.bind (.ref s.heap.objs.size)
      repeat (any_goals (first | assumption | wp_step))
      refine codeAny_mono (codeAny_call_builtin (R := wants (fun r s2 => r = .none ∧ ∃ h' tk, s2 = { s with heap := h', toks := tk } ∧ Post h' ∧ ∀ b o, s.heap.get? b = some o → h'.get? b = some o) E) F.called_set.init.plain F.entry_set_init (check_set_init_1 ty ?_)) fun r2 s2 hr2 => ?_
      · obtain ⟨c, ol, ol1, ol2, ⟨ol3, ol4⟩, ol5⟩ := W.cls
        obtain ⟨ocls, odict, odata, oslots⟩ := ol
        obtain rfl : ocls = .type c := ol2
        have ol1' : (s.heap.push (freshSet w)).get? l = some { cls := .type c, dict := odict, data := odata, slots := oslots } := Heap.get?_push_of_some _ ol1
        have lt : l < s.heap.objs.size := Heap.lt_size ol1
        unfold Builtin.«set.__init__» noKeywords Builtin.Frozenset.updateFrom
        generalize hPI : pyIter = PI
        wp_walk
        subst hPI
        refine W.it A.in1.in1 _ _ _ (by simp [hh]) (fun o e => Heap.get?_push_of_some _ e) fun io Pv St wk val st0 => ?_
        have sz : (s.heap.push (freshSet w)).objs.size = s.heap.objs.size + 1 := Heap.size_push ..
        refine wpAny_bind (wpAny_runValue (fill.run (wk A.in1.in1.in1 (by simp [hh])) val st0 lt sz (Heap.get?_push_of_some _ hS) (fun b o e => Heap.get?_push_of_some _ (Heap.get?_push_of_some _ e)) fun s' hm hp => ?_))
        obtain ⟨h', g2, d', tk', os'⟩ := s'
        have e1 : g2 = s.gens := hm.gens
        have e2 : d' = s.drawn := hm.drawn
        have e3 : os' = s.os := hm.os
        subst e1 e2 e3
        refine wpAny_pure ?_
        show wpAny _ _ (ret Value.none) _ _ _
        refine wpAny_pure ⟨rfl, h', tk', rfl, hp, fun b o e => hm.heap b o (fun z => ?_) (Heap.get?_push_of_some _ (Heap.get?_push_of_some _ e))⟩
        have lb : b < s.heap.objs.size := Heap.lt_size e
        rcases List.mem_cons.mp z with z | z
        · exact absurd lb (by rw [z]; exact Nat.lt_irrefl _)
        · have z3 : b = s.heap.objs.size + 1 := (List.mem_singleton.mp z).trans sz
          exact absurd lb (by rw [z3]; exact Nat.not_lt.mpr (Nat.le_succ _))
      · cases r2 with
        | error e => exact hr2
        | ok fl2 =>
          cases fl2 with
          | ret r =>
            obtain ⟨rfl, h', tk, rfl, p1, p2⟩ := hr2
            repeat (any_goals (first | assumption | wp_step))
            exact q _ _ p1 p2
          | _ => exact hr2.elim
    | _ => exact hr.elim

theorem fills_keys {h : Heap} {n : Nat} {items : Array Value} (hn : n = h.objs.size) (ks : List (Addr × NestedKey)) (hi : items.toList = ks.map fun p => Value.ref p.1) (few : ks.length < 64) (hk : ∀ p ∈ ks, IsN h p.2 p.1) (hu : A.in1.units + 8 < cLine) :
    Fills P w h n A items fun h' => ∃ L es ep t, NSet w h' n L es ep t ∧ Has ks ks.length L := by
  constructor
  intro I l Pv St s1 R W val st0 hl hI hS keep fin
  subst hn
  have sz : items.size = ks.length := by rw [← Array.length_toList, hi, List.length_map]
  have none : ∀ b, h.objs.size ≤ b → h.get? b = none := fun b hb => by
    cases e : h.get? b with
    | none => rfl
    | some o => exact absurd (Heap.lt_size e) (Nat.not_lt.mpr hb)
  rw [sz] at W
  refine nset_loop W.toS h.objs.size (fun hm => ?_) ks rfl few (fun i v hv => ?_) h hk (fun b hb => none b ?_) hu ks.length 0 s1 (by omega) st0 keep ⟨[], #[], 0, _, nset_fresh hS, fun p hp => (by cases hp), fun p hp => (by simp at hp), Nat.le_refl _⟩ fun s' hm ⟨L, es, ep, t, a1, a2⟩ => fin s' hm ⟨L, es, ep, t, a1, a2⟩
  · rcases List.mem_cons.mp hm with e | e
    · exact absurd (e.trans hI) (Nat.ne_of_lt (Nat.lt_succ_self _))
    · exact absurd hl (by rw [← List.mem_singleton.mp e]; exact Nat.lt_irrefl _)
  · have e : items.toList[i]? = some v := by rw [Array.getElem?_toList]; exact val i v hv
    rw [hi, List.getElem?_map] at e
    obtain ⟨p, hp, e⟩ := Option.map_eq_some_iff.mp e
    exact ⟨p, hp, e.symm⟩
  · rcases List.mem_cons.mp hb with e | e
    · exact Nat.le_of_eq e.symm
    · rw [List.mem_singleton.mp e, hI]; exact Nat.le_succ _
theorem fills_ints {h : Heap} {n : Nat} {items : Array Value} (ns : List Int) (hi : PyProof.Rows.IntsAre items.toList ns) (hb : ns.length + 1 < scanBound) :
    Fills P w h n A items fun h' => ∃ c, c ≤ ns.length ∧ SetR w h' n (fun j => decide (j ∈ ns)) c := by
  constructor
  intro I l Pv St s1 R W val st0 hl hI hS keep fin
  have sz : items.size = ns.length := by
    have z := PyProof.Rows.IntsAre.length hi
    rwa [Array.length_toList] at z
  refine set_update_ints W.toS n (fun hm => ?_) ns sz hb (fun i v hv => ?_) (items.size - 0) 0 s1 (by omega) (Nat.zero_le _) st0 ⟨0, Nat.le_refl 0, setR_new_at hS⟩ fun s' c hm hc R2 => fin s' hm ⟨c, by omega, R2⟩
  · rcases List.mem_cons.mp hm with e | e
    · exact absurd (e.trans hI) (Nat.ne_of_lt (Nat.lt_succ_self _))
    · exact absurd hl (by rw [← List.mem_singleton.mp e]; exact Nat.lt_irrefl _)
  · have hi2 : i < ns.length := by rw [← sz]; exact (Array.getElem?_eq_some_iff.mp (val i v hv)).1
    obtain ⟨t, e⟩ := PyProof.Rows.IntsAre.int_at hi i v (by rw [Array.getElem?_toList]; exact val i v hv)
    refine ⟨ns[i], t, List.getElem?_eq_getElem hi2, ?_⟩
    rw [e, List.getD_eq_getElem?_getD, List.getElem?_eq_getElem hi2] <;> rfl
end
end G

set_option Elab.async false
set_option linter.all false
set_option maxRecDepth 100000
set_option maxHeartbeats 4000000
/-! The order of nested data (ints, texts, tuples of any shapes): compared up to the first place that differs. -/
namespace G
open PySem PySem.Spec

open PyProof.Rows (lexLt itemOrd itemLt lex_self lex_diff lex_cons lex_irrefl)
open PySem.W (lex_atom lex_pre lex_one str_of_cps)

/-! ### a key as a row of signs -/
mutual
def toks : NestedKey → List (Int ⊕ List Nat)
  | .none => [.inl 0]
  | .num i => [.inl 1, .inl i]
  | .text x => [.inl 2, .inr x.cps.toList]
  | .tup ks => .inl 3 :: toksAll ks
def toksAll : List NestedKey → List (Int ⊕ List Nat)
  | [] => [.inl 0]
  | k :: ks => .inl 1 :: (toks k ++ toksAll ks)
end
def klt (x y : NestedKey) : Bool := lexLt itemOrd (toks x) (toks y)
def kltAll (x y : List NestedKey) : Bool := lexLt itemOrd (toksAll x) (toksAll y)
theorem lex_two {p q : Int ⊕ List Nat} (h : p ≠ q) (a b c d : List (Int ⊕ List Nat)) : lexLt itemOrd (p :: a) (q :: b) = lexLt itemOrd (p :: c) (q :: d) := (lex_diff (O := itemOrd) h).trans (lex_diff (O := itemOrd) h).symm
theorem lex_in {p : Int ⊕ List Nat} {a b c d : List (Int ⊕ List Nat)} (h : lexLt itemOrd a b = lexLt itemOrd c d) : lexLt itemOrd (p :: a) (p :: b) = lexLt itemOrd (p :: c) (p :: d) := (lex_self (O := itemOrd) _ _ _).trans (h.trans (lex_self (O := itemOrd) _ _ _).symm)
mutual
theorem toks_apart : ∀ (x y : NestedKey), NestedKey.beq x y = false → ∀ l m, lexLt itemOrd (toks x ++ l) (toks y ++ m) = lexLt itemOrd (toks x) (toks y)
  | .none, .none, h, _, _ => absurd h (by simp [NestedKey.beq])
  | .none, .num _, _, _, _ | .none, .text _, _, _, _ | .none, .tup _, _, _, _ => lex_two (by simp) _ _ _ _
  | .num _, .none, _, _, _ | .num _, .text _, _, _, _ | .num _, .tup _, _, _, _ => lex_two (by simp) _ _ _ _
  | .text _, .none, _, _, _ | .text _, .num _, _, _, _ | .text _, .tup _, _, _, _ => lex_two (by simp) _ _ _ _
  | .tup _, .none, _, _, _ | .tup _, .num _, _, _, _ | .tup _, .text _, _, _, _ => lex_two (by simp) _ _ _ _
  | .num a, .num b, h, l, m => by
    have ne : (Sum.inl a : Int ⊕ List Nat) ≠ .inl b := fun e => by rw [Sum.inl.inj e] at h; simp [NestedKey.beq] at h
    exact lex_in (lex_two ne _ _ _ _)
  | .text a, .text b, h, l, m => by
    have ne : (Sum.inr a.cps.toList : Int ⊕ List Nat) ≠ .inr b.cps.toList := fun e => by
      rw [str_of_cps (Sum.inr.inj e)] at h
      simp [NestedKey.beq] at h
    exact lex_in (lex_two ne _ _ _ _)
  | .tup xs, .tup ys, h, l, m => by
    rw [NestedKey.beq] at h
    simp only [toks, List.cons_append]
    exact lex_in (toksAll_apart xs ys h l m)
theorem toksAll_apart : ∀ (xs ys : List NestedKey), NestedKey.beqAll xs ys = false → ∀ l m, lexLt itemOrd (toksAll xs ++ l) (toksAll ys ++ m) = lexLt itemOrd (toksAll xs) (toksAll ys)
  | [], [], h, _, _ => absurd h (by simp [NestedKey.beqAll])
  | [], _ :: _, _, _, _ => by simp only [toksAll, List.cons_append]; exact lex_two (by simp) _ _ _ _
  | _ :: _, [], _, _, _ => by simp only [toksAll, List.cons_append]; exact lex_two (by simp) _ _ _ _
  | x :: xs, y :: ys, h, l, m => by
    rw [NestedKey.beqAll] at h
    simp only [toksAll, List.cons_append, List.append_assoc]
    refine lex_in ?_
    cases hx : NestedKey.beq x y with
    | false => exact (toks_apart x y hx _ _).trans (toks_apart x y hx _ _).symm
    | true =>
      rw [hx, Bool.true_and] at h
      rw [NestedKey.eq_of_beq x y hx]
      exact (lex_pre _ _ _).trans ((toksAll_apart xs ys h l m).trans (lex_pre _ _ _).symm)
end
theorem klt_tup (xs ys : List NestedKey) : klt (.tup xs) (.tup ys) = kltAll xs ys := by
  unfold klt kltAll
  simp only [toks]
  exact lex_self (O := itemOrd) _ _ _
theorem kltAll_cons (x y : NestedKey) (xs ys : List NestedKey) : kltAll (x :: xs) (y :: ys) = if NestedKey.beq x y = true then kltAll xs ys else klt x y := by
  unfold kltAll klt
  simp only [toksAll]
  rw [lex_self (O := itemOrd)]
  cases h : NestedKey.beq x y with
  | true => rw [if_pos rfl, NestedKey.eq_of_beq x y h]; exact lex_pre _ _ _
  | false => rw [if_neg (by simp)]; exact toks_apart x y h _ _
theorem kltAll_nil : kltAll [] [] = false := lex_irrefl _
theorem kltAll_nc (y : NestedKey) (ys : List NestedKey) : kltAll [] (y :: ys) = true := by
  unfold kltAll
  simp only [toksAll]
  rw [lex_diff (O := itemOrd) (by simp)]
  rfl
theorem kltAll_cn (x : NestedKey) (xs : List NestedKey) : kltAll (x :: xs) [] = false := by
  unfold kltAll
  simp only [toksAll]
  rw [lex_diff (O := itemOrd) (by simp)]
  rfl
theorem klt_num (a b : Int) : klt (.num a) (.num b) = decide (a < b) := by
  unfold klt
  simp only [toks]
  rw [lex_self (O := itemOrd), lex_one]
  rfl
theorem klt_text (a b : Str) : klt (.text a) (.text b) = decide (a.cps.toList < b.cps.toList) := by
  unfold klt
  simp only [toks]
  rw [lex_self (O := itemOrd), lex_one]
  rfl
/-- the signs tell the key -/
theorem toks_ne {x y : NestedKey} (h : NestedKey.beq x y = false) : toks x ≠ toks y := fun e => by
  have h1 := toks_apart x y h [] [.inl 0]
  have h2 := lex_irrefl (O := itemOrd) (toks x)
  rw [e, List.append_nil] at h1
  rw [lex_irrefl] at h1
  have h3 : ∀ l : List (Int ⊕ List Nat), lexLt itemOrd l (l ++ [.inl 0]) = true := by
    intro l
    induction l with
    | nil => rfl
    | cons a l ih => rw [List.cons_append, lex_self (O := itemOrd)]; exact ih
  rw [h3] at h1
  cases h1
theorem toks_inj {x y : NestedKey} (e : toks x = toks y) : x = y := by
  cases h : NestedKey.beq x y with
  | true => exact NestedKey.eq_of_beq x y h
  | false => exact absurd e (toks_ne h)

/-! ### data that can be compared -/
mutual
def kcomp : NestedKey → NestedKey → Bool
  | .num _, .num _ => true
  | .text _, .text _ => true
  | .tup xs, .tup ys => kcompAll xs ys
  | _, _ => false
def kcompAll : List NestedKey → List NestedKey → Bool
  | x :: xs, y :: ys => if NestedKey.beq x y = true then kcompAll xs ys else kcomp x y
  | [], _ => true
  | _ :: _, [] => true
end
mutual
/-- v is the key k; no truth values, no None -/
inductive NV (h : Heap) : NestedKey → Value → Prop
  | int (i t) : NV h (.num i) (.int i t)
  | text (x t) : NV h (.text x) (.str x t)
  | tup {a o vs n ks} : h.get? a = some o → o.cls = .type "tuple" → o.data = .seq vs n → NVs h ks vs.toList → NV h (.tup ks) (.ref a)
inductive NVs (h : Heap) : List NestedKey → List Value → Prop
  | nil : NVs h [] []
  | cons {k v ks vs} : NV h k v → NVs h ks vs → NVs h (k :: ks) (v :: vs)
end
mutual
theorem NV.nested {h : Heap} : ∀ {k : NestedKey} {v : Value}, NV h k v → NestedIs h k v
  | _, _, .int i t => .int i t
  | _, _, .text x t => .text x t
  | _, _, .tup a b c d => .tup a b c (NVs.nested d)
theorem NVs.nested {h : Heap} : ∀ {k : List NestedKey} {v : List Value}, NVs h k v → NestedAll h k v
  | _, _, .nil => .nil
  | _, _, .cons a b => .cons (NV.nested a) (NVs.nested b)
end

/-! ### x < y of the values -/
/-- what the first place that differs answers: k -/
inductive FirstR (A : Around) (s : Shared) (fin : Bool) : List (Value × Value) → Bool → Prop
  | nil : FirstR A s fin [] fin
  | yes {p q r k} : PySem.SeqAt.EqAt A s p q true → FirstR A s fin r k → FirstR A s fin ((p, q) :: r) k
  | no {p q r k} : PySem.SeqAt.EqAt A s p q false → PySem.SeqAt.RcLt A s p q k → FirstR A s fin ((p, q) :: r) k
section
open PySem.SeqAt
open AutoSeq1 (wpAny_loadPart')
theorem tuple_lt_first (l b : Addr) (items items2 : Array Value) (n n2 : Nat) (dd dd2 : Option Addr) (sl sl2 : Array (Option Value)) (k : Bool) :
    Meets (Builtin.«tuple.__lt__» ⟨[.ref l, .ref b], []⟩) (fun A R s => s.heap.get? l = some { cls := .type "tuple", dict := dd, data := .seq items n, slots := sl } ∧ s.heap.get? b = some { cls := .type "tuple", dict := dd2, data := .seq items2 n2, slots := sl2 } ∧
      FirstR A.in1 s (decide (items.size < items2.size)) (items.toList.zip items2.toList) k ∧ R (.ok (.ret (.bool k))) s) :=
  .of_wp fun prog w A R s h => by
    obtain ⟨hp, g, d, tk, os⟩ := s
    obtain ⟨hl, hb, hF, h⟩ := h
    have f2 := AutoSeq1.sub_tuple_tuple
    wp_walk using wpAny_loadPart' hl, wpAny_loadPart' hb, wpAny_forIn_list _ (fun rest r s' => (r.1 = none ∧ s' = ⟨hp, g, d, tk, os⟩) ∧ FirstR A.in1 ⟨hp, g, d, tk, os⟩ (decide (items.size < items2.size)) rest k) _
    case turn =>
      rintro ⟨y, x⟩ rest r s' ⟨⟨hr, rfl⟩, hG⟩
      cases hG with
      | yes e1 e2 =>
        refine wpAny_bind (e1 prog w _ _ ?_)
        wp_walk
        exact ⟨⟨rfl, rfl⟩, e2⟩
      | no e1 e2 =>
        have e3 := e2 prog w
        refine wpAny_bind (e1 prog w _ _ ?_)
        generalize richCompare .Lt y x = m at e3 ⊢
        wp_walk
        refine e3 _ _ ?_
        wp_walk
        exact ⟨_, rfl, h⟩
    case fin =>
      rintro ⟨r1, r2⟩ s' ⟨⟨hr, rfl⟩, hG⟩
      cases hr
      cases hG
      wp_walk
      exact ⟨_, rfl, by simpa [Builtin.Tuple.tupleCompareSizes] using h⟩
    case h => exact ⟨⟨rfl, rfl⟩, hF⟩
theorem RcLt.tuples_first {A : Around} {s : Shared} {l b : Addr} {items items2 : Array Value} {k : Bool} (hl : s.heap.IsTuple l items) (hb : s.heap.IsTuple b items2) (hu : A.units < cLine)
    (h : FirstR A.in1 s (decide (items.size < items2.size)) (items.toList.zip items2.toList) k) : RcLt A s (.ref l) (.ref b) k := fun prog w E Q q => by
  obtain ⟨⟨c1, d1, t1, z1⟩, o1, hc1, n1, hd1⟩ := id hl
  obtain ⟨⟨c2, d2, t2, z2⟩, o2, hc2, n2, hd2⟩ := id hb
  simp only at hc1 hd1 hc2 hd2
  subst hc1 hd1 hc2 hd2
  exact richCompare_meets_room (op := .Lt) ⟨_, o1, rfl⟩ ⟨_, o2, rfl⟩ F.slot_tuple_lt F.entry_tuple_lt (F.args_tuple_lt_2 _ _) (tuple_lt_first l b items items2 n1 n2 d1 d2 z1 z2 k) ⟨o1, o2, h, show Value.bool k ≠ Value.notImplemented ∧ Q (.bool k) s from ⟨(fun x => nomatch x), q⟩⟩ hu
end
end G

set_option Elab.async false
set_option linter.all false
set_option maxRecDepth 100000
set_option maxHeartbeats 4000000
/-! Sorting lists of nested tuples of any shapes. -/
namespace G
open PySem PySem.Spec
open PyProof.Rows (lexLt itemOrd itemLt lex_self lex_diff lex_cons lex_irrefl listOrd keyKind' keyLt' oneLt' firstOfTuple' oneTypeOnly' general' oneType' tuples' oneLt'_eq keyLt'_oneType keyKind'_eq oneTypeOnly'_eq)
open PySem.W (KatLex kat_nil kat_cons kat_yes kat_no kat_lt kas_first_eq)

theorem NVs.len {h : Heap} : ∀ {ks : List NestedKey} {vs : List Value}, NVs h ks vs → vs.length = ks.length
  | _, _, .nil => rfl
  | _, _, .cons _ t => by rw [List.length_cons, List.length_cons, t.len]
section
variable {prog : Program} {w : World} {A : Around} {E : Value → Shared → Prop} {s : Shared}
mutual
theorem rcLt_key : ∀ (x y : NestedKey) (A : Around) (s : Shared) (a b : Value), NV s.heap x a → NV s.heap y b → kcomp x y = true → A.units + min x.depth y.depth < cLine → PySem.SeqAt.RcLt A s a b (klt x y)
  | .num i, y, A, s, _, _, ra, rb, c, _ => by
    cases ra
    cases rb with
    | int j u =>
      intro prog w E Q q
      rw [klt_num] at q
      exact P.lt_int q
    | _ => simp [kcomp] at c
  | .text i, y, A, s, _, _, ra, rb, c, _ => by
    cases ra
    cases rb with
    | text j u =>
      intro prog w E Q q
      rw [klt_text] at q
      exact P.lt_str q
    | _ => simp [kcomp] at c
  | .tup xs, y, A, s, _, _, ra, rb, c, hu => by
    cases ra with
    | @tup l o vs n _ h1 h2 h3 h4 =>
      cases rb with
      | @tup l' o' vs' n' ys k1 k2 k3 k4 =>
        rw [klt_tup]
        refine RcLt.tuples_first ⟨_, h1, h2, _, h3⟩ ⟨_, k1, k2, _, k3⟩ (PySem.SeqAt.room_here hu) (firstR_keys xs ys A.in1 s vs.toList vs'.toList h4 k4 (by simpa [kcomp] using c) (PySem.SeqAt.room_in hu) _ ?_)
        have e1 := h4.len
        have e2 := k4.len
        rw [Array.length_toList] at e1 e2
        rw [e1, e2]
      | _ => simp [kcomp] at c
  | .none, _, _, _, _, _, ra, _, _, _ => by cases ra
theorem firstR_keys : ∀ (xs ys : List NestedKey) (A : Around) (s : Shared) (vs ws : List Value), NVs s.heap xs vs → NVs s.heap ys ws → kcompAll xs ys = true → A.units + min (NestedKey.depthAll xs) (NestedKey.depthAll ys) < cLine →
    ∀ fin : Bool, fin = decide (xs.length < ys.length) → FirstR A s fin (vs.zip ws) (kltAll xs ys)
  | [], [], _, _, _, _, ra, rb, _, _, fin, hf => by
    cases ra; cases rb
    rw [kltAll_nil]
    have e : fin = false := by simpa using hf
    subst e
    exact .nil
  | [], y :: ys, _, _, _, _, ra, rb, _, _, fin, hf => by
    cases ra
    rw [kltAll_nc]
    have e : fin = true := by simpa using hf
    subst e
    rw [List.zip_nil_left]
    exact .nil
  | x :: xs, [], _, _, _, _, ra, rb, _, _, fin, hf => by
    cases rb
    rw [kltAll_cn]
    have e : fin = false := by simpa using hf
    subst e
    rw [List.zip_nil_right]
    exact .nil
  | x :: xs, y :: ys, A, s, _, _, ra, rb, c, hu, fin, hf => by
    cases ra with
    | cons r rs =>
      cases rb with
      | cons t ts =>
        rw [kltAll_cons, List.zip_cons_cons]
        rw [kcompAll] at c
        have eq := eqAt_key x y A s _ _ r.nested t.nested (PySem.SeqAt.room_head hu)
        cases h : NestedKey.beq x y with
        | true =>
          rw [h] at eq
          rw [h, if_pos rfl] at c
          rw [if_pos rfl]
          exact .yes eq (firstR_keys xs ys A s _ _ rs ts c (PySem.SeqAt.room_tail hu) fin (by rw [hf]; simp))
        | false =>
          rw [h] at eq
          rw [h, if_neg (by simp)] at c
          rw [if_neg (by simp)]
          exact .no eq (rcLt_key x y A s _ _ r t c (PySem.SeqAt.room_head hu))
end

/-- one key against another, whatever the kind -/
theorem oneLt_key {f : Bool} {x y : NestedKey} {a b : Value} {Q : Bool → Shared → Prop} (ra : NV s.heap x a) (rb : NV s.heap y b) (c : kcomp x y = true) (hu : A.units + min x.depth y.depth < cLine) (q : Q (klt x y) s) : wpAny (model prog w) A (oneLt' f a b) Q E s := by
  cases f with
  | false =>
    rw [oneLt'_eq]
    simp only [Bool.false_eq_true, if_false]
    exact wpAny_bind (rcLt_key x y A s a b ra rb c hu prog w E _ (wpAny_truthy_bool q))
  | true =>
    cases ra with
    | int i t =>
      cases rb with
      | int j u =>
        rw [klt_num] at q
        exact PyProof.Rows.oneLt_int q
      | _ => simp [kcomp] at c
    | text i t =>
      cases rb with
      | text j u =>
        rw [klt_text] at q
        exact PyProof.Rows.oneLt_str q
      | _ => simp [kcomp] at c
    | @tup l o vs n xs h1 h2 h3 h4 =>
      cases rb with
      | @tup l' o' vs' n' ys k1 k2 k3 k4 =>
        rw [klt_tup] at q
        rw [oneLt'_eq]
        simp only [if_true]
        obtain ⟨c1, d1, t1, z1⟩ := o
        obtain ⟨c2, d2, t2, z2⟩ := o'
        simp only at h2 h3 k2 k3
        subst h2 h3 k2 k3
        refine wpAny_bind (wpAny_cRoomFor (PySem.SeqAt.room_here hu) ?_)
        refine wpAny_bind (wpAny_callSpecialIfBound?_slot (T := "tuple") ⟨_, h1, rfl⟩ F.slot_tuple_lt (call_meets F.slot_tuple_lt ⟨_, h1, rfl⟩ F.entry_tuple_lt (F.args_tuple_lt_2 _ _) (tuple_lt_first l l' vs vs' n n' d1 d2 z1 z2 (kltAll xs ys)) ⟨h1, k1, ?_, ?_⟩))
        · refine firstR_keys xs ys A.in1 s vs.toList vs'.toList h4 k4 (by simpa [kcomp] using c) (PySem.SeqAt.room_in hu) _ ?_
          have e1 := h4.len
          have e2 := k4.len
          rw [Array.length_toList] at e1 e2
          rw [e1, e2]
        · exact wpAny_truthy_bool q
      | _ => simp [kcomp] at c

theorem katLex_keys {b fin : Bool} {Q : Bool → Shared → Prop} : ∀ (xs ys : List NestedKey) (i : Nat) (vs ws : List Value), NVs s.heap xs vs → NVs s.heap ys ws → kcompAll xs ys = true → A.units + min (NestedKey.depthAll xs) (NestedKey.depthAll ys) < cLine →
    fin = decide (xs.length < ys.length) → Q (kltAll xs ys) s → KatLex prog w A b fin Q (vs.zip ws) i s
  | [], [], _, _, _, ra, rb, _, _, hf, q => by
    cases ra; cases rb
    rw [kltAll_nil] at q
    have e : fin = false := by simpa using hf
    subst e
    exact kat_nil q
  | [], y :: ys, _, _, _, ra, rb, _, _, hf, q => by
    cases ra
    rw [kltAll_nc] at q
    have e : fin = true := by simpa using hf
    subst e
    rw [List.zip_nil_left]
    exact kat_nil q
  | x :: xs, [], _, _, _, ra, rb, _, _, hf, q => by
    cases rb
    rw [kltAll_cn] at q
    have e : fin = false := by simpa using hf
    subst e
    rw [List.zip_nil_right]
    exact kat_nil q
  | x :: xs, y :: ys, i, _, _, ra, rb, c, hu, hf, q => by
    cases ra with
    | cons r rs =>
      cases rb with
      | cons t ts =>
        rw [kltAll_cons] at q
        rw [kcompAll] at c
        rw [List.zip_cons_cons]
        refine kat_cons (eqAt_key x y A s _ _ r.nested t.nested (PySem.SeqAt.room_head hu) prog w _ _ ?_)
        cases h : NestedKey.beq x y with
        | true =>
          rw [h, if_pos rfl] at c q
          exact kat_yes (katLex_keys xs ys (i + 1) _ _ rs ts c (PySem.SeqAt.room_tail hu) (by rw [hf]; simp) q)
        | false =>
          rw [h, if_neg (by simp)] at c q
          exact kat_no (oneLt_key r t c (PySem.SeqAt.room_head hu) q)

/-- the kinds of sorting that lists of tuples may get -/
def TupKd (kd : PyProof.Rows.SortKind) : Prop := kd = general' ∨ kd = oneType' ∨ ∃ b, kd = tuples' b
theorem keyLt_tup {kd : PyProof.Rows.SortKind} (hk : TupKd kd) {xs ys : List NestedKey} {a b : Addr} {Q : Bool → Shared → Prop} (ra : NV s.heap (.tup xs) (.ref a)) (rb : NV s.heap (.tup ys) (.ref b)) (c : kcomp (.tup xs) (.tup ys) = true)
    (hu : A.units + min (NestedKey.depth (.tup xs)) (NestedKey.depth (.tup ys)) < cLine) (q : Q (klt (.tup xs) (.tup ys)) s) : wpAny (model prog w) A (keyLt' kd (.ref a) (.ref b)) Q E s := by
  rcases hk with e | e | ⟨f, e⟩
  · subst e
    exact (show wpAny (model prog w) A (oneLt' false (.ref a) (.ref b)) Q E s from oneLt_key ra rb c hu q)
  · subst e
    rw [keyLt'_oneType]
    exact oneLt_key ra rb c hu q
  · subst e
    cases ra with
    | @tup _ o vs n _ h1 h2 h3 h4 =>
      cases rb with
      | @tup _ o' vs' n' _ k1 k2 k3 k4 =>
        rw [klt_tup] at q
        have e1 := h4.len
        have e2 := k4.len
        rw [Array.length_toList] at e1 e2
        have hu2 : A.units + min (NestedKey.depthAll xs) (NestedKey.depthAll ys) < cLine := by
          have := PySem.SeqAt.room_in hu
          omega
        exact kat_lt h1 h3 k1 k3 (katLex_keys xs ys 0 vs.toList vs'.toList h4 k4 (by simpa [kcomp] using c) hu2 (by rw [e1, e2]) q)

theorem mapM_each {α β : Type} {M : Model} {A : Around} {E : Value → Shared → Prop} {s : Shared} {f : α → Sem β} {r : α → β} : ∀ (l : List α) {Q : List β → Shared → Prop}, (∀ v ∈ l, ∀ Q' : β → Shared → Prop, Q' (r v) s → wpAny M A (f v) Q' E s) → Q (l.map r) s → wpAny M A (l.mapM f) Q E s
  | [], _, _, h => by rw [List.mapM_nil]; exact wpAny_pure h
  | x :: l, Q, hf, h => by
    rw [List.mapM_cons]
    exact wpAny_bind (hf x List.mem_cons_self _ (wpAny_bind (mapM_each l (Q := fun bs s' => wpAny M A (pure (r x :: bs)) Q E s') (fun v hv => hf v (List.mem_cons_of_mem _ hv)) (wpAny_pure h))))
/-- the type's name, looked up -/
def tyIn (h : Heap) : Value → String
  | .int _ _ => "int"
  | .str _ _ => "str"
  | .ref a => match h.get? a with
    | some ⟨.type c, _, _, _⟩ => c
    | _ => ""
  | _ => ""
def fstIn (h : Heap) : Value → Option Value
  | .ref a => match h.get? a with
    | some ⟨_, _, .seq xs _, _⟩ => xs[0]?
    | _ => none
  | _ => none
theorem nv_type {k : NestedKey} {v : Value} (r : NV s.heap k v) : s.TypeIs v (tyIn s.heap v) := by
  cases r with
  | int i t => exact rfl
  | text x t => exact rfl
  | @tup a o vs n ks h1 h2 h3 h4 =>
    obtain ⟨c, d, t, z⟩ := o
    simp only at h2
    subst h2
    refine ⟨_, h1, ?_⟩
    show Value.type "tuple" = Value.type (tyIn s.heap (.ref a))
    unfold tyIn
    simp only [h1]
theorem oneType_some (ws : List Value) (h : ∀ v ∈ ws, s.TypeIs v (tyIn s.heap v)) : ∃ r : Option Value, ∀ {M : Model} (A : Around) (E : Value → Shared → Prop) (Q : Option Value → Shared → Prop), Q r s → wpAny M A (oneTypeOnly' ws.toArray) Q E s := by
  refine ⟨match (ws.map fun v => Value.type (tyIn s.heap v)).toArray[0]? with
    | some t => if (ws.map fun v => Value.type (tyIn s.heap v)).toArray.all (· == t) = true then some t else none
    | none => none, fun A E Q q => ?_⟩
  rw [oneTypeOnly'_eq, List.mapM_toArray, map_eq_pure_bind]
  refine wpAny_bind (wpAny_bind (mapM_each (r := fun v => Value.type (tyIn s.heap v)) ws (fun v hv Q' q' => wpAny_typeOf (h v hv) q') (wpAny_pure ?_)))
  generalize (ws.map fun v => Value.type (tyIn s.heap v)).toArray = arr at q ⊢
  revert q
  cases arr[0]? with
  | none => exact fun q => wpAny_pure q
  | some t => exact fun q => wpAny_pure q
theorem nv_first {ks : List NestedKey} {a : Addr} (r : NV s.heap (.tup ks) (.ref a)) {M : Model} {A : Around} {E : Value → Shared → Prop} {Q : Option Value → Shared → Prop} (q : Q (fstIn s.heap (.ref a)) s) : wpAny M A (firstOfTuple' (.ref a)) Q E s := by
  have ty := nv_type r
  cases r with
  | @tup _ o vs n _ h1 h2 h3 h4 =>
    obtain ⟨c, d, t, z⟩ := o
    simp only at h2 h3
    subst h2 h3
    have e : fstIn s.heap (.ref a) = vs[0]? := by
      unfold fstIn
      simp only [h1]
    rw [e] at q
    rw [kas_first_eq]
    have e2 : tyIn s.heap (.ref a) = "tuple" := by
      unfold tyIn
      simp only [h1]
    rw [e2] at ty
    refine wpAny_bind (wpAny_typeOf ty ?_)
    rw [if_neg (by decide)]
    exact wpAny_bind (PyProof.Rows.listItems_at h1 rfl (wpAny_pure q))
/-- the kind of a list of tuples -/
theorem keyKind_tups (vs : List Value) (h : ∀ v ∈ vs, ∃ a ks, v = .ref a ∧ NV s.heap (.tup ks) (.ref a)) : ∃ kd, TupKd kd ∧ ∀ {M : Model} (A : Around) (E : Value → Shared → Prop) (Q : PyProof.Rows.SortKind → Shared → Prop), Q kd s → wpAny M A (keyKind' vs.toArray) Q E s := by
  have firsts : ∀ x ∈ (vs.map (fstIn s.heap)).filterMap id, s.TypeIs x (tyIn s.heap x) := by
    intro x hx
    obtain ⟨y, hy, e⟩ := List.mem_filterMap.mp hx
    obtain ⟨v, hv, e2⟩ := List.mem_map.mp hy
    obtain ⟨a, ks, rfl, r⟩ := h v hv
    have e3 : fstIn s.heap (.ref a) = some x := e2.trans e
    cases r with
    | @tup _ o xs n _ h1 h2 h3 h4 =>
      obtain ⟨c, d, t, z⟩ := o
      simp only at h3
      subst h3
      unfold fstIn at e3
      simp only [h1] at e3
      have e4 : xs.toList[0]? = some x := by rw [Array.getElem?_toList]; exact e3
      cases h5 : xs.toList with
      | nil => rw [h5] at e4; cases e4
      | cons y ys =>
        rw [h5] at e4 h4
        cases e4
        cases h4 with
        | cons r1 _ => exact nv_type r1
  obtain ⟨r1, w1⟩ := oneType_some _ firsts
  obtain ⟨r2, w2⟩ := oneType_some vs fun v hv => by
    obtain ⟨a, ks, rfl, r⟩ := h v hv
    exact nv_type r
  refine ⟨if ((vs.map (fstIn s.heap)).toArray.all (·.isSome)) = true then tuples' (r1.any (· != .type "tuple")) else if ((vs.map (fstIn s.heap)).toArray[0]?.bind id).isSome = true then general' else if r2.isSome = true then oneType' else general', ?_, fun A E Q q => ?_⟩
  · split
    · exact .inr (.inr ⟨_, rfl⟩)
    · split
      · exact .inl rfl
      · split
        · exact .inr (.inl rfl)
        · exact .inl rfl
  · rw [keyKind'_eq, List.mapM_toArray, map_eq_pure_bind]
    refine wpAny_bind (wpAny_bind (mapM_each (r := fstIn s.heap) vs (fun v hv Q' q' => ?_) (wpAny_pure ?_)))
    · obtain ⟨a, ks, rfl, r⟩ := h v hv
      exact nv_first r q'
    · by_cases c1 : ((vs.map (fstIn s.heap)).toArray.all (·.isSome)) = true
      · rw [if_pos c1] at q
        rw [if_pos c1]
        refine wpAny_bind (wpAny_rule ?_)
        have e : (vs.map (fstIn s.heap)).toArray.filterMap id = ((vs.map (fstIn s.heap)).filterMap id).toArray := by simp
        rw [e]
        exact wpAny_bind (w1 _ _ _ (wpAny_pure q))
      · rw [if_neg c1] at q
        refine L2.wp_if_neg c1 ?_
        by_cases c2 : ((vs.map (fstIn s.heap)).toArray[0]?.bind id).isSome = true
        · rw [if_pos c2] at q
          exact L2.wp_if_pos c2 (wpAny_pure q)
        · rw [if_neg c2] at q
          refine L2.wp_if_neg c2 (wpAny_bind (w2 _ _ _ (wpAny_pure ?_)))
          revert q
          cases r2.isSome <;> exact fun q => q
end
end G

set_option Elab.async false
set_option linter.all false
set_option maxRecDepth 100000
set_option maxHeartbeats 4000000
/-! sorted(xs), sorted(set(xs)) over the data. -/
namespace G
open PySem PySem.Spec L2
open PySem.W (EachIs sortVals sortLe sortVals_each SortsAt)
open PyProof.Rows (lexLt itemOrd listOrd)

mutual
theorem D.nk_inj : ∀ (d e : D), d.plain = true → e.plain = true → d.nk = e.nk → d = e
  | .int _, .int _, _, _, h => by simp only [D.nk, NestedKey.num.injEq] at h; rw [h]
  | .str _, .str _, _, _, h => by simp only [D.nk, NestedKey.text.injEq] at h; rw [h]
  | .tup ds, .tup es, h1, h2, h => by
    simp only [D.nk, NestedKey.tup.injEq] at h
    rw [D.nks_inj ds es (by simpa [D.plain] using h1) (by simpa [D.plain] using h2) h]
  | .int _, .str _, _, _, h | .int _, .tup _, _, _, h | .str _, .int _, _, _, h | .str _, .tup _, _, _, h | .tup _, .int _, _, _, h | .tup _, .str _, _, _, h => by simp [D.nk] at h
  | .non, _, h, _, _ | .bl _, _, h, _, _ | .lst _, _, h, _, _ | .rol _, _, h, _, _ | .ref _, _, h, _, _ | .fn _, _, h, _, _ => by simp [D.plain] at h
  | .int _, .non, _, h, _ | .int _, .bl _, _, h, _ | .int _, .lst _, _, h, _ | .int _, .rol _, _, h, _ | .int _, .ref _, _, h, _ | .int _, .fn _, _, h, _ => by simp [D.plain] at h
  | .str _, .non, _, h, _ | .str _, .bl _, _, h, _ | .str _, .lst _, _, h, _ | .str _, .rol _, _, h, _ | .str _, .ref _, _, h, _ | .str _, .fn _, _, h, _ => by simp [D.plain] at h
  | .tup _, .non, _, h, _ | .tup _, .bl _, _, h, _ | .tup _, .lst _, _, h, _ | .tup _, .rol _, _, h, _ | .tup _, .ref _, _, h, _ | .tup _, .fn _, _, h, _ => by simp [D.plain] at h
theorem D.nks_inj : ∀ (d e : List D), D.plains d = true → D.plains e = true → D.nks d = D.nks e → d = e
  | [], [], _, _, _ => rfl
  | [], _ :: _, _, _, h => by simp [D.nks] at h
  | _ :: _, [], _, _, h => by simp [D.nks] at h
  | d :: ds, e :: es, h1, h2, h => by
    simp only [D.nks, List.cons.injEq] at h
    simp only [D.plains, Bool.and_eq_true] at h1 h2
    rw [D.nk_inj d e h1.1 h2.1 h.1, D.nks_inj ds es h1.2 h2.2 h.2]
end
section
variable {X : Cx} {pins : List (Addr × Obj)} {σ : L2.St} {H : Hp} {s : Shared} {ρ : Rh}
mutual
theorem dr_nv (I : Inv X pins σ H s) : ∀ {d : D} {v : V} {u : Value}, DR X.K H ρ v d → RelV v u → d.plain = true → NV s.heap d.nk u
  | _, _, _, .int i, r, _ => by
    obtain ⟨t, rfl⟩ := r
    exact .int i t
  | _, _, _, .str x, r, _ => by
    obtain ⟨t, rfl⟩ := r
    exact .text x t
  | _, _, _, .tup (ds := ds) h hs, r, p => by
    cases r
    obtain ⟨its, rv, ⟨o, ho, hc, n, hd⟩, _⟩ := I.tuple h.sq
    rw [D.nk]
    exact .tup ho hc hd (by simpa using drs_nv I hs rv (by simpa [D.plain] using p))
  | _, _, _, .non, _, p | _, _, _, .bl _, _, p | _, _, _, .lst _ _, _, p | _, _, _, .rol _ _, _, p | _, _, _, .ref _, _, p | _, _, _, .fn _, _, p => by simp [D.plain] at p
theorem drs_nv (I : Inv X pins σ H s) : ∀ {ds : List D} {vs : List V} {us : List Value}, DRs X.K H ρ vs ds → Vals vs us → D.plains ds = true → NVs s.heap (D.nks ds) us
  | _, _, _, .nil, r, _ => by cases r; exact .nil
  | _, _, _, .cons h hs, r, p => by
    cases r with
    | cons r rs =>
      simp only [D.plains, Bool.and_eq_true] at p
      exact .cons (dr_nv I h r p.1) (drs_nv I hs rs p.2)
end
end
/-- tuples that can be sorted -/
def tupsOk (ds : List D) : Bool := ds.all (fun d => isTup d && d.plain && decide (d.nk.depth ≤ 8)) && ds.all fun d => ds.all fun e => kcomp d.nk e.nk
def leD (a b : D) : Bool := !klt b.nk a.nk
def sortD (ds : List D) : List D := sortBy leD ds
/-- each once -/
def dedupD : List D → List D
  | [] => []
  | d :: ds => if (ds.any fun e => NestedKey.beq d.nk e.nk) = true then dedupD ds else d :: dedupD ds
theorem leD_total (a b : D) : leD a b = true ∨ leD b a = true := by
  unfold leD klt
  cases h : lexLt itemOrd (toks b.nk) (toks a.nk) with
  | false => exact .inl rfl
  | true =>
    right
    cases h2 : lexLt itemOrd (toks a.nk) (toks b.nk) with
    | false => rfl
    | true =>
      have := (listOrd itemOrd).trans _ _ _ h h2
      rw [(listOrd itemOrd).irrefl] at this
      cases this
theorem leD_trans (a b c : D) (h1 : leD a b = true) (h2 : leD b c = true) : leD a c = true := by
  have := (PySem.W.sortLe_total (α := D) (listOrd itemOrd) false (fun d => toks d.nk)).trans a b c h1 h2
  exact this
theorem leD_antisymm {a b : D} (ha : a.plain = true) (hb : b.plain = true) (h1 : leD a b = true) (h2 : leD b a = true) : a = b := by
  unfold leD klt at h1 h2
  exact D.nk_inj a b ha hb (toks_inj ((listOrd itemOrd).total _ _ (by simpa using h2) (by simpa using h1)))
theorem sortD_of {ds out : List D} (hp : ∀ d ∈ ds, d.plain = true) (p : out.Perm ds) (s : out.Pairwise (fun a b => leD a b = true)) : out = sortD ds :=
  (p.trans (sortBy_perm _ ds).symm).eq_of_pairwise (fun a b ha hb h1 h2 => leD_antisymm (hp a (p.mem_iff.mp ha)) (hp b ((sortBy_perm _ ds).mem_iff.mp hb)) h1 h2) s (sortBy_sorted leD_total leD_trans ds)
theorem mem_dedupD {x : D} : ∀ {ds : List D}, x ∈ dedupD ds → x ∈ ds
  | d :: ds, h => by
    rw [dedupD] at h
    split at h
    · exact List.mem_cons_of_mem _ (mem_dedupD h)
    · rcases List.mem_cons.mp h with e | h
      · rw [e]; exact List.mem_cons_self
      · exact List.mem_cons_of_mem _ (mem_dedupD h)
theorem dedupD_has : ∀ {ds : List D} {k : NestedKey}, k ∈ ds.map D.nk → k ∈ (dedupD ds).map D.nk
  | d :: ds, k, h => by
    rw [dedupD]
    rw [List.map_cons] at h
    split
    · rename_i c
      rcases List.mem_cons.mp h with e | h
      · obtain ⟨e2, m, c2⟩ := List.any_eq_true.mp c
        rw [e, NestedKey.eq_of_beq _ _ c2]
        exact dedupD_has (List.mem_map.mpr ⟨e2, m, rfl⟩)
      · exact dedupD_has h
    · rw [List.map_cons]
      rcases List.mem_cons.mp h with e | h
      · rw [e]; exact List.mem_cons_self
      · exact List.mem_cons_of_mem _ (dedupD_has h)
theorem dedupD_nodup : ∀ (ds : List D), ((dedupD ds).map D.nk).Nodup
  | [] => List.nodup_nil
  | d :: ds => by
    rw [dedupD]
    split
    · exact dedupD_nodup ds
    · rename_i c
      rw [List.map_cons]
      refine List.nodup_cons.mpr ⟨fun h => c ?_, dedupD_nodup ds⟩
      obtain ⟨e, m, h2⟩ := List.mem_map.mp h
      exact List.any_eq_true.mpr ⟨e, mem_dedupD m, by rw [h2]; exact NestedKey.beq_self _⟩
/-- the sorted list of the set -/
theorem sortSet_of {ds es out : List D} (hp : ∀ d ∈ ds, d.plain = true) (sub : ∀ d ∈ es, d ∈ ds) (all : ∀ d ∈ ds, d.nk ∈ es.map D.nk) (nd : (es.map D.nk).Nodup) (p : out.Perm es) (s : out.Pairwise (fun a b => leD a b = true)) : out = sortD (dedupD ds) := by
  have pe : ∀ d ∈ es, d.plain = true := fun d h => hp d (sub d h)
  have pd : ∀ d ∈ dedupD ds, d.plain = true := fun d h => hp d (mem_dedupD h)
  have n1 : es.Nodup := List.Pairwise.of_map D.nk (fun _ _ hne e => hne (congrArg _ e)) nd
  have n2 : (dedupD ds).Nodup := List.Pairwise.of_map D.nk (fun _ _ hne e => hne (congrArg _ e)) (dedupD_nodup ds)
  refine sortD_of pd (p.trans ((List.perm_ext_iff_of_nodup n1 n2).mpr fun d => ⟨fun h => ?_, fun h => ?_⟩)) s
  · obtain ⟨e, m, h2⟩ := List.mem_map.mp (dedupD_has (List.mem_map.mpr ⟨d, sub d h, rfl⟩))
    rw [← D.nk_inj e d (pd e m) (pe d h) h2]
    exact m
  · obtain ⟨e, m, h2⟩ := List.mem_map.mp (all d (mem_dedupD h))
    rw [← D.nk_inj e d (pe e m) (pd d h) h2]
    exact m

/-! ### the model's sort, by keys -/
/-- the kind of keys that the tuples ks make in h -/
noncomputable def keysKind (h : Heap) (ks : List NestedKey) : PyProof.Rows.KeyKind where
  toKeyOrd := listOrd itemOrd
  keyOf v := open Classical in if q : ∃ k, k ∈ ks ∧ NV h k v then some (toks q.choose) else none
  dflt := ([] : List (Int ⊕ List Nat))
theorem keysKind_some {h : Heap} {ks : List NestedKey} {v : Value} {k : NestedKey} (hk : k ∈ ks) (r : NV h k v) : (keysKind h ks).keyOf v = some (toks k) := by
  have q : ∃ k, k ∈ ks ∧ NV h k v := ⟨k, hk, r⟩
  have e : (keysKind h ks).keyOf v = some (toks q.choose) := by
    show (open Classical in if q : ∃ k, k ∈ ks ∧ NV h k v then some (toks q.choose) else none) = _
    rw [dif_pos q]
  rw [e, NestedIs.inj _ _ _ q.choose_spec.2.nested r.nested]
theorem keysKind_inv {h : Heap} {ks : List NestedKey} {v : Value} {t : List (Int ⊕ List Nat)} (e : (keysKind h ks).keyOf v = some t) : ∃ k, k ∈ ks ∧ NV h k v ∧ t = toks k := by
  by_cases q : ∃ k, k ∈ ks ∧ NV h k v
  · have e' : (keysKind h ks).keyOf v = some (toks q.choose) := by
      show (open Classical in if q : ∃ k, k ∈ ks ∧ NV h k v then some (toks q.choose) else none) = _
      rw [dif_pos q]
    rw [e'] at e
    exact ⟨_, q.choose_spec.1, q.choose_spec.2, (Option.some.inj e).symm⟩
  · have e' : (keysKind h ks).keyOf v = none := by
      show (open Classical in if q : ∃ k, k ∈ ks ∧ NV h k v then some (toks q.choose) else none) = _
      rw [dif_neg q] <;> rfl
    rw [e'] at e
    cases e
mutual
theorem NV.at {h h' : Heap} (kp : ∀ a o vs n, h.get? a = some o → o.data = .seq vs n → o.cls = .type "tuple" → h'.get? a = some o) : ∀ {k : NestedKey} {v : Value}, NV h k v → NV h' k v
  | _, _, .int i t => .int i t
  | _, _, .text x t => .text x t
  | _, _, .tup a b c d => .tup (kp _ _ _ _ a c b) b c (NVs.at kp d)
theorem NVs.at {h h' : Heap} (kp : ∀ a o vs n, h.get? a = some o → o.data = .seq vs n → o.cls = .type "tuple" → h'.get? a = some o) : ∀ {k : List NestedKey} {v : List Value}, NVs h k v → NVs h' k v
  | _, _, .nil => .nil
  | _, _, .cons a b => .cons (NV.at kp a) (NVs.at kp b)
end
/-- the keys of tuples that can be sorted -/
structure KeysOk (ks : List NestedKey) : Prop where
  tup : ∀ k ∈ ks, ∃ xs, k = .tup xs
  dep : ∀ k ∈ ks, k.depth ≤ 8
  cmp : ∀ x ∈ ks, ∀ y ∈ ks, kcomp x y = true
theorem sortsAt_keys {prog : Program} {w : World} {A : Around} {s : Shared} {vs : List Value} {ks : List NestedKey} (ok : KeysOk ks) (e : ∀ v ∈ vs, ∃ k ∈ ks, NV s.heap k v) (hu : A.units + 8 < cLine) : SortsAt prog w A s (keysKind s.heap ks) vs := by
  have sh : ∀ v ∈ vs, ∃ a xs, v = .ref a ∧ NV s.heap (.tup xs) (.ref a) := fun v hv => by
    obtain ⟨k, hk, r⟩ := e v hv
    obtain ⟨xs, rfl⟩ := ok.tup k hk
    cases r with
    | tup h1 h2 h3 h4 => exact ⟨_, _, rfl, .tup h1 h2 h3 h4⟩
  obtain ⟨kd, h1, h2⟩ := keyKind_tups vs sh
  refine ⟨fun v hv => ?_, kd, fun E x y a b Q ha hb q => ?_, fun _ E Q q => h2 _ _ _ q⟩
  · obtain ⟨k, hk, r⟩ := e v hv
    exact ⟨_, keysKind_some hk r⟩
  · obtain ⟨k1, m1, r1, rfl⟩ := keysKind_inv ha
    obtain ⟨k2, m2, r2, rfl⟩ := keysKind_inv hb
    have d1 := ok.dep _ m1
    obtain ⟨xs, rfl⟩ := ok.tup k1 m1
    obtain ⟨ys, rfl⟩ := ok.tup k2 m2
    cases r1 with
    | tup z1 z2 z3 z4 =>
      cases r2 with
      | tup y1 y2 y3 y4 =>
        exact keyLt_tup h1 (.tup z1 z2 z3 z4) (.tup y1 y2 y3 y4) (ok.cmp _ m1 _ m2) (by
          have := Nat.min_le_left (NestedKey.depth (.tup xs)) (NestedKey.depth (.tup ys))
          omega) q
/-- what stands in sorted order, with whatever goes with the values -/
theorem sorted_goes {h : Heap} {ks : List NestedKey} {R : Value → D → Prop} {vs : List Value} {ds : List D} (e : EachIs R vs ds) (hk : EachIs (fun v d => d.nk ∈ ks ∧ NV h d.nk v) vs ds) : ∃ es : List D, EachIs R (sortVals (keysKind h ks) false vs vs) es ∧ es.Perm ds ∧ es.Pairwise (fun a b => leD a b = true) := by
  have h1 := sortVals_each (κ := keysKind h ks) (rev := false) (ks := vs) (fun d : D => toks d.nk) e (hk.mono fun v d q => keysKind_some q.1 q.2)
  refine ⟨_, h1, List.mergeSort_perm _ _, ?_⟩
  exact (PySem.W.sort_pairwise (PySem.W.sortLe_total (listOrd itemOrd) false fun d : D => toks d.nk) ds).imp fun q => q
end G

set_option Elab.async false
set_option linter.all false
set_option maxRecDepth 100000
set_option maxHeartbeats 4000000
/-! sorted(xs), sorted(set(xs)) as rules. -/
namespace G
open PySem PySem.Spec L2
open PySem.W (EachIs sortVals sortLe sortVals_each SortsAt sorted_vals sortingHeap copyHeap sorting_copy_old list_sort_vals)
open PyProof.Rows (lexLt itemOrd listOrd sortedAll sortedAll_at sortedAll_old)

section
variable {X : Cx} {pins : List (Addr × Obj)} {σ : L2.St} {H : Hp} {s : Shared} {ρ : Rh} {cl : Nat → Addr}
/-- u is the datum d -/
def UD (X : Cx) (H : Hp) (ρ : Rh) (u : Value) (d : D) : Prop := ∃ v, RelV v u ∧ DR X.K H ρ v d
theorem ud_of : ∀ {vs : List V} {us : List Value} {ds : List D}, Vals vs us → DRs X.K H ρ vs ds → EachIs (UD X H ρ) us ds
  | _, _, _, .nil, .nil => .nil
  | _, _, _, .cons r rs, .cons h hs => .cons ⟨_, r, h⟩ (ud_of rs hs)
theorem ud_back : ∀ {us : List Value} {ds : List D}, EachIs (UD X H ρ) us ds → ∃ vs, Vals vs us ∧ DRs X.K H ρ vs ds
  | _, _, .nil => ⟨[], .nil, .nil⟩
  | _, _, .cons ⟨v, r, h⟩ t => by
    obtain ⟨vs, h1, h2⟩ := ud_back t
    exact ⟨v :: vs, .cons r h1, .cons h h2⟩
theorem each_with {α β : Type} {R S : α → β → Prop} {as : List α} {bs : List β} (e : EachIs R as bs) (h : ∀ a b, b ∈ bs → R a b → S a b) : EachIs S as bs := by
  induction e with
  | nil => exact .nil
  | cons r t ih => exact .cons (h _ _ List.mem_cons_self r) (ih fun a b hb q => h a b (List.mem_cons_of_mem _ hb) q)
theorem tupsOk_keys {ds : List D} (h : tupsOk ds = true) : KeysOk (ds.map D.nk) ∧ ∀ d ∈ ds, d.plain = true := by
  unfold tupsOk at h
  rw [Bool.and_eq_true] at h
  obtain ⟨h1, h2⟩ := h
  have each : ∀ d ∈ ds, (∃ xs, d = .tup xs) ∧ d.plain = true ∧ d.nk.depth ≤ 8 := fun d hd => by
    have z := List.all_eq_true.mp h1 d hd
    simp only [Bool.and_eq_true, decide_eq_true_eq] at z
    refine ⟨?_, z.1.2, z.2⟩
    cases d with
    | tup xs => exact ⟨xs, rfl⟩
    | _ => simp [isTup] at z
  refine ⟨⟨fun k hk => ?_, fun k hk => ?_, fun x hx y hy => ?_⟩, fun d hd => (each d hd).2.1⟩
  · obtain ⟨d, hd, rfl⟩ := List.mem_map.mp hk
    obtain ⟨xs, rfl⟩ := (each d hd).1
    exact ⟨D.nks xs, by rw [D.nk]⟩
  · obtain ⟨d, hd, rfl⟩ := List.mem_map.mp hk
    exact (each d hd).2.2
  · obtain ⟨d, hd, rfl⟩ := List.mem_map.mp hx
    obtain ⟨e, he, rfl⟩ := List.mem_map.mp hy
    exact List.all_eq_true.mp (List.all_eq_true.mp h2 d hd) e he
/-- sorted(xs): ints, or tuples that can be compared -/
def sortF : F1 := fun ds M => match ds with
  | [d] => match seqOf M d with
    | some (false, es) => match intsOf es with
      | some ns => if ns.length ≤ sizeLine then some (.lst ((sortI ns).map D.int), M) else none
      | none => if tupsOk es = true then some (.lst (sortD es), M) else none
    | some (true, es) => if tupsOk es = true then some (.lst (sortD es), M) else none
    | _ => none
  | _ => none
theorem sort_tuple (hu : X.A.units + 150 < cLine) (I : Inv X pins σ H s) {es : List D} {l : Addr} {ys : List V} {its : List Value} {o : Obj} {n : Nat} (ok : tupsOk es = true) (rl : Vals ys its) (hr : DRs X.K H ρ ys es)
    (ho : s.heap.get? l = some o) (hct : o.cls = .type "tuple") (hd : o.data = .seq its.toArray n) (hlen : its.length ≤ sizeLine) {Q : VK}
    (k : ∀ xs p, DRs X.K H ρ xs (sortD es) → H p = none → Q (.ref p) (upd H p (.lst xs))) :
    wpAny (model X.prog X.w) X.A (call (.builtin "sorted") [.ref l]) (EP X pins σ Q) X.xe s := by
  obtain ⟨keys, pl⟩ := tupsOk_keys ok
  refine Calls.call_function_entry PyProof.Rows.kind_sorted PyProof.Rows.plain_sorted PyProof.Rows.entry_sorted (PyProof.Rows.args_sorted1 _) ?_
  unfold Builtin.«sorted»
  refine wpAny_bind (m := checkCount "sorted" 1 1 _) (wpAny_pure ?_)
  refine wpAny_bind (wpAny_collect_seq l (.inr rfl) ho hct hd (fun h1 k1 => ?_) (by simpa using hlen))
  simp only [List.size_toArray] at *
  refine wpAny_bind (wpAny_newList ?_ hlen)
  have hs0 : s.heap.get? h1.objs.size = none := by
    cases e : s.heap.get? h1.objs.size with
    | none => rfl
    | some u => exact absurd (Heap.lt_size (k1 _ _ e)) (Nat.lt_irrefl _)
  have hn : H h1.objs.size = none := (I.hok.kept k1).fresh (Nat.le_refl _)
  have hL : (h1.push (PyProof.Rows.seqObj "list" its.toArray 0)).get? h1.objs.size = some (PyProof.Rows.seqObj "list" its.toArray 0) := Heap.get?_push_size _ rfl
  generalize hh2 : h1.push (PyProof.Rows.seqObj "list" its.toArray 0) = h2 at *
  have kp : ∀ b o, s.heap.get? b = some o → h2.get? b = some o := fun b o e => by rw [← hh2]; exact Heap.get?_push_of_some _ (k1 b o e)
  have kp3 : ∀ b o vs n, s.heap.get? b = some o → o.data = .seq vs n → o.cls = .type "tuple" → (sortingHeap h2 h1.objs.size its).get? b = some o := fun b o _ _ e _ _ => by
    refine PySem.W.sortingHeap_old (fun z => ?_) (kp b o e)
    rw [z, hs0] at e
    cases e
  have eu := ud_of rl hr
  have ek : EachIs (fun u d => d.nk ∈ es.map D.nk ∧ NV (sortingHeap h2 h1.objs.size its) d.nk u) its es :=
    each_with eu fun u d hd ⟨v, z1, z2⟩ => ⟨List.mem_map.mpr ⟨d, hd, rfl⟩, (dr_nv I z2 z1 (pl d hd)).at kp3⟩
  obtain ⟨out, w1, w2, w3⟩ := sorted_goes eu ek
  obtain rfl := sortD_of pl w2 w3
  refine wpAny_bind (wpAny_holding (wpAny_call_entry PyProof.Rows.slot_list_sort ⟨_, hL, rfl⟩ PyProof.Rows.entry_list_sort
    (list_sort_vals (s := { s with heap := h2 }) (κ := keysKind (sortingHeap h2 h1.objs.size its) (es.map D.nk)) hL (sortsAt_keys keys (fun u hu2 => ?_) (by simp only [Around.in1_units]; omega)) hlen ⟨_, rfl, ?_⟩) (PyProof.Rows.args_list_sort _)))
  · obtain ⟨d, _, z⟩ := ek.left u hu2
    exact ⟨_, z.1, z.2⟩
  · obtain ⟨c, hc2⟩ := PyProof.Rows.sortedHeap_at (vs := its) (out := (sortVals (keysKind (sortingHeap h2 h1.objs.size its) (es.map D.nk)) false its its).toArray) hL
    obtain ⟨xs, v1, v2⟩ := ud_back w1
    have l1 : xs.length = its.length := by rw [v1.length, PySem.W.sortVals_length false rfl]
    have old : ∀ b u, s.heap.get? b = some u → (PyProof.Rows.sortedHeap h2 h1.objs.size its (sortVals (keysKind (sortingHeap h2 h1.objs.size its) (es.map D.nk)) false its its).toArray).get? b = some u := fun b u e => by
      have lt := Heap.lt_size (k1 b u e)
      rw [PyProof.Rows.sortedHeap_old (Nat.ne_of_lt lt) (by rw [← hh2, Heap.size_push]; exact Nat.lt_succ_of_lt lt)]
      exact kp b u e
    refine wpAny_pure ⟨_, rfl, ?_⟩
    generalize PyProof.Rows.sortedHeap h2 h1.objs.size its (sortVals (keysKind (sortingHeap h2 h1.objs.size its) (es.map D.nk)) false its its).toArray = h3 at hc2 old ⊢
    exact ⟨.ref h1.objs.size, upd H h1.objs.size (.lst xs), I.laidN (t' := s.toks) old hs0 hn ⟨by rw [l1]; exact hlen, _, c, v1, hc2⟩, rfl, k xs _ v2 hn⟩
theorem c_sort (hu : X.A.units + 150 < cLine) : CallR X (.builtin "sorted") (rM ⟨X.K, cl, X.w⟩ sortF) := by
  intro pins s σ H xs us Q I rv q
  obtain ⟨ρ, M, ds, d, M', R, r, e, k⟩ := q
  unfold sortF at e
  split at e
  · split at e
    · rename_i es hq
      split at e
      · rename_i ns hb
        split at e
        · rename_i hz
          refine c_sortedI pins s σ H xs us Q I rv ⟨ρ, M, _, d, M', R, r, ?_, k⟩
          unfold sortedIF
          simp only [hq, hb, if_pos hz]
          exact e
        · cases e
      · split at e
        · rename_i hok
          cases e
          obtain ⟨ok, pl⟩ := tupsOk_keys hok
          obtain ⟨v, rfl, ra⟩ := r.one
          obtain ⟨a, ys, rfl, hr, ⟨hf, _⟩ | ⟨_, h⟩⟩ := seqOf_ok R ra hq
          · cases hf
          · obtain ⟨its, rl, pl2, hz⟩ := I.list h
            rw [Vals.ref1 rv]
            have hl := pl2.isList
            have hlen : its.length ≤ sizeLine := by rw [← rl.length]; exact hz
            have kp : ∀ b o vs n, s.heap.get? b = some o → o.data = .seq vs n → o.cls = .type "tuple" → (sortingHeap (copyHeap s.heap its) (s.heap.objs.size + 1) its).get? b = some o := fun b o _ _ e _ _ => sorting_copy_old e
            have eu := ud_of rl hr
            have ek : EachIs (fun u d => d.nk ∈ es.map D.nk ∧ NV (sortingHeap (copyHeap s.heap its) (s.heap.objs.size + 1) its) d.nk u) its es :=
              each_with eu fun u d hd ⟨v, z1, z2⟩ => ⟨List.mem_map.mpr ⟨d, hd, rfl⟩, (dr_nv I z2 z1 (pl d hd)).at kp⟩
            refine sorted_vals (κ := keysKind (sortingHeap (copyHeap s.heap its) (s.heap.objs.size + 1) its) (es.map D.nk)) hl (sortsAt_keys ok (fun u hu => ?_) (by simp only [Around.in1_units]; omega)) hlen ?_
            · obtain ⟨d, _, z⟩ := ek.left u hu
              exact ⟨_, z.1, z.2⟩
            · obtain ⟨out, o1, o2, o3⟩ := sorted_goes eu ek
              obtain rfl := sortD_of pl o2 o3
              obtain ⟨zs, w1, w2⟩ := ud_back o1
              obtain ⟨c, hc⟩ := sortedAll_at s.heap its (sortVals (keysKind (sortingHeap (copyHeap s.heap its) (s.heap.objs.size + 1) its) (es.map D.nk)) false its its).toArray
              have hn : H (s.heap.objs.size + 1) = none := I.hok.fresh (Nat.le_succ _)
              have hzl : zs.length ≤ sizeLine := by rw [w1.length, PySem.W.sortVals_length false rfl]; exact hlen
              refine ⟨.ref (s.heap.objs.size + 1), upd H (s.heap.objs.size + 1) (.lst zs), I.laid (t' := s.toks) (fun _ _ => sortedAll_old) (Nat.le_succ _) ⟨hzl, _, c, w1, hc⟩, rfl, ?_⟩
              exact k _ _ ρ (.new hn) (R.new hn) (.newLst hn (R.fresh hn) w2)
        · cases e
    · rename_i es hq
      split at e
      · rename_i hok
        cases e
        obtain ⟨v, rfl, ra⟩ := r.one
        obtain ⟨a, ys, rfl, hr, ⟨_, h⟩ | ⟨hf, _⟩⟩ := seqOf_ok R ra hq
        · obtain ⟨its, rl, ⟨o, ho, hct, n, hd⟩, hz⟩ := I.tuple h
          rw [Vals.ref1 rv]
          exact sort_tuple hu I hok rl hr ho hct hd (by rw [← rl.length]; exact hz) fun xs p v2 hn => k _ _ ρ (.new hn) (R.new hn) (.newLst hn (R.fresh hn) v2)
        · cases hf
      · cases e
    · cases e
  · cases e
end
end G

set_option Elab.async false
set_option linter.all false
set_option maxRecDepth 100000
set_option maxHeartbeats 4000000
/-! sorted(set(xs)). -/
namespace G
open PySem PySem.Spec L2
open PySem.W (EachIs sortVals SortsAt sortingHeap list_sort_vals)

section
variable {X : Cx} {pins : List (Addr × Obj)} {σ : L2.St} {H : Hp} {s : Shared} {ρ : Rh} {cl : Nat → Addr}
/-- the set of nested tuples at a, without the tuples themselves -/
def SetN0 (w : World) (h : Heap) (a : Addr) (L : List (Addr × NestedKey)) : Prop := ∃ (es : Array (Int × Value)) (ep : Nat) (t : SetTable), (∃ o, h.get? a = some o ∧ o.ExactSet ∧ o.data = .set es ep t) ∧ es.toList = L.map (rowK w) ∧ TabOk t (L.map (hashK w)) ∧
  (L.map (·.2)).Nodup ∧ (w.params.followText "set-order" = true ∨ t.led = true) ∧ L.length * 5 < t.mask * 3 ∧ L.length < 64
def NSetO (w : World) (a : Addr) (L : List (Addr × NestedKey)) : HO := .ext fun h => SetN0 w h a L
theorem nsetO_ok {w : World} {P : Program} {H : Hp} {h : Heap} {a : Addr} {L : List (Addr × NestedKey)} (R : SetN0 w h a L) : ObjOk P w H h a (NSetO w a L) := by
  have ⟨es, ep, t, ⟨o, ho, r⟩, q⟩ := R
  refine ⟨R, ⟨o, ho⟩, fun h1 h2 p k => ?_⟩
  have ⟨es', ep', t', ⟨o', ho', r'⟩, q'⟩ := (show SetN0 w h1 a L from p)
  exact ⟨es', ep', t', ⟨o', k o' ho', r'⟩, q'⟩
/-- the member at p's address is the datum d of es -/
def Goes (X : Cx) (H : Hp) (ρ : Rh) (es : List D) (p : Addr × NestedKey) : Prop := ∃ d ∈ es, d.nk = p.2 ∧ DR X.K H ρ (.ref p.1) d
def rSetG (X : Cx) (cl : Nat → Addr) : List V → Hp → VK → Prop := fun vs H Q => ∃ ρ M d t es, Rep ⟨X.K, cl, X.w⟩ H ρ M ∧ (∃ v, vs = [v] ∧ DR X.K H ρ v d) ∧ seqOf M d = some (t, es) ∧
  ((∃ ns, intsOf es = some ns ∧ ns.length < 64 ∧ ∀ a c, H a = none → c ≤ ns.length → Q (.ref a) (upd H a (SetO X.w a (fun j => decide (j ∈ ns)) c))) ∨
   (tupsOk es = true ∧ es.length < 64 ∧ ∀ a L, H a = none → (∀ p ∈ L, Goes X H ρ es p) → (∀ d ∈ es, d.nk ∈ L.map (·.2)) → (L.map (·.2)).Nodup → Q (.ref a) (upd H a (NSetO X.w a L))))
theorem walked_of (I : Inv X pins σ H s) {l : Addr} {xs : List V} {t : Bool} (h : (t = true ∧ SqT X.K H l xs) ∨ (t = false ∧ SqL X.K H l xs)) : ∃ its : List Value, Vals xs its ∧ Walked X.prog X.w s.heap l its.toArray := by
  rcases h with ⟨_, h⟩ | ⟨_, h⟩
  · obtain ⟨its, r, hT, _⟩ := I.tuple h
    exact ⟨its, r, .tuple hT⟩
  · obtain ⟨its, r, hL, _⟩ := I.list h
    exact ⟨its, r, .list hL.isList⟩
/-- the tuples' addresses and keys -/
theorem keyed_of (I : Inv X pins σ H s) (es0 : List D) : ∀ {xs : List V} {us : List Value} {es : List D}, Vals xs us → DRs X.K H ρ xs es → (∀ d ∈ es, d ∈ es0 ∧ isTup d = true ∧ d.plain = true ∧ d.nk.depth ≤ 8) →
    ∃ ks : List (Addr × NestedKey), us = ks.map (fun p => Value.ref p.1) ∧ ks.map (·.2) = es.map D.nk ∧ (∀ p ∈ ks, IsN s.heap p.2 p.1 ∧ Goes X H ρ es0 p) ∧ ks.length = es.length
  | _, _, _, .nil, .nil, _ => ⟨[], rfl, rfl, fun p h => absurd h (by simp), rfl⟩
  | _, _, _, .cons r rs, .cons (d := d) h hs, q => by
    obtain ⟨ks, e1, e2, e3, e4⟩ := keyed_of I es0 rs hs fun d hd => q d (List.mem_cons_of_mem _ hd)
    obtain ⟨q0, q1, q2, q3⟩ := q d List.mem_cons_self
    have nv := dr_nv I h r q2
    cases h with
    | tup g gs =>
      cases r
      refine ⟨(_, D.nk (.tup _)) :: ks, by rw [List.map_cons, e1], by rw [List.map_cons, e2, List.map_cons], fun p hp => ?_, by rw [List.length_cons, List.length_cons, e4]⟩
      rcases List.mem_cons.mp hp with e | hp
      · subst e
        exact ⟨⟨nv.nested, q3⟩, _, q0, rfl, .tup g gs⟩
      · exact e3 p hp
    | _ => simp [isTup] at q1
theorem tupsOk_each {ds : List D} (h : tupsOk ds = true) : ∀ d ∈ ds, d ∈ ds ∧ isTup d = true ∧ d.plain = true ∧ d.nk.depth ≤ 8 := fun d hd => by
  unfold tupsOk at h
  rw [Bool.and_eq_true] at h
  have z := List.all_eq_true.mp h.1 d hd
  simp only [Bool.and_eq_true, decide_eq_true_eq] at z
  exact ⟨hd, z.1.1, z.1.2, z.2⟩
theorem c_setG (hc : X.calm = true) (hu : X.A.units + 150 < cLine) : CallR X (.type "set") (rSetG X cl) := by
  intro pins s σ H vs us Q I rv q
  obtain ⟨ρ, M, d, t, es, R, ⟨v, rfl, ra⟩, hq, q⟩ := q
  obtain ⟨a, ys, rfl, hr, hs⟩ := seqOf_ok R ra hq
  rw [Vals.ref1 rv]
  obtain ⟨its, rl, wk⟩ := walked_of I hs
  have hn : H s.heap.objs.size = none := I.hok.fresh (Nat.le_refl _)
  rcases q with ⟨ns, hb, hl, k⟩ | ⟨ok, hl, k⟩
  · rw [intsOf_ok hr hb] at rl
    refine set_of_walked (I.ok.hd hc) wk (fills_ints ns (by simpa using ints_of_vals rl) (by unfold scanBound; omega)) fun h' tk ⟨c, hcn, R2⟩ kp => ?_
    exact ⟨.ref s.heap.objs.size, upd H s.heap.objs.size (SetO X.w s.heap.objs.size (fun j => decide (j ∈ ns)) c), I.laid (t' := tk) kp (Nat.le_refl _) (setO_new R2), rfl, k _ c hn hcn⟩
  · obtain ⟨ks, e1, e2, e3, e4⟩ := keyed_of (s := s) I es rl hr (tupsOk_each ok)
    refine set_of_walked (I.ok.hd hc) wk (fills_keys rfl ks (by simpa using e1) (by omega) (fun p hp => (e3 p hp).1) (by simp only [Around.in1_units]; omega)) fun h' tk ⟨L, es', ep, tb, R2, g⟩ kp => ?_
    refine ⟨.ref s.heap.objs.size, upd H s.heap.objs.size (NSetO X.w s.heap.objs.size L), I.laid (t' := tk) kp (Nat.le_refl _) (nsetO_ok ⟨es', ep, tb, R2.ob, R2.rows, R2.tab, R2.nd, R2.led, R2.room, R2.few⟩), rfl, k _ L hn (fun p hp => ?_) (fun d hd => ?_) R2.nd⟩
    · exact (e3 p (List.mem_of_mem_take (g.1 p hp))).2
    · have : d.nk ∈ ks.map (·.2) := by rw [e2]; exact List.mem_map.mpr ⟨d, hd, rfl⟩
      obtain ⟨p, hp, e⟩ := List.mem_map.mp this
      rw [← e]
      exact g.2.1 p (by rw [List.take_length]; exact hp)

/-- sorted(set) -/
def rSortN (X : Cx) : List V → Hp → VK → Prop := fun vs H Q => ∃ ρ a L es, vs = [V.ref a] ∧ H a = some (NSetO X.w a L) ∧ tupsOk es = true ∧ (∀ p ∈ L, Goes X H ρ es p) ∧
  ∀ xs out es1 p, DRs X.K H ρ xs out → out.Perm es1 → (∀ d ∈ es1, d ∈ es) → (es1.map D.nk).Perm (L.map (·.2)) → out.Pairwise (fun a b => leD a b = true) → out.length < 64 → H p = none → Q (.ref p) (upd H p (.lst xs))
theorem perm_map_back {α β : Type} (f : α → β) : ∀ {bs : List β} {as : List α}, bs.Perm (as.map f) → ∃ as' : List α, as'.Perm as ∧ bs = as'.map f := by
  intro bs as h
  generalize e : as.map f = cs at h
  induction h generalizing as with
  | nil => exact ⟨[], by rw [List.map_eq_nil_iff.mp e], rfl⟩
  | cons x _ ih =>
    cases as with
    | nil => cases e
    | cons a as =>
      rw [List.map_cons, List.cons.injEq] at e
      obtain ⟨as', p, e2⟩ := ih e.2
      exact ⟨a :: as', p.cons a, by rw [List.map_cons, e.1, e2]⟩
  | swap x y l =>
    match as, e with
    | a :: b :: as, e =>
      simp only [List.map_cons, List.cons.injEq] at e
      exact ⟨b :: a :: as, .swap .., by simp [e.1, e.2.1, e.2.2]⟩
  | trans _ _ ih1 ih2 =>
    obtain ⟨a1, p1, e1⟩ := ih2 e
    obtain ⟨a2, p2, e2⟩ := ih1 e1.symm
    exact ⟨a2, p2.trans p1, e2⟩
theorem goes_each {es : List D} : ∀ {L1 : List (Addr × NestedKey)}, (∀ p ∈ L1, Goes X H ρ es p) → ∃ ds, EachIs (UD X H ρ) (L1.map fun p => Value.ref p.1) ds ∧ (∀ d ∈ ds, d ∈ es) ∧ ds.map D.nk = L1.map (·.2)
  | [], _ => ⟨[], .nil, fun d h => absurd h (by simp), rfl⟩
  | p :: L1, h => by
    obtain ⟨ds, h1, h2, h3⟩ := goes_each fun q hq => h q (List.mem_cons_of_mem _ hq)
    obtain ⟨d, m, e, r⟩ := h p List.mem_cons_self
    refine ⟨d :: ds, .cons ⟨V.ref p.1, show RelV (V.ref p.1) (Value.ref p.1) from rfl, r⟩ h1, fun x hx => ?_, by rw [List.map_cons, List.map_cons, h3, e]⟩
    rcases List.mem_cons.mp hx with z | z
    · rw [z]; exact m
    · exact h2 x z
theorem c_sortN (hc : X.calm = true) (hu : X.A.units + 150 < cLine) : CallR X (.builtin "sorted") (rSortN X) := by
  intro pins s σ H vs us Q I rv q
  obtain ⟨ρ, a, L, es, rfl, ha, ok, goes, k⟩ := q
  rw [Vals.ref1 rv]
  obtain ⟨R0, _, _⟩ := I.hok a _ ha
  obtain ⟨et, ep, t, ⟨o, ho, hex, hd⟩, rows, tab, nd, led, room, few⟩ := (show SetN0 X.w s.heap a L from R0)
  obtain ⟨keys, pl⟩ := tupsOk_keys ok
  have sz := rows_size rows
  have fits : t.fits et.size = true := by
    have h1 := tab.sz
    rw [List.length_map] at h1
    exact table_fits (by omega) tab.dm (by omega)
  refine Calls.call_function_entry PyProof.Rows.kind_sorted PyProof.Rows.plain_sorted PyProof.Rows.entry_sorted (PyProof.Rows.args_sorted1 _) ?_
  unfold Builtin.«sorted»
  refine wpAny_bind (m := checkCount "sorted" 1 1 _) (wpAny_pure ?_)
  refine wpAny_bind (collect_set (A := X.A.in1) (I.ok.hd hc) ⟨o, ho, hex.1, hd⟩ fits (by unfold scanBound; omega) tab.ris led fun s1 ws k1 hz g1 o1 pm => ?_)
  have hv : et.toList.map (·.2) = L.map fun p => Value.ref p.1 := by
    rw [rows, List.map_map] <;> rfl
  rw [hv] at pm
  obtain ⟨L1, pL, rfl⟩ := perm_map_back (fun p : Addr × NestedKey => Value.ref p.1) pm
  obtain ⟨ds, eu, sub, nks⟩ := goes_each fun p hp => goes p (pL.mem_iff.mp hp)
  have hlen : (L1.map fun p => Value.ref p.1).length ≤ sizeLine := by rw [List.length_map, pL.length_eq, sizeLine_eq]; omega
  refine wpAny_bind (wpAny_newList ?_ hlen)
  have hL : (s1.heap.push (PyProof.Rows.seqObj "list" (L1.map fun p => Value.ref p.1).toArray 0)).get? s1.heap.objs.size = some (PyProof.Rows.seqObj "list" (L1.map fun p => Value.ref p.1).toArray 0) := Heap.get?_push_size _ rfl
  generalize hus : (L1.map fun p => Value.ref p.1) = us at *
  generalize hh2 : s1.heap.push (PyProof.Rows.seqObj "list" us.toArray 0) = h2 at *
  have kp : ∀ b o, s.heap.get? b = some o → h2.get? b = some o := fun b o e => by rw [← hh2]; exact Heap.get?_push_of_some _ (k1 b o e)
  have kp3 : ∀ b o vs n, s.heap.get? b = some o → o.data = .seq vs n → o.cls = .type "tuple" → (sortingHeap h2 s1.heap.objs.size us).get? b = some o := fun b o _ _ e _ _ => by
    refine PySem.W.sortingHeap_old (fun z => ?_) (kp b o e)
    exact absurd (Heap.lt_size (k1 b o e)) (by rw [z]; exact Nat.lt_irrefl _)
  have ek : EachIs (fun u d => d.nk ∈ es.map D.nk ∧ NV (sortingHeap h2 s1.heap.objs.size us) d.nk u) us ds :=
    each_with eu fun u d hd ⟨v, z1, z2⟩ => ⟨List.mem_map.mpr ⟨d, sub d hd, rfl⟩, (dr_nv I z2 z1 (pl d (sub d hd))).at kp3⟩
  obtain ⟨out, w1, w2, w3⟩ := sorted_goes eu ek
  refine wpAny_bind (wpAny_holding (wpAny_call_entry PyProof.Rows.slot_list_sort ⟨_, hL, rfl⟩ PyProof.Rows.entry_list_sort
    (list_sort_vals (s := { s1 with heap := h2 }) (κ := keysKind (sortingHeap h2 s1.heap.objs.size us) (es.map D.nk)) hL (sortsAt_keys keys (fun u hu2 => ?_) (by simp only [Around.in1_units]; omega)) hlen ⟨_, rfl, ?_⟩) (PyProof.Rows.args_list_sort _)))
  · obtain ⟨d, _, z⟩ := ek.left u hu2
    exact ⟨_, z.1, z.2⟩
  · obtain ⟨c, hc2⟩ := PyProof.Rows.sortedHeap_at (vs := us) (out := (sortVals (keysKind (sortingHeap h2 s1.heap.objs.size us) (es.map D.nk)) false us us).toArray) hL
    obtain ⟨xs, v1, v2⟩ := ud_back w1
    have hn : H s1.heap.objs.size = none := I.hok.fresh hz
    have l1 : xs.length = us.length := by rw [v1.length, PySem.W.sortVals_length false rfl]
    have old : ∀ b u, s.heap.get? b = some u → (PyProof.Rows.sortedHeap h2 s1.heap.objs.size us (sortVals (keysKind (sortingHeap h2 s1.heap.objs.size us) (es.map D.nk)) false us us).toArray).get? b = some u := fun b u e => by
      have lt := Heap.lt_size (k1 b u e)
      rw [PyProof.Rows.sortedHeap_old (Nat.ne_of_lt lt) (by rw [← hh2, Heap.size_push]; exact Nat.lt_succ_of_lt lt)]
      exact kp b u e
    refine wpAny_pure ⟨_, rfl, ?_⟩
    generalize PyProof.Rows.sortedHeap h2 s1.heap.objs.size us (sortVals (keysKind (sortingHeap h2 s1.heap.objs.size us) (es.map D.nk)) false us us).toArray = h3 at hc2 old ⊢
    have J : Inv X pins σ (upd H s1.heap.objs.size (.lst xs)) { s with heap := h3, gens := s1.gens, drawn := s1.drawn, toks := s1.toks } :=
      I.call (ch := []) (Un.laid old hz hn) (I.hok.laid old hz ⟨by rw [l1]; exact hlen, _, c, v1, hc2⟩) (by rw [g1]; exact I.bare) (fun _ z => nomatch z)
    have e2 : ({ s1 with heap := h3 } : Shared) = { s with heap := h3, gens := s1.gens, drawn := s1.drawn, toks := s1.toks } := by
      cases s1
      cases s
      cases o1
      rfl
    rw [e2]
    refine ⟨.ref s1.heap.objs.size, _, J, rfl, ?_⟩
    refine k xs out ds _ v2 w2 sub (by rw [nks]; exact pL.map _) w3 ?_ hn
    have l2 := eu.length
    rw [w2.length_eq, ← l2, ← hus, List.length_map, pL.length_eq]
    exact few

def dedupI : List Int → List Int
  | [] => []
  | n :: ns => if (ns.any fun m => decide (m = n)) = true then dedupI ns else n :: dedupI ns
theorem mem_dedupI {x : Int} : ∀ {ns : List Int}, x ∈ dedupI ns ↔ x ∈ ns
  | [] => Iff.rfl
  | n :: ns => by
    have ih := mem_dedupI (x := x) (ns := ns)
    rw [dedupI, List.mem_cons]
    split
    · rename_i c
      obtain ⟨m, hm, e⟩ := List.any_eq_true.mp c
      rw [ih]
      refine ⟨.inr, fun h => h.elim (fun z => ?_) id⟩
      rw [z, ← of_decide_eq_true e]
      exact hm
    · rw [List.mem_cons, ih]
theorem dedupI_nodup : ∀ ns : List Int, (dedupI ns).Nodup
  | [] => List.nodup_nil
  | n :: ns => by
    rw [dedupI]
    split
    · exact dedupI_nodup ns
    · rename_i c
      refine List.nodup_cons.mpr ⟨fun h => c (List.any_eq_true.mpr ⟨n, mem_dedupI.mp h, by simp⟩), dedupI_nodup ns⟩
theorem sortDedup_of {ns out : List Int} (s : out.Pairwise (· < ·)) (m : ∀ k, k ∈ out ↔ k ∈ ns) : out = sortI (dedupI ns) := by
  refine sortI_of ?_ (s.imp fun h => Int.le_of_lt h)
  exact (List.perm_ext_iff_of_nodup (s.imp fun h e => by omega) (dedupI_nodup ns)).mpr fun k => (m k).trans mem_dedupI.symm
/-- sorted(set(xs)) -/
def sortSetF : F1 := fun ds M => match ds with
  | [d] => match seqOf M d with
    | some (_, es) => if es.length < 64 then (match intsOf es with
      | some ns => some (.lst ((sortI (dedupI ns)).map D.int), M)
      | none => if tupsOk es = true then some (.lst (sortD (dedupD es)), M) else none) else none
    | _ => none
  | _ => none
theorem intsOf_len : ∀ {es : List D} {ns : List Int}, intsOf es = some ns → ns.length = es.length := by
  intro es
  induction es with
  | nil => intro ns h; simp [intsOf] at h; subst h; rfl
  | cons d es ih =>
    intro ns h
    cases d with
    | int i =>
      simp only [intsOf] at h
      cases h2 : intsOf es with
      | none => rw [h2] at h; cases h
      | some ms =>
        rw [h2] at h
        cases h
        rw [List.length_cons, List.length_cons, ih h2]
    | _ => simp [intsOf] at h
theorem ge_sortset {e : Expr} {me : ME} {p p2 q pos : Pos} (hu : X.A.units + 150 < cLine) (hc : X.calm = true) (hg : Gl X "sorted") (hm : X.mg "sorted" = none) (hg2 : Gl X "set") (hm2 : X.mg "set" = none) (he : GE cl X e me)
    (n1 : starEach [e] X.env = (false, eval e X.env) :: starEach [] X.env := by rfl) (n2 : starEach [.Call (.Name "set" p2) [e] [] q] X.env = (false, eval (.Call (.Name "set" p2) [e] [] q) X.env) :: starEach [] X.env := by rfl) :
    GE cl X (.Call (.Name "sorted" p) [.Call (.Name "set" p2) [e] [] q] [] pos) (mUn sortSetF me) := by
  have inner := pe_callTy (pos := q) (p := p2) (c_setG (cl := cl) hc hu) hg2 hm2 PyProof.Rows.boot_set (pa_cons he pa_nil n1) (by decide) (by decide) n1
  have tups := pe_callB (pos := pos) (p := p) (r := fun vs H Q => rSortN X vs H Q ∨ rSortedSet X.w vs H Q) (fun pins s σ H xs us Q I r h => h.elim (fun h => c_sortN hc hu pins s σ H xs us Q I r h) fun h => cr_sortedSet hc pins s σ H xs us Q I r h)
    hg hm PyProof.Rows.boot_sorted (pa_cons inner pa_nil n2) (by decide) (by decide) n2
  refine tups.imp fun σ H Q q => ?_
  obtain ⟨ρ, lo, M, d, M', R, L, e, k⟩ := q
  unfold mUn mCall at e
  split at e
  · rename_i ds M1 h1
    unfold mOne at h1
    obtain ⟨d0, M2, ds', e1, e2, rfl⟩ := mCons_some h1
    cases e2
    refine ⟨ρ, lo, M, d0, _, R, L, e1, fun v H1 ρ1 g1 R1 r1 => ?_⟩
    unfold sortSetF at e
    simp only at e
    split at e
    · rename_i t es hq
      split at e
      · rename_i few
        refine ⟨ρ1, _, d0, t, es, R1, ⟨v, rfl, r1⟩, hq, ?_⟩
        split at e
        · rename_i ns hb
          cases e
          have hl := intsOf_len hb
          refine .inl ⟨ns, hb, by omega, fun a c hn hcn => .inr ⟨a, _, c, rfl, upd_same, by omega, fun out p2 o1 o2 o3 hp => ?_⟩⟩
          have eo : out = sortI (dedupI ns) := sortDedup_of o1 fun k => by rw [o2]; simp
          subst eo
          exact k _ _ ρ1 (g1.trans ((Gr.new hn).trans (.new hp))) ((R1.new hn).new hp) (.newLst hp ((R1.new hn).fresh hp) (.ints _))
        · split at e
          · rename_i hok
            cases e
            have pl := (tupsOk_keys hok).2
            refine .inr ⟨hok, few, fun a L2 hn goes all nd => .inl ⟨ρ1, a, L2, es, rfl, upd_same, hok, fun p hp => ?_, fun xs out es1 p2 o1 o2 o3 o4 o5 o6 hp => ?_⟩⟩
            · obtain ⟨d1, m1, z1, z2⟩ := goes p hp
              exact ⟨d1, m1, z1, z2.mono (.new hn)⟩
            · have eo : out = sortD (dedupD es) := sortSet_of pl o3 (fun d hd => by rw [o4.mem_iff]; exact all d hd) (o4.nodup_iff.mpr nd) o2 o5
              subst eo
              exact k _ _ ρ1 (g1.trans ((Gr.new hn).trans (.new hp))) ((R1.new hn).new hp) (.newLst hp ((R1.new hn).fresh hp) o1)
          · cases e
      · cases e
    · cases e
  · cases e
end
end G

set_option Elab.async false
set_option linter.all false
set_option maxRecDepth 100000
/-! isinstance, dicts, x += e, comprehensions with two sources. -/
namespace G
open PySem PySem.Spec L2

/-! ### isinstance -/
def tyOf (M : Mo) : D → Option String
  | .non => some "NoneType"
  | .bl _ => some "bool"
  | .int _ => some "int"
  | .str _ => some "str"
  | .tup _ => some "tuple"
  | .lst _ => some "list"
  | .rol _ => some "list"
  | .fn _ => none
  | .ref n => match M[n]? with
    | some (.lst _) => some "list"
    | some (.dct _) => some "dict"
    | _ => none
def isOf (t T : String) : Bool := decide (t = T) || (decide (t = "bool") && decide (T = "int"))
def mIsi (T : String) (m : ME) : ME := fun lo M => match m lo M with
  | some (d, M1) => match tyOf M1 d with
    | some t => some (.bl (isOf t T), M1)
    | none => none
  | none => none
theorem tyx_of {W : Wd} {H : Hp} {ρ : Rh} {M : Mo} {v : V} {d : D} {t : String} (R : Rep W H ρ M) (r : DR W.K H ρ v d) (e : tyOf M d = some t) : TyX W.K H v (.type t) := by
  cases r with
  | non => cases e; exact .base .non
  | bl b => cases e; exact .base (.bl b)
  | int i => cases e; exact .base (.int i)
  | fn x => cases e
  | str x => cases e; exact .base (.str x)
  | tup h hs =>
    cases e
    rcases h with ⟨h, _⟩ | ⟨o, its, n, h, hc, _⟩
    · exact .base (.tup h)
    · exact .kTuple h hc
  | lst h hs => cases e; exact .base (.lst h.1)
  | rol h hs =>
    cases e
    rcases h with ⟨o, h, _⟩ | ⟨o, its, n, h, hc, _⟩
    · exact .base (.frz h)
    · exact .kList h hc
  | ref h =>
    unfold tyOf at e
    simp only at e
    split at e
    · rename_i ds hm
      cases e
      obtain ⟨xs, h1, h2⟩ := R.at_ h hm
      exact .base (.lst h1)
    · rename_i kvs hm
      cases e
      obtain ⟨vs, h1, h2⟩ := R.at_ h hm
      exact .base (.dK h1)
    · cases e
theorem isi_kit {K : PySem.W.Frag} {t T : String} (ht : t ∈ ["NoneType", "bool", "int", "str", "tuple", "list", "dict"]) (hT : T ∈ ["tuple", "str", "int", "bool", "list", "dict"]) : PySem.W.kitOne K (.type t) (.type T) = some (isOf t T) := by
  refine kit_ty ?_
  have key : ∀ t ∈ ["NoneType", "bool", "int", "str", "tuple", "list", "dict"], ∀ T ∈ ["tuple", "str", "int", "bool", "list", "dict"], kitB t T = some (isOf t T) := by decide +kernel
  exact key t ht T hT
theorem tyOf_mem {M : Mo} {d : D} {t : String} (e : tyOf M d = some t) : t ∈ ["NoneType", "bool", "int", "str", "tuple", "list", "dict"] := by
  cases d with
  | ref n =>
    unfold tyOf at e
    simp only at e
    split at e
    · cases e; decide
    · cases e; decide
    · cases e
  | fn x => cases e
  | _ => cases e; decide
section
variable {X : Cx} {cl : Nat → Addr} {pos : Pos}
theorem ge_isi {x : Str} {T : String} {a : Expr} {m : ME} {p q : Pos} (ha : GE cl X a m) (hg : Gl X "isinstance") (hm : X.mg "isinstance" = none) (hgT : Gl X x) (hmT : X.mg x = none) (hv : bootBuiltins x = some (.type T) := by rfl) (hT : T ∈ ["tuple", "str", "int", "bool", "list", "dict"] := by decide)
    (hn : x ≠ "__name__" := by decide) (hdb : (x == ("__debug__" : Str)) = false := by decide)
    (he : starEach [a, .Name x q] X.env = (false, eval a X.env) :: starEach [.Name x q] X.env := by rfl) (hpl : (backTo pos (starEach [.Name x q] X.env)).any (·.1) = false := by rfl) (hs1 : starEach [.Name x q] X.env = (false, eval (.Name x q) X.env) :: starEach [] X.env := by rfl) :
    GE cl X (.Call (.Name "isinstance" p) [a, .Name x q] [] pos) (mIsi T m) := by
  refine (pe_callB call_isi hg hm rfl (pa_cons ha (pa_cons (pe_bltn (v := .ty T) hgT hmT hv rfl hn hdb) pa_nil hs1) he) (by decide) (by decide) he hpl).imp fun σ H Q q => ?_
  obtain ⟨ρ, lo, M, d, M', R, L, e, k⟩ := q
  unfold mIsi at e
  split at e
  · rename_i d1 M1 h1
    split at e
    · rename_i t h2
      cases e
      refine ⟨ρ, lo, M, d1, M', R, L, h1, fun v H1 ρ1 g1 R1 r1 => ?_⟩
      exact ⟨v, .ty T, .type t, .type T, isOf t T, rfl, .ty T, tyx_of R1 r1 h2, isi_kit (tyOf_mem h2) hT, k _ H1 ρ1 g1 R1 (.bl _)⟩
    · cases e
  · cases e

/-! ### x += e of whole numbers -/
def sAug (i : Nat) (m : ME) : MS := fun lo M => match lo[i]? with
  | some (some (.int a)) => match m lo M with
    | some (.int b, M1) => some (.nx (lo.set i (some (.int (a + b)))) M1)
    | _ => none
  | _ => none
theorem gs_aug {i : Nat} {x : Str} {e : Expr} {m : ME} {pos' : Pos} (hN : X.N.Nodup) (hi : X.N[i]? = some x) (hx : Loc X.env.scope x) (he : GE cl X e m) (hf : X.fn x = true ∨ X.env.scope.names.lookup x = some .local := by first | exact .inl rfl | exact .inr rfl | assumption) :
    GS cl X (.AugAssign (.Name x pos') .Add e pos) (sAug i m) := (ps_aug hN hi hx he ip_add hf).imp fun De σ H q => by
  obtain ⟨ρ, lo, M, o, R, L, e, k⟩ := q
  unfold sAug at e
  split at e
  · rename_i a h1
    split at e
    · rename_i b M1 h2
      cases e
      obtain ⟨v, e1, r⟩ := L.2 i _ h1
      cases r
      refine ⟨_, e1, ρ, lo, M, _, M1, R, L, h2, fun v H1 ρ1 g1 R1 r1 => ?_⟩
      cases r1
      exact ⟨a, b, rfl, rfl, k _ H1 ρ1 g1 R1 ((L.mono g1).set (.int _) i)⟩
    · cases e
  · cases e
end

/-! ### dicts: keys are ints and texts -/
def keyOf : D → Option Key
  | .int i => some (.inl i)
  | .str x => some (.inr x)
  | _ => none
theorem keyOf_ok {K : PySem.W.Frag} {H : Hp} {ρ : Rh} {v : V} {d : D} {k : Key} (r : DR K H ρ v d) (e : keyOf d = some k) : v = kV k := by
  cases r <;> cases e <;> rfl
def valD (kvs : List (Key × D)) (k : Key) : Option D := (kvs.find? fun kv => decide (kv.1 = k)).map (·.2)
def putE (kvs : List (Key × D)) (k : Key) (d : D) : List (Key × D) :=
  if (kvs.any fun kv => decide (kv.1 = k)) = true then kvs.map fun kv => if kv.1 = k then (kv.1, d) else kv else kvs ++ [(k, d)]
section
variable {K : PySem.W.Frag} {H : Hp} {ρ : Rh}
theorem KVs.nil_ : KVs K H ρ [] [] := ⟨rfl, .nil⟩
theorem KVs.cons_inv {p : Key × V} {q : Key × D} {vs : List (Key × V)} {kvs : List (Key × D)} (h : KVs K H ρ (p :: vs) (q :: kvs)) : p.1 = q.1 ∧ DR K H ρ p.2 q.2 ∧ KVs K H ρ vs kvs := by
  obtain ⟨h1, h2⟩ := h
  simp only [List.map_cons, List.cons.injEq] at h1
  rw [List.map_cons, List.map_cons] at h2
  cases h2 with
  | cons r rr => exact ⟨h1.1, r, h1.2, rr⟩
theorem KVs.cons_ {p : Key × V} {q : Key × D} {vs : List (Key × V)} {kvs : List (Key × D)} (h1 : p.1 = q.1) (h2 : DR K H ρ p.2 q.2) (h3 : KVs K H ρ vs kvs) : KVs K H ρ (p :: vs) (q :: kvs) :=
  ⟨by rw [List.map_cons, List.map_cons, h1, h3.1], .cons h2 h3.2⟩
theorem KVs.val {k : Key} : ∀ {vs : List (Key × V)} {kvs : List (Key × D)}, KVs K H ρ vs kvs → (valD kvs k = none → valV vs k = none) ∧ ∀ d, valD kvs k = some d → ∃ v, valV vs k = some v ∧ DR K H ρ v d
  | [], [], _ => ⟨fun _ => rfl, fun d e => by cases e⟩
  | [], _ :: _, h => by cases h.1
  | _ :: _, [], h => by cases h.1
  | p :: vs, q :: kvs, h => by
    obtain ⟨h1, h2, h3⟩ := h.cons_inv
    by_cases e : q.1 = k
    · have e1 : valD (q :: kvs) k = some q.2 := by simp [valD, List.find?_cons, e]
      rw [e1, valV_pos (h1.trans e)]
      exact ⟨fun z => (by cases z), fun d z => by cases z; exact ⟨_, rfl, h2⟩⟩
    · have e1 : valD (q :: kvs) k = valD kvs k := by simp [valD, List.find?_cons, e]
      rw [e1, valV_neg (fun z => e (h1.symm.trans z))]
      exact KVs.val h3
theorem KVs.any_eq {k : Key} : ∀ {vs : List (Key × V)} {kvs : List (Key × D)}, KVs K H ρ vs kvs → (vs.any fun kv => decide (kv.1 = k)) = kvs.any fun kv => decide (kv.1 = k)
  | [], [], _ => rfl
  | [], _ :: _, h => by cases h.1
  | _ :: _, [], h => by cases h.1
  | p :: vs, q :: kvs, h => by
    obtain ⟨h1, h2, h3⟩ := h.cons_inv
    rw [List.any_cons, List.any_cons, h1, KVs.any_eq h3]
theorem KVs.repl {k : Key} {v : V} {d : D} (r : DR K H ρ v d) : ∀ {vs : List (Key × V)} {kvs : List (Key × D)}, KVs K H ρ vs kvs → KVs K H ρ (vs.map fun kv => if kv.1 = k then (kv.1, v) else kv) (kvs.map fun kv => if kv.1 = k then (kv.1, d) else kv)
  | [], [], _ => KVs.nil_
  | [], _ :: _, h => by cases h.1
  | _ :: _, [], h => by cases h.1
  | p :: vs, q :: kvs, h => by
    obtain ⟨h1, h2, h3⟩ := h.cons_inv
    rw [List.map_cons, List.map_cons]
    refine KVs.cons_ ?_ ?_ (KVs.repl r h3)
    · by_cases e : q.1 = k
      · rw [if_pos (h1.trans e), if_pos e]; exact h1
      · rw [if_neg (fun z => e (h1.symm.trans z)), if_neg e]; exact h1
    · by_cases e : q.1 = k
      · rw [if_pos (h1.trans e), if_pos e]; exact r
      · rw [if_neg (fun z => e (h1.symm.trans z)), if_neg e]; exact h2
theorem KVs.snoc {k : Key} {v : V} {d : D} (r : DR K H ρ v d) {vs : List (Key × V)} {kvs : List (Key × D)} (h : KVs K H ρ vs kvs) : KVs K H ρ (vs ++ [(k, v)]) (kvs ++ [(k, d)]) := by
  obtain ⟨h1, h2⟩ := h
  refine ⟨by rw [List.map_append, List.map_append, h1]; rfl, ?_⟩
  rw [List.map_append, List.map_append]
  exact h2.append (.cons r .nil)
theorem KVs.put {k : Key} {v : V} {d : D} (r : DR K H ρ v d) {vs : List (Key × V)} {kvs : List (Key × D)} (h : KVs K H ρ vs kvs) : KVs K H ρ (putK vs k v) (putE kvs k d) := by
  unfold putK putE
  rw [h.any_eq]
  split
  · exact h.repl r
  · exact h.snoc r
theorem KVs.len {vs : List (Key × V)} {kvs : List (Key × D)} (h : KVs K H ρ vs kvs) : vs.length = kvs.length := by
  have := congrArg List.length h.1
  simpa using this
theorem KVs.mono_ {H' : Hp} {ρ' : Rh} (g : Gr H ρ H' ρ') {vs : List (Key × V)} {kvs : List (Key × D)} (h : KVs K H ρ vs kvs) : KVs K H' ρ' vs kvs := ⟨h.1, h.2.mono g⟩
end
theorem putE_nodup {kvs : List (Key × D)} {k : Key} {d : D} (h : (kvs.map (·.1)).Nodup) : ((putE kvs k d).map (·.1)).Nodup := by
  unfold putE
  split
  · have e : (kvs.map fun kv => if kv.1 = k then (kv.1, d) else kv).map (·.1) = kvs.map (·.1) := by
      rw [List.map_map]
      refine List.map_congr_left fun kv _ => ?_
      simp only [Function.comp]
      split <;> rfl
    rw [e]
    exact h
  · rename_i hn
    rw [List.map_append]
    refine List.nodup_append.mpr ⟨h, by simp, fun a ha b hb z => ?_⟩
    simp only [List.map_cons, List.map_nil, List.mem_singleton] at hb
    subst hb
    subst z
    obtain ⟨kv, h1, h2⟩ := List.mem_map.mp ha
    exact hn (List.any_eq_true.mpr ⟨kv, h1, by simp [h2]⟩)
theorem refD {W : Wd} {H : Hp} {ρ : Rh} {M : Mo} {n : Nat} {v : V} {kvs : List (Key × D)} (R : Rep W H ρ M) (r : DR W.K H ρ v (.ref n)) (e : M[n]? = some (.dct kvs)) : ∃ q vs, v = .ref q ∧ ρ.m[n]? = some q ∧ H q = some (.dK vs) ∧ KVs W.K H ρ vs kvs ∧ (kvs.map (·.1)).Nodup := by
  cases r with
  | ref h =>
    obtain ⟨vs, h1, h2, h3⟩ := R.at_ h e
    exact ⟨_, vs, rfl, h, h1, h2, h3⟩
section
variable {X : Cx} {cl : Nat → Addr} {pos : Pos} {o i e value : Expr} {mo mi mv m : ME}
/-- {} -/
def mNewD : ME := fun _ M => some (.ref M.length, M ++ [.dct []])
theorem ge_newD : GE cl X (.Dict [] [] pos) mNewD := pe_dnewK.imp fun σ H Q q => by
  obtain ⟨ρ, lo, M, d, M', R, L, e, k⟩ := q
  cases e
  intro p hp
  exact k _ _ (ρ.push p) (.push hp) (R.push hp ⟨[], upd_same, KVs.nil_, List.nodup_nil⟩) (R.ref_new p |>.mono (.refl _ _) |> fun _ => .ref (by
    show (ρ.m ++ [p])[M.length]? = some p
    rw [← R.len, List.getElem?_append_right (Nat.le_refl _), Nat.sub_self]
    rfl))
theorem tM_imp {W : Wd} {m : ME} {σ : L2.St} {H : Hp} {Q Q' : VK} (q : tM W m σ H Q) (i : ∀ v H, Q v H → Q' v H) : tM W m σ H Q' := by
  obtain ⟨ρ, lo, M, d, M1, R, L, e, k⟩ := q
  exact ⟨ρ, lo, M, d, M1, R, L, e, fun v H1 ρ1 g1 R1 r1 => i _ _ (k v H1 ρ1 g1 R1 r1)⟩
theorem tMs_imp {W : Wd} {m : MA} {σ : L2.St} {H : Hp} {Q Q' : List V → Hp → Prop} (q : tMs W m σ H Q) (i : ∀ v H, Q v H → Q' v H) : tMs W m σ H Q' := by
  obtain ⟨ρ, lo, M, d, M1, R, L, e, k⟩ := q
  exact ⟨ρ, lo, M, d, M1, R, L, e, fun v H1 ρ1 g1 R1 r1 => i _ _ (k v H1 ρ1 g1 R1 r1)⟩
/-- d[k] -/
def dAtF : F1 := fun ds M => match ds with
  | [.ref n, k] => match M[n]?, keyOf k with
    | some (.dct kvs), some k => match valD kvs k with
      | some d => some (d, M)
      | none => none
    | _, _ => none
  | _ => none
theorem ge_dix (hu : X.A.units + 64 < cLine) (ho : GE cl X o mo) (hi : GE cl X i mi) (hs : NoSl i := by intro _ _; rfl) : GE cl X (.Subscript o i pos) (mBin dAtF mo mi) :=
  (pe_dget (by omega) ho hi hs).imp fun σ H Q q => tM_imp (tM_two (tM_call q)) fun x H1 q => tM_imp q fun y H2 q => by
    obtain ⟨ρ, M, ds, d, M', R, r, e, k⟩ := q
    unfold dAtF at e
    split at e
    · rename_i n kd
      split at e
      · rename_i kvs kk hm hk
        split at e
        · rename_i d1 hd
          cases e
          obtain ⟨v1, u1, e1, ra, rb⟩ := r.pair
          cases e1
          obtain ⟨a, vs, rfl, hp, hH, hkv, _⟩ := refD R ra hm
          obtain rfl := keyOf_ok rb hk
          obtain ⟨w', hw, rw'⟩ := (hkv.val (k := kk)).2 _ hd
          exact ⟨a, w', rfl, by rw [← hw]; exact .k hH, k _ H2 ρ (.refl _ _) R rw'⟩
        · cases e
      · cases e
    · cases e
/-- k in d -/
def dInF (neg : Bool) : F1 := fun ds M => match ds with
  | [k, .ref n] => match M[n]?, keyOf k with
    | some (.dct kvs), some k => some (.bl (if neg then !(valD kvs k).isSome else (valD kvs k).isSome), M)
    | _, _ => none
  | _ => none
theorem KVs.isSome {K : PySem.W.Frag} {H : Hp} {ρ : Rh} {k : Key} {vs : List (Key × V)} {kvs : List (Key × D)} (h : KVs K H ρ vs kvs) : (valV vs k).isSome = (valD kvs k).isSome := by
  obtain ⟨h1, h2⟩ := h.val (k := k)
  cases e : valD kvs k with
  | none => rw [h1 e] <;> rfl
  | some d => obtain ⟨v, e1, _⟩ := h2 d e; rw [e1] <;> rfl
theorem dIn_core {neg : Bool} {x y : V} {H2 : Hp} {Q : VK} (q : rM ⟨X.K, cl, X.w⟩ (dInF neg) [x, y] H2 Q) : ∃ a o, y = .ref a ∧ DGet H2 a x o ∧ Q (.bl (if neg then !o.isSome else o.isSome)) H2 := by
  obtain ⟨ρ, M, ds, d, M', R, r, e, k⟩ := q
  unfold dInF at e
  split at e
  · rename_i kd n
    split at e
    · rename_i kvs kk hm hk
      cases e
      obtain ⟨v1, u1, e1, ra, rb⟩ := r.pair
      cases e1
      obtain ⟨a, vs, rfl, hp, hH, hkv, _⟩ := refD R rb hm
      obtain rfl := keyOf_ok ra hk
      refine ⟨a, valV vs kk, rfl, .k hH, ?_⟩
      rw [hkv.isSome]
      exact k _ H2 ρ (.refl _ _) R (.bl _)
    · cases e
  · cases e
theorem gc_din (hu : X.A.units + 64 < cLine) (hi : GE cl X i mi) (ho : GE cl X o mo) : PC X .In i o (tM ⟨X.K, cl, X.w⟩ (mBin (dInF false) mi mo)) :=
  ⟨fun pins s σ H Q I q => (pc_din (by omega) hi ho).run pins s σ H Q I (tM_imp (tM_two (tM_call q)) fun x H1 q => tM_imp q fun y H2 q => dIn_core q)⟩
theorem gc_dnin (hu : X.A.units + 64 < cLine) (hi : GE cl X i mi) (ho : GE cl X o mo) : PC X .NotIn i o (tM ⟨X.K, cl, X.w⟩ (mBin (dInF true) mi mo)) :=
  ⟨fun pins s σ H Q I q => (pc_dnotin (by omega) hi ho).run pins s σ H Q I (tM_imp (tM_two (tM_call q)) fun x H1 q => tM_imp q fun y H2 q => dIn_core q)⟩
theorem ge_pc {op : CmpOp} {a b : Expr} (h : PC X op a b (tM ⟨X.K, cl, X.w⟩ m)) (h1 : behindInMarks op b = false := by first | exact nobehind _ (by decide) (by decide) | rfl) : GE cl X (.Compare a [op] [b] pos) m := pe_cmp h h1
theorem gt_pc {op : CmpOp} {a b : Expr} (h : PC X op a b (tM ⟨X.K, cl, X.w⟩ m)) (h1 : behindInMarks op b = false := by first | exact nobehind _ (by decide) (by decide) | rfl) : GT cl X (.Compare a [op] [b] pos) (tru m) :=
  (pt_cmp h h1).imp fun _ _ _ q => tB_of q
/-- d.get(k) -/
def dGetF : F1 := fun ds M => match ds with
  | [.ref n, k] => match M[n]?, keyOf k with
    | some (.dct kvs), some k => some ((valD kvs k).getD .non, M)
    | _, _ => none
  | _ => none
/-- the receiver is a dict of the store when the argument is asked -/
def mDGet (mo mi : ME) : ME := fun lo M => match mo lo M with
  | some (.ref n, M1) => match M1[n]? with
    | some (.dct _) => (match mi lo M1 with
      | some (k, M2) => dGetF [.ref n, k] M2
      | none => none)
    | _ => none
  | _ => none
theorem ge_dget {apos : Pos} (hu : X.A.units + 64 < cLine) (ho : GE cl X o mo) (hi : GE cl X i mi) (h1 : attributeBase o "get" X.env (eval o X.env) = eval o X.env := by rfl)
    (h2 : ((backTo pos (starEach [i] X.env)).all (fun x => !x.1) && (backToKw pos (keywordEach [] X.env)).all (fun x => x.1.isSome)
      && decide (([i] : List Expr).length + ([] : List Keyword).length + (if ([] : List Keyword).isEmpty then 0 else 1) < 30)) = true := by rfl)
    (h3 : (apos.endLine == pos.line) = true := by rfl) (h4 : backTo pos (starEach [i] X.env) = [(false, eval i X.env)] := by rfl) : GE cl X (.Call (.Attribute o "get" apos) [i] [] pos) (mDGet mo mi) :=
  (pe_dget1 (by omega) ho hi ⟨h1, h2, h3, h4⟩).imp fun σ H Q q => by
    obtain ⟨ρ, lo, M, d, M', R, L, e, k⟩ := q
    unfold mDGet at e
    split at e
    · rename_i n M1 h1
      split at e
      · rename_i kvs0 hm0
        split at e
        · rename_i kd M2 h2
          refine ⟨ρ, lo, M, _, M1, R, L, h1, fun v H1 ρ1 g1 R1 r1 => ?_⟩
          obtain ⟨a0, vs0, e0, hp0, hH0, _, _⟩ := refD R1 r1 hm0
          refine ⟨a0, e0, .inl ⟨vs0, .inl hH0⟩, ρ1, lo, M1, kd, M2, R1, L.mono g1, h2, fun u H2 ρ2 g2 R2 r2 => ?_⟩
          have r1' := r1.mono g2
          subst e0
          unfold dGetF at e
          simp only at e
          split at e
          · rename_i kvs kk hm hk
            cases e
            obtain ⟨a, vs, ea, hp, hH, hkv, _⟩ := refD R2 r1' hm
            cases ea
            obtain rfl := keyOf_ok r2 hk
            refine ⟨valV vs kk, .k hH, k _ H2 ρ2 (g1.trans g2) R2 ?_⟩
            obtain ⟨z1, z2⟩ := hkv.val (k := kk)
            cases ev : valD kvs kk with
            | none => rw [z1 ev]; exact .non
            | some d => obtain ⟨v, e1, rv⟩ := z2 d ev; rw [e1]; exact rv
          · cases e
        · cases e
      · cases e
    · cases e
/-- d[k] = v -/
def dPutM (o k v : D) (M : Mo) : Option Mo := match o with
  | .ref n => match M[n]?, keyOf k with
    | some (.dct kvs), some k => if kvs.length < 1000 then some (M.set n (.dct (putE kvs k v))) else none
    | _, _ => none
  | _ => none
def sDPutM (mo mi mv : ME) : MS := fun lo M => match mv lo M with
  | some (v, M1) => match mo lo M1 with
    | some (o, M2) => match mi lo M2 with
      | some (k, M3) => match dPutM o k v M3 with
        | some M4 => some (.nx lo M4)
        | none => none
      | none => none
    | none => none
  | none => none
theorem gs_dput {pos' : Pos} (hu : X.A.units + 64 < cLine) (ho : GE cl X o mo) (hi : GE cl X i mi) (hv : GE cl X value mv) (hs : swapsWith value (some (.Subscript o i pos')) pos.line X.env = pure false := by rfl) :
    GS cl X (.Assign [.Subscript o i pos'] value pos) (sDPutM mo mi mv) := (ps_dput (by omega) ho hi hv hs).imp fun De σ H q => by
  obtain ⟨ρ, lo, M, o, R, L, e, k⟩ := q
  unfold sDPutM at e
  split at e
  · rename_i vd M1 h1
    split at e
    · rename_i od M2 h2
      split at e
      · rename_i kd M3 h3
        split at e
        · rename_i M4 h4
          cases e
          refine ⟨ρ, lo, M, vd, M1, R, L, h1, fun v H1 ρ1 g1 R1 r1 => ?_⟩
          refine ⟨ρ1, lo, M1, od, M2, R1, L.mono g1, h2, fun ov H2 ρ2 g2 R2 r2 => ?_⟩
          refine ⟨ρ2, lo, M2, kd, M3, R2, (L.mono g1).mono g2, h3, fun kv H3 ρ3 g3 R3 r3 => ?_⟩
          unfold dPutM at h4
          split at h4
          · rename_i n
            split at h4
            · rename_i kvs kk hm hk
              split at h4
              · rename_i hl
                cases h4
                obtain ⟨a, vs, rfl, hp, hH, hkv, hnd⟩ := refD R3 (r2.mono g3) hm
                obtain rfl := keyOf_ok r3 hk
                have g4 : Gr H3 ρ3 (upd H3 a (.dK (putK vs kk v))) ρ3 := .put R3 (List.mem_of_getElem? hp)
                have hl2 : vs.length < sizeLine := by rw [hkv.len, sizeLine_eq]; omega
                refine ⟨a, _, rfl, .k hH hl2, ?_⟩
                exact k σ _ ρ3 (((g1.trans g2).trans g3).trans g4) (R3.put hp ⟨_, upd_same, (hkv.put ((r1.mono g2).mono g3)).mono_ g4, putE_nodup hnd⟩) ((((L.mono g1).mono g2).mono g3).mono g4)
              · cases h4
            · cases h4
          · cases h4
        · cases e
      · cases e
    · cases e
  · cases e
/-- dict(d) -/
def dictF : F1 := fun ds M => match ds with
  | [.ref n] => match M[n]? with
    | some (.dct kvs) => some (.ref M.length, M ++ [.dct kvs])
    | _ => none
  | _ => none
theorem c_dict : CallR X (.type "dict") (rM ⟨X.K, cl, X.w⟩ dictF) := by
  intro pins s σ H xs us Q I r q
  obtain ⟨ρ, M, ds, d, M', R, rr, e, k⟩ := q
  unfold dictF at e
  split at e
  · rename_i n
    split at e
    · rename_i kvs hm
      cases e
      cases rr with
      | cons ra rz =>
        cases rz
        obtain ⟨a, vs, rfl, hp, hH, hkv, hnd⟩ := refD R ra hm
        obtain ⟨u, rfl, ru⟩ := vals1 r
        obtain rfl : u = Value.ref a := ru
        refine d_copyOf I (.inl hH) fun p s' np I' => ?_
        refine ⟨.ref p, _, I', rfl, k _ _ (ρ.push p) (.push np) (R.push np ⟨vs, upd_same, hkv.mono_ (.push np), hnd⟩) (.ref ?_)⟩
        show (ρ.m ++ [p])[M.length]? = some p
        rw [← R.len, List.getElem?_append_right (Nat.le_refl _), Nat.sub_self]
        rfl
    · cases e
  · cases e
/-- list(d), d a dict: its keys -/
def kD : Key → D
  | .inl i => .int i
  | .inr x => .str x
def keysF : F1 := fun ds M => match ds with
  | [.ref n] => match M[n]? with
    | some (.dct kvs) => some (.lst (kvs.map fun kv => kD kv.1), M)
    | _ => none
  | _ => none
theorem keys_dr {K : PySem.W.Frag} {H : Hp} {ρ : Rh} : ∀ {vs : List (Key × V)} {kvs : List (Key × D)}, vs.map (·.1) = kvs.map (·.1) → DRs K H ρ (vs.map fun kv => kV kv.1) (kvs.map fun kv => kD kv.1)
  | [], [], _ => .nil
  | [], _ :: _, h => by cases h
  | _ :: _, [], h => by cases h
  | p :: vs, q :: kvs, h => by
    simp only [List.map_cons, List.cons.injEq] at h
    rw [List.map_cons, List.map_cons]
    refine .cons ?_ (keys_dr h.2)
    rw [h.1]
    cases q.1
    · exact .int _
    · exact .str _
theorem c_keys (hc : X.calm = true) : CallR X (.type "list") (rM ⟨X.K, cl, X.w⟩ keysF) := by
  intro pins s σ H xs us Q I r q
  obtain ⟨ρ, M, ds, d, M', R, rr, e, k⟩ := q
  unfold keysF at e
  split at e
  · rename_i n
    split at e
    · rename_i kvs hm
      cases e
      cases rr with
      | cons ra rz =>
        cases rz
        obtain ⟨a, vs, rfl, hp, hH, hkv, hnd⟩ := refD R ra hm
        refine call_list_dK hc pins s σ H _ us Q I r ⟨a, vs, rfl, hH, fun p np => ?_⟩
        have nn : p ∉ ρ := R.fresh np
        exact k _ _ ρ (.new np) (R.new np) (.newLst np nn (keys_dr hkv.1))
    · cases e
  · cases e
end

/-! ### comprehensions with two sources -/
def compLoop2 (g : MG) (c : MT) (mi1 : MA) (g1 : MG) (c1 : MT) (m : ME) (vs vs1 : List Nat) : List D → Lo → Mo → Option (List D × Mo)
  | [], _, M => some ([], M)
  | d :: ds, lo, M => match g d (wipeD lo vs) M with
    | some (lo1, M1) => match c lo1 M1 with
      | some (true, M2) => match mi1 lo1 M2 with
        | some (es, M3) => match compLoop g1 c1 m vs1 es lo1 M3 with
          | some (fs, M4) => match compLoop2 g c mi1 g1 c1 m vs vs1 ds lo M4 with
            | some (rs, M5) => some (fs ++ rs, M5)
            | none => none
          | none => none
        | none => none
      | some (false, M2) => compLoop2 g c mi1 g1 c1 m vs vs1 ds lo M2
      | none => none
    | none => none
def mComp2 (mi : MA) (g : MG) (c : MT) (mi1 : MA) (g1 : MG) (c1 : MT) (m : ME) (vs vs1 : List Nat) : ME := fun lo M => match mi lo M with
  | some (ds, M1) => match compLoop2 g c mi1 g1 c1 m vs vs1 ds lo M1 with
    | some (es, M2) => if es.length ≤ 1000 then some (.lst es, M2) else none
    | none => none
  | none => none
section
variable {X : Cx} {cl : Nat → Addr} {pos : Pos}
theorem Kp.put' {H : Hp} {ρ : Rh} {p : Addr} {o : HO} (hp : p ∈ ρ.v) : Kp H ρ (upd H p o) ρ := ⟨List.prefix_refl _, fun c u h n => ⟨by rw [upd_ne (fun z => n (by rw [z]; exact .inr hp))]; exact h, n⟩⟩
theorem tLc2_of {W : Wd} {wi wi1 : TI} {mi mi1 : MA} {t t1 : TG} {g g1 : MG} {c c1 : MT} {m : ME} {vs vs1 : List Nat} {σ : L2.St} {H : Hp} {Q : VK} (hwi : ∀ σ H R, iM W mi σ H R → wi σ H R) (hwi1 : ∀ σ H R, iM W mi1 σ H R → wi1 σ H R) (cg : CG W vs t g) (cg1 : CG W vs1 t1 g1)
    (q : tM W (mComp2 mi g c mi1 g1 c1 m vs vs1) σ H Q) : tLc2 wi t (tMT W c) wi1 t1 (tMT W c1) (tM W m) vs vs1 σ H Q := by
  obtain ⟨ρ, lo, M, d, Mf, R, L, e, k⟩ := q
  unfold mComp2 at e
  split at e
  · rename_i ds M1 h1
    split at e
    · rename_i es Mg h2
      split at e
      · rename_i hz
        obtain ⟨rfl, rfl⟩ : D.lst es = d ∧ Mg = Mf := by simpa using e
        refine hwi σ H _ ⟨ρ, lo, M, ds, M1, R, L, h1, fun J H1 ρ1 g1' R1 it p hp => ?_⟩
        have L1 := L.mono g1'
        let St : Nat → Hp → Prop := fun i H' => ∃ ρ' M' xs acc rest, Kp H1 ρ1 H' ρ' ∧ (∀ a o, a ∈ ρ1.v → H1 a = some o → H' a = some o) ∧ Rep W H' ρ' M' ∧ ρ'.v = p :: ρ1.v ∧ H' p = some (.lst xs) ∧ DRs W.K H' ρ' xs acc ∧
          compLoop2 g c mi1 g1 c1 m vs vs1 (ds.drop i) lo M' = some (rest, Mg) ∧ acc ++ rest = es
        refine ⟨fun i n H' => n = ds.length - i ∧ i ≤ ds.length ∧ St i H',
          ⟨ds.length, by simp, Nat.zero_le _, ⟨ρ1.m, p :: ρ1.v⟩, M1, [], [], es, .begin hp, fun a o ha e => by rw [upd_ne (ne_of_none e hp)]; exact e, R1.begin hp, rfl, upd_same, .nil, h2, rfl⟩, ?_⟩
        rintro i n H' ⟨rfl, hi, ρ', M', xs, acc, rest, kp, hh, R', ev, ep, ra, e', ee⟩
        obtain ⟨hstop, hgo⟩ := it i H' ρ' M' (fun v d h => h.stay kp) R'
        have hpv : p ∈ ρ'.v := by rw [ev]; exact List.mem_cons_self
        by_cases hlt : i < ds.length
        · right
          have hd : ds[i]? = some ds[i] := List.getElem?_eq_getElem hlt
          generalize ds[i] = d at hd
          obtain ⟨hg, hy⟩ := hgo d hd
          rw [drop_get hd, compLoop2] at e'
          refine ⟨hg, fun H2 => ∃ n', n' < ds.length - i ∧ (n' = ds.length - (i + 1) ∧ i + 1 ≤ ds.length ∧ St (i + 1) H2), fun H2 h => h, fun x H2 hx => ?_⟩
          obtain ⟨g2, R2, rx, _⟩ := hy x H2 hx
          split at e'
          · rename_i lo1 M2 hg1
            have hst := cg.st _ _ _ _ _ hg1
            subst hst
            refine cg.ok ρ' H2 (L2.wipe σ vs) (wipeD lo vs) _ x d lo1 _ _ R2 (((L1.stay kp).wipe vs).mono g2) rx hg1 fun σ' Lσ hw => ⟨by rw [hw, wipe_wipe], ?_⟩
            split at e'
            · rename_i M3 hc
              split at e'
              · rename_i es1 M4 hmi
                split at e'
                · rename_i fs M5 hin
                  split at e'
                  · rename_i rs M6 hout
                    obtain ⟨rfl, rfl⟩ : fs ++ rs = rest ∧ M6 = Mg := by simpa using e'
                    refine ⟨ρ', lo1, _, true, M3, R2, Lσ, hc, fun H3 ρ3 g3 R3 => iteT ?_⟩
                    refine hwi1 σ' H3 _ ⟨ρ3, lo1, M3, es1, M4, R3, Lσ.mono g3, hmi, fun J1 H4 ρ4 g4 R4 it1 => ?_⟩
                    have L4 := (Lσ.mono g3).mono g4
                    have gg := (g2.trans g3).trans g4
                    refine ⟨fun j k H' => k = es1.length - j ∧ j ≤ es1.length ∧ ∃ ρ' M' xs acc rest, Kp H4 ρ4 H' ρ' ∧ Kp H1 ρ1 H' ρ' ∧ (∀ a o, a ∈ ρ1.v → H1 a = some o → H' a = some o) ∧ Rep W H' ρ' M' ∧ ρ'.v = p :: ρ1.v ∧ H' p = some (.lst xs) ∧ DRs W.K H' ρ' xs acc ∧
                        compLoop g1 c1 m vs1 (es1.drop j) lo1 M' = some (rest, M5) ∧ acc ++ (rest ++ rs) = es,
                      ⟨es1.length, by simp, Nat.zero_le _, ρ4, M4, xs, acc, fs, .refl _ _, kp.trans gg.kp, fun a o ha e => gg.hid a o (by rw [ev]; exact List.mem_cons_of_mem _ ha) (hh a o ha e), R4, gg.vol.trans ev, gg.hid p _ hpv ep, ra.mono gg, hin, ee⟩, ?_⟩
                    rintro j k5 H5 ⟨rfl, hj, ρ5, M7, xs5, acc5, rest5, kp4, kp5, hh5, R5, ev5, ep5, ra5, e5, ee5⟩
                    obtain ⟨hstop1, hgo1⟩ := it1 j H5 ρ5 M7 (fun v d h => h.stay kp4) R5
                    have hpv5 : p ∈ ρ5.v := by rw [ev5]; exact List.mem_cons_self
                    by_cases hlt1 : j < es1.length
                    · right
                      have hd1 : es1[j]? = some es1[j] := List.getElem?_eq_getElem hlt1
                      generalize es1[j] = d1 at hd1
                      obtain ⟨hg5, hy5⟩ := hgo1 d1 hd1
                      rw [drop_get hd1, compLoop] at e5
                      refine ⟨hg5, fun H2 => ∃ n', n' < es1.length - j ∧ (n' = es1.length - (j + 1) ∧ j + 1 ≤ es1.length ∧ ∃ ρ' M' xs acc rest, Kp H4 ρ4 H2 ρ' ∧ Kp H1 ρ1 H2 ρ' ∧ (∀ a o, a ∈ ρ1.v → H1 a = some o → H2 a = some o) ∧ Rep W H2 ρ' M' ∧ ρ'.v = p :: ρ1.v ∧ H2 p = some (.lst xs) ∧ DRs W.K H2 ρ' xs acc ∧
                        compLoop g1 c1 m vs1 (es1.drop (j + 1)) lo1 M' = some (rest, M5) ∧ acc ++ (rest ++ rs) = es), fun H2 h => h, fun x1 H6 hx1 => ?_⟩
                      obtain ⟨g6, R6, rx6, _⟩ := hy5 x1 H6 hx1
                      split at e5
                      · rename_i lo2 M8 hg8
                        have hst1 := cg1.st _ _ _ _ _ hg8
                        subst hst1
                        refine cg1.ok ρ5 H6 (L2.wipe σ' vs1) (wipeD lo1 vs1) _ x1 d1 lo2 _ _ R6 (((L4.stay kp4).wipe vs1).mono g6) rx6 hg8 fun σ3 Lσ3 hw3 => ⟨by rw [hw3, wipe_wipe], ?_⟩
                        split at e5
                        · rename_i M9 hc9
                          split at e5
                          · rename_i el M10 hm10
                            split at e5
                            · rename_i es2 M11 hr
                              obtain ⟨rfl, rfl⟩ : el :: es2 = rest5 ∧ M11 = M5 := by simpa using e5
                              refine ⟨ρ5, lo2, _, true, M9, R6, Lσ3, hc9, fun H7 ρ7 g7 R7 => iteT ?_⟩
                              refine ⟨ρ7, lo2, M9, el, M10, R7, Lσ3.mono g7, hm10, fun y H8 ρ8 g8 R8 r8 => ?_⟩
                              have gg8 := (g6.trans g7).trans g8
                              have ep8 : H8 p = some (.lst xs5) := gg8.hid p _ hpv5 ep5
                              have ev8 : ρ8.v = p :: ρ1.v := gg8.vol.trans ev5
                              have hpv8 : p ∈ ρ8.v := by rw [ev8]; exact List.mem_cons_self
                              have hlen := ra5.length
                              have hlt9 : xs5.length < sizeLine := by
                                have h9 := congrArg List.length ee5
                                simp only [List.length_append, List.length_cons] at h9
                                rw [sizeLine_eq]
                                omega
                              refine ⟨xs5, ep8, hlt9, _, by omega, rfl, by omega, ρ8, M10, xs5 ++ [y], acc5 ++ [el], es2, (kp4.trans gg8.kp).trans (Kp.put' hpv8), (kp5.trans gg8.kp).put hp, fun a o ha e => ?_, R8.hide hpv8, ev8, upd_same, ((ra5.mono gg8).append (.cons r8 .nil)).hide hpv8, hr, by rw [List.append_assoc]; exact ee5⟩
                              rw [upd_ne (ne_of_none e hp)]
                              exact gg8.hid a o (by rw [ev5]; exact List.mem_cons_of_mem _ ha) (hh5 a o ha e)
                            · cases e5
                          · cases e5
                        · rename_i M9 hc9
                          refine ⟨ρ5, lo2, _, false, M9, R6, Lσ3, hc9, fun H7 ρ7 g7 R7 => iteF ?_⟩
                          have gg8 := g6.trans g7
                          exact ⟨_, by omega, rfl, by omega, ρ7, M9, xs5, acc5, rest5, kp4.trans gg8.kp, kp5.trans gg8.kp, fun a o ha e => gg8.hid a o (by rw [ev5]; exact List.mem_cons_of_mem _ ha) (hh5 a o ha e), R7, gg8.vol.trans ev5, gg8.hid p _ hpv5 ep5, ra5.mono gg8, e5, ee5⟩
                        · cases e5
                      · cases e5
                    · left
                      refine ⟨hstop1 (by omega), ?_⟩
                      rw [List.drop_of_length_le (Nat.le_of_not_lt hlt1), compLoop] at e5
                      obtain ⟨rfl, rfl⟩ : [] = rest5 ∧ M7 = M5 := by simpa using e5
                      exact ⟨_, by omega, rfl, by omega, ρ5, _, xs5, acc5, rs, kp5, hh5, R5, ev5, ep5, ra5, hout, by simpa using ee5⟩
                  · cases e'
                · cases e'
              · cases e'
            · rename_i M3 hc
              refine ⟨ρ', lo1, _, false, M3, R2, Lσ, hc, fun H3 ρ3 g3 R3 => iteF ?_⟩
              have gg := g2.trans g3
              exact ⟨_, by omega, rfl, by omega, ρ3, M3, xs, acc, rest, kp.trans gg.kp, fun a o ha e => gg.hid a o (by rw [ev]; exact List.mem_cons_of_mem _ ha) (hh a o ha e), R3, gg.vol.trans ev, gg.hid p _ hpv ep, ra.mono gg, e', ee⟩
            · cases e'
          · cases e'
        · left
          refine ⟨hstop (by omega), ?_⟩
          rw [List.drop_of_length_le (Nat.le_of_not_lt hlt), compLoop2] at e'
          cases e'
          rw [List.append_nil] at ee
          subst ee
          have hpm : p ∉ ρ'.m := (R'.hid p hpv).2
          have hp1 : p ∉ ρ1.v := fun z => by
            obtain ⟨⟨u, e⟩, _⟩ := R1.hid p z
            rw [hp] at e; cases e
          have hsub : ∀ a, a ∈ (⟨ρ'.m, ρ1.v⟩ : Rh).v → a ∈ ρ'.v := fun a ha => by rw [ev]; exact List.mem_cons_of_mem _ ha
          have hnot : ∀ a, a ∉ ρ' → a ∉ (⟨ρ'.m, ρ1.v⟩ : Rh) := fun a n z => z.elim (fun z => n (.inl z)) fun z => n (.inr (hsub a z))
          refine k _ H' ⟨ρ'.m, ρ1.v⟩ (g1'.trans ⟨kp.pre, fun a o h n => ?_, rfl, hh⟩) (R'.less rfl hsub) (.lst ⟨ep, fun z => z.elim hpm hp1⟩ (DRs.less (ρ := ρ') (ρ' := ⟨ρ'.m, ρ1.v⟩) rfl hnot ra))
          obtain ⟨h2, n2⟩ := kp.keep a o h n
          exact ⟨h2, hnot a n2⟩
      · cases e
    · cases e
  · cases e
section
variable {elt tg iter tg1 iter1 : Expr} {ifs ifs1 : List Expr} {scope : Scope} {own : List (Str × Nat)} {vs1 : List Nat} {mi mi1 : MA} {t t1 : TG} {g g1 : MG} {c c1 : MT} {m : ME}
/-- [elt for tg in iter if .. for tg1 in iter1 if ..] -/
theorem ge_comp2 (hc : X.calm = true) (hN : X.N.Nodup) (hi : GI cl X tg iter mi) (ok : BlkOk X.N X.env.scope scope own) (hv : ∀ i ∈ vs1, i ∈ own.map (·.2)) (cg : CG ⟨X.K, cl, X.w⟩ (own.map (·.2)) t g) (cg1 : CG ⟨X.K, cl, X.w⟩ vs1 t1 g1)
    (hg : ∀ (s : Shared) (H : Hp) (C : Addr) (c2 : List (Str × Addr)) (fp : List Addr), PG (X.blk s H scope (compEnvC scope c2 C X.env) fp) tg t)
    (ht : ∀ (s : Shared) (H : Hp) (C : Addr) (c2 : List (Str × Addr)) (fp : List Addr), GTs cl (X.blk s H scope (compEnvC scope c2 C X.env) fp) ifs c)
    (hi1 : ∀ (s : Shared) (H : Hp) (C : Addr) (c2 : List (Str × Addr)) (fp : List Addr), GI cl (X.blk s H scope (compEnvC scope c2 C X.env) fp) tg1 iter1 mi1)
    (hg1 : ∀ (s : Shared) (H : Hp) (C : Addr) (c2 : List (Str × Addr)) (fp : List Addr), PG (X.blk s H scope (compEnvC scope c2 C X.env) fp) tg1 t1)
    (ht1 : ∀ (s : Shared) (H : Hp) (C : Addr) (c2 : List (Str × Addr)) (fp : List Addr), GTs cl (X.blk s H scope (compEnvC scope c2 C X.env) fp) ifs1 c1)
    (he : ∀ (s : Shared) (H : Hp) (C : Addr) (c2 : List (Str × Addr)) (fp : List Addr), GE cl (X.blk s H scope (compEnvC scope c2 C X.env) fp) elt m) (hs : ∀ x, foldedSetIterable iter X.env x = pure x := by intro _; rfl) (hs1 : ∀ env x, foldedSetIterable iter1 env x = pure x := by intro _ _; rfl) :
    GE cl X (.ListComp elt [⟨tg, iter, ifs, 0⟩, ⟨tg1, iter1, ifs1, 0⟩] scope pos) (mComp2 mi g c mi1 g1 c1 m (own.map (·.2)) vs1) :=
  (pe_lc2 hc hN hi ok hv hg ht hi1 hg1 ht1 he hs hs1).imp fun σ H Q q => tLc2_of (fun _ _ _ h => h) (fun _ _ _ h => h) cg cg1 q
theorem gs_setComp2 {i : Nat} {y : Str} {py spos : Pos} (hc : X.calm = true) (hN : X.N.Nodup) (hy : X.N[i]? = some y) (hyl : X.env.scope.names.lookup y = some .local)
    (hsw : swapsWith (.ListComp elt [⟨tg, iter, ifs, 0⟩, ⟨tg1, iter1, ifs1, 0⟩] scope pos) (some (.Name y py)) spos.line X.env = pure true) (hi : GI cl X tg iter mi) (ok : BlkOk X.N X.env.scope scope own) (hv : ∀ i ∈ vs1, i ∈ own.map (·.2)) (cg : CG ⟨X.K, cl, X.w⟩ (own.map (·.2)) t g) (cg1 : CG ⟨X.K, cl, X.w⟩ vs1 t1 g1)
    (hg : ∀ (s : Shared) (H : Hp) (C : Addr) (c2 : List (Str × Addr)) (fp : List Addr), PG (X.blk s H scope (compEnvC scope c2 C X.env) fp) tg t)
    (ht : ∀ (s : Shared) (H : Hp) (C : Addr) (c2 : List (Str × Addr)) (fp : List Addr), GTs cl (X.blk s H scope (compEnvC scope c2 C X.env) fp) ifs c)
    (hi1 : ∀ (s : Shared) (H : Hp) (C : Addr) (c2 : List (Str × Addr)) (fp : List Addr), GI cl (X.blk s H scope (compEnvC scope c2 C X.env) fp) tg1 iter1 mi1)
    (hg1 : ∀ (s : Shared) (H : Hp) (C : Addr) (c2 : List (Str × Addr)) (fp : List Addr), PG (X.blk s H scope (compEnvC scope c2 C X.env) fp) tg1 t1)
    (ht1 : ∀ (s : Shared) (H : Hp) (C : Addr) (c2 : List (Str × Addr)) (fp : List Addr), GTs cl (X.blk s H scope (compEnvC scope c2 C X.env) fp) ifs1 c1)
    (he : ∀ (s : Shared) (H : Hp) (C : Addr) (c2 : List (Str × Addr)) (fp : List Addr), GE cl (X.blk s H scope (compEnvC scope c2 C X.env) fp) elt m) (hs : ∀ x, foldedSetIterable iter X.env x = pure x := by intro _; rfl) (hs1 : ∀ env x, foldedSetIterable iter1 env x = pure x := by intro _ _; rfl) :
    GS cl X (.Assign [.Name y py] (.ListComp elt [⟨tg, iter, ifs, 0⟩, ⟨tg1, iter1, ifs1, 0⟩] scope pos) spos) (sSet (mComp2 mi g c mi1 g1 c1 m (own.map (·.2)) vs1) (gName i)) :=
  (ps_setLc2 hc hN hy hyl hsw hi ok hv hg ht hi1 hg1 ht1 he hs hs1).imp fun De σ H q => by
    obtain ⟨ρ, lo, M, o, R, L, e, k⟩ := q
    unfold sSet at e
    split at e
    · rename_i d M1 h1
      split at e
      · rename_i lo2 M2 h2
        cases e
        cases h2
        exact tLc2_of (fun _ _ _ h => h) (fun _ _ _ h => h) cg cg1 ⟨ρ, lo, M, d, _, R, L, h1, fun v H1 ρ1 g1 R1 r1 => k _ H1 ρ1 g1 R1 ((L.mono g1).set r1 i)⟩
      · cases e
    · cases e
end
end
end G

set_option Elab.async false
set_option linter.all false
set_option maxRecDepth 100000
set_option maxHeartbeats 1000000
/-! dicts whose keys are nested tuples. -/
namespace G
open PySem PySem.Spec L2

def valN (kvs : List (D × D)) (k : D) : Option D := (kvs.find? fun kv => D.beq kv.1 k).map (·.2)
def putN (kvs : List (D × D)) (k d : D) : List (D × D) :=
  if (kvs.any fun kv => D.beq kv.1 k) = true then kvs.map fun kv => if D.beq kv.1 k = true then (kv.1, d) else kv else kvs ++ [(k, d)]
abbrev Ent3 := NestedKey × Addr × Value
theorem keyOk_parts {d : D} (h : d.keyOk = true) : isTup d = true ∧ d.plain = true ∧ d.nk.depth ≤ 8 := by
  unfold D.keyOk at h
  simp only [Bool.and_eq_true, decide_eq_true_eq] at h
  exact ⟨h.1.1, h.1.2, h.2⟩
theorem beq_nk {d e : D} (h1 : d.keyOk = true) (h2 : e.keyOk = true) : D.beq d e = decide (d.nk = e.nk) := by
  cases hb : D.beq d e with
  | true => rw [D.eq_of_beq d e hb]; simp
  | false =>
    refine (decide_eq_false fun z => ?_).symm
    have := D.nk_inj d e (keyOk_parts h1).2.1 (keyOk_parts h2).2.1 z
    rw [this, D.beq_self] at hb
    cases hb
section
variable {K : PySem.W.Frag} {H : Hp} {ρ : Rh}
theorem DnR.nil_ : DnR K H ρ [] [] := ⟨rfl, rfl, by simp, .nil, [], .nil, .nil⟩
theorem DnR.cons_inv {x : Ent3} {kv : D × D} {xs : List Ent3} {kvs : List (D × D)} (h : DnR K H ρ (x :: xs) (kv :: kvs)) :
    x.1 = kv.1.nk ∧ kv.1.keyOk = true ∧ x.1 ∉ xs.map (·.1) ∧ DR K H ρ (.ref x.2.1) kv.1 ∧ (∃ v, DR K H ρ v kv.2 ∧ RelV v x.2.2) ∧ DnR K H ρ xs kvs := by
  obtain ⟨h1, h2, h3, h4, vs, h5, h6⟩ := h
  simp only [List.map_cons, List.cons.injEq] at h1
  rw [List.all_cons, Bool.and_eq_true] at h2
  rw [List.map_cons, List.nodup_cons] at h3
  rw [List.map_cons, List.map_cons] at h4
  rw [List.map_cons] at h5
  rw [List.map_cons] at h6
  cases h4 with
  | cons r rr =>
    cases h5 with
    | cons s ss =>
      cases h6 with
      | cons t tt => exact ⟨h1.1, h2.1, h3.1, r, ⟨_, s, t⟩, h1.2, h2.2, h3.2, rr, _, ss, tt⟩
theorem DnR.len {xs : List Ent3} {kvs : List (D × D)} (h : DnR K H ρ xs kvs) : xs.length = kvs.length := by
  have := congrArg List.length h.nk
  simpa using this
theorem DnR.cons_ {x : Ent3} {kv : D × D} {xs : List Ent3} {kvs : List (D × D)} (h1 : x.1 = kv.1.nk) (h2 : kv.1.keyOk = true) (h3 : x.1 ∉ xs.map (·.1)) (h4 : DR K H ρ (.ref x.2.1) kv.1) {v : V} (h5 : DR K H ρ v kv.2) (h6 : RelV v x.2.2) (h7 : DnR K H ρ xs kvs) : DnR K H ρ (x :: xs) (kv :: kvs) := by
  obtain ⟨a1, a2, a3, a4, vs, a5, a6⟩ := h7
  exact ⟨by rw [List.map_cons, List.map_cons, h1, a1], by rw [List.all_cons, h2, a2]; rfl, List.nodup_cons.mpr ⟨h3, a3⟩, .cons h4 a4, v :: vs, .cons h5 a5, .cons h6 a6⟩
theorem atKey_cons_pos {x : Ent3} {xs : List Ent3} {k : NestedKey} (e : x.1 = k) : atKey (x :: xs) k = some x.2 := by simp [atKey, List.find?_cons, e]
theorem atKey_cons_neg {x : Ent3} {xs : List Ent3} {k : NestedKey} (e : ¬ x.1 = k) : atKey (x :: xs) k = atKey xs k := by simp [atKey, List.find?_cons, e]
theorem DnR.val {k : D} (hk : k.keyOk = true) : ∀ {xs : List Ent3} {kvs : List (D × D)}, DnR K H ρ xs kvs → (valN kvs k = none → atKey xs k.nk = none) ∧ ∀ d, valN kvs k = some d → ∃ p v, atKey xs k.nk = some p ∧ DR K H ρ v d ∧ RelV v p.2
  | [], [], _ => ⟨fun _ => rfl, fun d e => by cases e⟩
  | [], _ :: _, h => by have := h.len; simp at this
  | _ :: _, [], h => by have := h.len; simp at this
  | x :: xs, kv :: kvs, h => by
    obtain ⟨h1, h2, h3, h4, ⟨v, h5, h6⟩, h7⟩ := h.cons_inv
    have hb := beq_nk h2 hk
    by_cases e : kv.1.nk = k.nk
    · have hb : D.beq kv.1 k = true := by rw [hb]; exact decide_eq_true e
      have e1 : valN (kv :: kvs) k = some kv.2 := by simp [valN, List.find?_cons, hb]
      rw [e1, atKey_cons_pos (h1.trans e)]
      exact ⟨fun z => (by cases z), fun d z => by cases z; exact ⟨_, v, rfl, h5, h6⟩⟩
    · have hb : D.beq kv.1 k = false := by rw [hb]; exact decide_eq_false e
      have e1 : valN (kv :: kvs) k = valN kvs k := by simp [valN, List.find?_cons, hb]
      rw [e1, atKey_cons_neg (fun z => e (h1.symm.trans z))]
      exact DnR.val hk h7
theorem valN_any (k : D) : ∀ kvs : List (D × D), (kvs.any fun kv => D.beq kv.1 k) = (valN kvs k).isSome
  | [] => rfl
  | kv :: kvs => by
    unfold valN
    rw [List.any_cons, List.find?_cons]
    cases hb : D.beq kv.1 k with
    | true => rfl
    | false => exact valN_any k kvs
theorem putAt_keys {k : NestedKey} {u : Value} (xs : List Ent3) : (xs.map (putAt k u)).map (·.1) = xs.map (·.1) := by
  rw [List.map_map]
  refine List.map_congr_left fun x _ => ?_
  show (putAt k u x).1 = x.1
  unfold putAt
  split <;> rfl
theorem DnR.repl {k : D} {u : Value} {v : V} {d : D} (hk : k.keyOk = true) (r : DR K H ρ v d) (ru : RelV v u) : ∀ {xs : List Ent3} {kvs : List (D × D)}, DnR K H ρ xs kvs → DnR K H ρ (xs.map (putAt k.nk u)) (kvs.map fun kv => if D.beq kv.1 k = true then (kv.1, d) else kv)
  | [], [], _ => DnR.nil_
  | [], _ :: _, h => by have := h.len; simp at this
  | _ :: _, [], h => by have := h.len; simp at this
  | x :: xs, kv :: kvs, h => by
    obtain ⟨h1, h2, h3, h4, ⟨v0, h5, h6⟩, h7⟩ := h.cons_inv
    have hb := beq_nk h2 hk
    have ih := DnR.repl hk r ru h7
    rw [List.map_cons, List.map_cons]
    by_cases e : kv.1.nk = k.nk
    · have hb : D.beq kv.1 k = true := by rw [hb]; exact decide_eq_true e
      rw [if_pos hb]
      have e1 : putAt k.nk u x = (x.1, x.2.1, u) := by unfold putAt; rw [if_pos (h1.trans e)]
      rw [e1]
      exact DnR.cons_ h1 h2 (by rw [putAt_keys]; exact h3) h4 r ru ih
    · have hb : D.beq kv.1 k = false := by rw [hb]; exact decide_eq_false e
      rw [if_neg (by rw [hb]; exact Bool.false_ne_true)]
      have e1 : putAt k.nk u x = x := by unfold putAt; rw [if_neg (fun z => e (h1.symm.trans z))]
      rw [e1]
      exact DnR.cons_ h1 h2 (by rw [putAt_keys]; exact h3) h4 h5 h6 ih
theorem atKey_mem {k : NestedKey} : ∀ {xs : List Ent3}, atKey xs k = none → k ∉ xs.map (·.1)
  | [], _ => by simp
  | x :: xs, h => by
    by_cases e : x.1 = k
    · rw [atKey_cons_pos e] at h; cases h
    · rw [atKey_cons_neg e] at h
      rw [List.map_cons, List.mem_cons]
      exact fun z => z.elim (fun z => e z.symm) (atKey_mem h)
theorem DnR.snoc {k : D} {b : Addr} {u : Value} {v : V} {d : D} (hk : k.keyOk = true) (rk : DR K H ρ (.ref b) k) (r : DR K H ρ v d) (ru : RelV v u) {xs : List Ent3} {kvs : List (D × D)} (h : DnR K H ρ xs kvs) (hn : k.nk ∉ xs.map (·.1)) :
    DnR K H ρ (xs ++ [(k.nk, b, u)]) (kvs ++ [(k, d)]) := by
  obtain ⟨a1, a2, a3, a4, vs, a5, a6⟩ := h
  refine ⟨by rw [List.map_append, List.map_append, a1]; rfl, by rw [List.all_append, a2]; simp [hk], ?_, ?_, vs ++ [v], ?_, ?_⟩
  · rw [List.map_append]
    exact List.nodup_append.mpr ⟨a3, by simp, fun x hx y hy z => by
      simp only [List.map_cons, List.map_nil, List.mem_singleton] at hy
      subst hy; subst z
      exact hn hx⟩
  · rw [List.map_append, List.map_append]
    exact a4.append (.cons rk .nil)
  · rw [List.map_append]
    exact a5.append (.cons r .nil)
  · rw [List.map_append]
    exact vals_append a6 (.cons ru .nil)
where
  vals_append : ∀ {vs ws : List V} {us ts : List Value}, Vals vs us → Vals ws ts → Vals (vs ++ ws) (us ++ ts)
    | _, _, _, _, .nil, k => k
    | _, _, _, _, .cons r rs, k => .cons r (vals_append rs k)
theorem DnR.put {k : D} {b : Addr} {u : Value} {v : V} {d : D} (hk : k.keyOk = true) (rk : DR K H ρ (.ref b) k) (r : DR K H ρ v d) (ru : RelV v u) {xs : List Ent3} {kvs : List (D × D)} (h : DnR K H ρ xs kvs) : DnR K H ρ (storedH xs k.nk b u) (putN kvs k d) := by
  obtain ⟨z1, z2⟩ := h.val hk
  unfold storedH putN
  rw [valN_any]
  cases e : valN kvs k with
  | none =>
    rw [z1 e, if_neg (by simp), if_neg (by simp)]
    exact h.snoc hk rk r ru (atKey_mem (z1 e))
  | some d0 =>
    obtain ⟨p, v0, e1, _, _⟩ := z2 d0 e
    rw [e1, if_pos (by simp), if_pos (by simp)]
    exact h.repl hk r ru
end
section
variable {X : Cx} {pins : List (Addr × Obj)} {σ : L2.St} {H : Hp} {s : Shared} {ρ : Rh} {M : Mo} {cl : Nat → Addr}
theorem dn_key (I : Inv X pins σ H s) {b : Addr} {d : D} (r : DR X.K H ρ (.ref b) d) (hk : d.keyOk = true) : (nestedKind X.prog X.w).is s.heap d.nk b :=
  ⟨(dr_nv I r rfl (keyOk_parts hk).2.1).nested, (keyOk_parts hk).2.2⟩
theorem dn_ref {v : V} {d : D} (r : DR X.K H ρ v d) (hk : d.keyOk = true) : ∃ b, v = .ref b := by
  cases r with
  | tup _ _ => exact ⟨_, rfl⟩
  | _ => simp [D.keyOk, isTup] at hk
theorem dn_keys (I : Inv X pins σ H s) : ∀ {xs : List Ent3} {kvs : List (D × D)}, DnR X.K H ρ xs kvs → ∀ x ∈ xs, (nestedKind X.prog X.w).is s.heap x.1 x.2.1
  | [], [], _ => fun x h => by cases h
  | [], _ :: _, h => by have := h.len; simp at this
  | _ :: _, [], h => by have := h.len; simp at this
  | x :: xs, kv :: kvs, h => by
    obtain ⟨h1, h2, h3, h4, _, h7⟩ := h.cons_inv
    intro y hy
    rcases List.mem_cons.mp hy with rfl | hy
    · rw [h1]; exact dn_key I h4 h2
    · exact dn_keys I h7 y hy
theorem dn_dict (I : Inv X pins σ H s) {a : Addr} {xs : List Ent3} {kvs : List (D × D)} (hH : H a = some (DnO X.w a xs)) (h : DnR X.K H ρ xs kvs) : s.heap.DictOfH (nestedKind X.prog X.w) a xs := by
  obtain ⟨⟨o, es, ep, h1, h2, h3, h4⟩, _, _⟩ := I.hok a _ hH
  exact ⟨o, es, ep, h1, h2, h3, h4, dn_keys I h, h.nd⟩
theorem refN {v : V} {n : Nat} {kvs : List (D × D)} (R : Rep ⟨X.K, cl, X.w⟩ H ρ M) (r : DR X.K H ρ v (.ref n)) (e : M[n]? = some (.dcn kvs)) : ∃ q xs, v = .ref q ∧ ρ.m[n]? = some q ∧ H q = some (DnO X.w q xs) ∧ (q == sysModules) = false ∧ DnR X.K H ρ xs kvs := by
  cases r with
  | ref h =>
    obtain ⟨xs, h1, h2, h3⟩ := R.at_ h e
    exact ⟨_, xs, rfl, h, h1, h2, h3⟩
theorem nk_room1 {A : Around} (hu : A.units + 64 < cLine) : (nestedKind X.prog X.w).room A.in1 := by
  show A.in1.units + 8 < cLine
  have : A.in1.units = A.units + 1 := rfl
  omega
end
section
variable {X : Cx} {cl : Nat → Addr} {pos : Pos} {o i e value : Expr} {mo mi mv m : ME}
/-- {} whose keys will be nested tuples -/
def mNewDn : ME := fun _ M => some (.ref M.length, M ++ [.dcn []])
theorem dnO_ok {P : Program} {w : World} {H : Hp} {h : Heap} {a : Addr} {xs : List Ent3} (x : DnP w a xs h) : ObjOk P w H h a (DnO w a xs) := by
  obtain ⟨o, es, ep, h1, h2, h3, h4⟩ := x
  exact ⟨⟨o, es, ep, h1, h2, h3, h4⟩, ⟨o, h1⟩, fun g1 g2 ⟨o', es', ep', k1, k2, k3, k4⟩ st => ⟨o', es', ep', st _ k1, k2, k3, k4⟩⟩
theorem ge_newDn : GE cl X (.Dict [] [] pos) mNewDn := ⟨fun pins s σ H Q I h => by
  obtain ⟨ρ, lo, M, d, M', R, L, e, k⟩ := h
  cases e
  refine wpAny_Dict_empty ⟨.ref s.heap.objs.size, _, I.laid (a := s.heap.objs.size) (o := DnO X.w s.heap.objs.size []) (t' := s.toks) (fun _ _ q => Heap.get?_push_of_some _ q) (Nat.le_refl _)
    (dnO_ok ⟨_, #[], 0, Heap.get?_push_size _ rfl, ⟨rfl, rfl, rfl⟩, rfl, rfl⟩), rfl, ?_⟩
  have hp := I.hok.fresh (Nat.le_refl s.heap.objs.size)
  refine k _ _ (ρ.push s.heap.objs.size) (.push hp) (R.push hp ⟨[], upd_same, beq_eq_false_iff_ne.mpr (Ne.symm (Nat.ne_of_lt I.big)), DnR.nil_⟩) (.ref ?_)
  show (ρ.m ++ [s.heap.objs.size])[M.length]? = some s.heap.objs.size
  rw [← R.len, List.getElem?_append_right (Nat.le_refl _), Nat.sub_self]
  rfl⟩
/-- d[k] -/
def dnAtF : F1 := fun ds M => match ds with
  | [.ref n, k] => match M[n]? with
    | some (.dcn kvs) => if k.keyOk = true then (match valN kvs k with
      | some d => some (d, M)
      | none => none) else none
    | _ => none
  | _ => none
theorem ge_nix (hu : X.A.units + 64 < cLine) (ho : GE cl X o mo) (hi : GE cl X i mi) (hs : NoSl i := by intro _ _; rfl) : GE cl X (.Subscript o i pos) (mBin dnAtF mo mi) := by
  refine ⟨fun pins s σ H Q I h => ?_⟩
  have h := tM_two (tM_call h)
  refine subD_of PySem.F.slot_dict_getitem.lookup hs (thn (ho.run pins s σ H _ I h) fun u s1 ⟨x, H1, I1, rx, q1⟩ => thn (hi.run pins s1 σ H1 _ I1 q1) fun iv s2 ⟨y, H2, I2, ry, q⟩ => ?_)
  obtain ⟨ρ, M, ds, d, M', R, r, e, k⟩ := q
  unfold dnAtF at e
  split at e
  · rename_i n kd
    split at e
    · rename_i kvs hm
      split at e
      · rename_i hk
        split at e
        · rename_i d1 hd
          cases e
          obtain ⟨v1, u1, e1, ra, rb⟩ := r.pair
          cases e1
          obtain ⟨a, xs, rfl, hp, hH, hsys, hr⟩ := refN R ra hm
          obtain ⟨b, rfl⟩ := dn_ref rb hk
          obtain rfl : u = Value.ref a := rx
          obtain rfl : iv = Value.ref b := ry
          have dd := dn_dict I2 hH hr
          obtain ⟨p, v, e2, rv, ru⟩ := (hr.val hk).2 _ hd
          exact ⟨dd.typeIs, wpAny_getItem_heap (nk_room1 (X := X) hu) (dn_key I2 rb hk) dd e2 ⟨v, H2, I2.tok _, ru, k v H2 ρ (.refl _ _) R rv⟩⟩
        · cases e
      · cases e
    · cases e
  · cases e
/-- k in d -/
def dnInF (neg : Bool) : F1 := fun ds M => match ds with
  | [k, .ref n] => match M[n]? with
    | some (.dcn kvs) => if k.keyOk = true then some (.bl (if neg then !(valN kvs k).isSome else (valN kvs k).isSome), M) else none
    | _ => none
  | _ => none
theorem DnR.isSome {K : PySem.W.Frag} {H : Hp} {ρ : Rh} {k : D} (hk : k.keyOk = true) {xs : List Ent3} {kvs : List (D × D)} (h : DnR K H ρ xs kvs) : (atKey xs k.nk).isSome = (valN kvs k).isSome := by
  obtain ⟨h1, h2⟩ := h.val hk
  cases e : valN kvs k with
  | none => rw [h1 e] <;> rfl
  | some d => obtain ⟨p, v, e1, _⟩ := h2 d e; rw [e1] <;> rfl
theorem dnIn_core {neg : Bool} {pins : List (Addr × Obj)} {σ : L2.St} {s : Shared} {x y : V} {v u : Value} {H2 : Hp} {Q : VK} (I2 : Inv X pins σ H2 s) (rx : RelV x v) (ry : RelV y u) (q : rM ⟨X.K, cl, X.w⟩ (dnInF neg) [x, y] H2 Q) :
    ∃ a b k xs, v = .ref b ∧ u = .ref a ∧ (nestedKind X.prog X.w).is s.heap k b ∧ s.heap.DictOfH (nestedKind X.prog X.w) a xs ∧ (a == sysModules) = false ∧ Q (.bl (if neg then !(atKey xs k).isSome else (atKey xs k).isSome)) H2 := by
  obtain ⟨ρ, M, ds, d, M', R, r, e, k⟩ := q
  unfold dnInF at e
  split at e
  · rename_i kd n
    split at e
    · rename_i kvs hm
      split at e
      · rename_i hk
        cases e
        obtain ⟨v1, u1, e1, ra, rb⟩ := r.pair
        cases e1
        obtain ⟨a, xs, rfl, hp, hH, hsys, hr⟩ := refN R rb hm
        obtain ⟨b, rfl⟩ := dn_ref ra hk
        obtain rfl : v = Value.ref b := rx
        obtain rfl : u = Value.ref a := ry
        refine ⟨a, b, kd.nk, xs, rfl, rfl, dn_key I2 ra hk, dn_dict I2 hH hr, hsys, ?_⟩
        rw [hr.isSome hk]
        exact k _ H2 ρ (.refl _ _) R (.bl _)
      · cases e
    · cases e
  · cases e
theorem gc_nin (hu : X.A.units + 64 < cLine) (hi : GE cl X i mi) (ho : GE cl X o mo) : PC X .In i o (tM ⟨X.K, cl, X.w⟩ (mBin (dnInF false) mi mo)) := by
  refine ⟨fun pins s σ H Q I h => ?_⟩
  have h := tM_two (tM_call h)
  refine thn (hi.run pins s σ H _ I h) fun iv s1 ⟨y, H1, I1, ry, q1⟩ => thn (ho.run pins s1 σ H1 _ I1 q1) fun u s2 ⟨x, H2, I2, rx, q⟩ => ?_
  obtain ⟨a, b, k, xs, rfl, rfl, hk, dd, hsys, q⟩ := dnIn_core I2 ry rx q
  exact wpAny_in_heap (nk_room1 (X := X) hu) hk hsys dd ⟨.bl _, H2, I2.tok _, rfl, q⟩
theorem gc_nnin (hu : X.A.units + 64 < cLine) (hi : GE cl X i mi) (ho : GE cl X o mo) : PC X .NotIn i o (tM ⟨X.K, cl, X.w⟩ (mBin (dnInF true) mi mo)) := by
  refine ⟨fun pins s σ H Q I h => ?_⟩
  have h := tM_two (tM_call h)
  refine thn (hi.run pins s σ H _ I h) fun iv s1 ⟨y, H1, I1, ry, q1⟩ => thn (ho.run pins s1 σ H1 _ I1 q1) fun u s2 ⟨x, H2, I2, rx, q⟩ => ?_
  obtain ⟨a, b, k, xs, rfl, rfl, hk, dd, hsys, q⟩ := dnIn_core I2 ry rx q
  exact PyProof.Rows.wpAny_notIn_heap (nk_room1 (X := X) hu) hk hsys dd ⟨.bl _, H2, I2.tok _, rfl, q⟩
/-- d[k] = v -/
def dnPut (o k v : D) (M : Mo) : Option Mo := match o with
  | .ref n => match M[n]? with
    | some (.dcn kvs) => if k.keyOk = true ∧ kvs.length < 100000 then some (M.set n (.dcn (putN kvs k v))) else none
    | _ => none
  | _ => none
def sDnPut (mo mi mv : ME) : MS := fun lo M => match mv lo M with
  | some (v, M1) => match mo lo M1 with
    | some (o, M2) => match mi lo M2 with
      | some (k, M3) => match dnPut o k v M3 with
        | some M4 => some (.nx lo M4)
        | none => none
      | none => none
    | none => none
  | none => none
theorem gs_nput {pos' : Pos} (hu : X.A.units + 64 < cLine) (ho : GE cl X o mo) (hi : GE cl X i mi) (hv : GE cl X value mv) (hs : swapsWith value (some (.Subscript o i pos')) pos.line X.env = pure false := by rfl) :
    GS cl X (.Assign [.Subscript o i pos'] value pos) (sDnPut mo mi mv) := by
  refine ⟨fun pins s σ H De I h => ?_⟩
  obtain ⟨ρ, lo, M, od, R, L, e, k⟩ := h
  unfold sDnPut at e
  split at e
  · rename_i vd M1 h1
    split at e
    · rename_i od M2 h2
      split at e
      · rename_i kd M3 h3
        split at e
        · rename_i M4 h4
          cases e
          refine wpAny_Assign_Subscript (thn (hv.run pins s σ H (fun v H1 => ∃ ρ1, Gr H ρ H1 ρ1 ∧ Rep ⟨X.K, cl, X.w⟩ H1 ρ1 M1 ∧ DR X.K H1 ρ1 v vd) I ⟨ρ, lo, M, vd, M1, R, L, h1, fun v H1 ρ1 g1 R1 r1 => ⟨ρ1, g1, R1, r1⟩⟩) fun r s1 ⟨v, H1, I1, rv, ρ1, g1, R1, r1⟩ =>
            thn (ho.run pins s1 σ H1 (fun v H2 => ∃ ρ2, Gr H1 ρ1 H2 ρ2 ∧ Rep ⟨X.K, cl, X.w⟩ H2 ρ2 M2 ∧ DR X.K H2 ρ2 v od) I1 ⟨ρ1, lo, M1, od, M2, R1, L.mono g1, h2, fun v H1 ρ1 g1 R1 r1 => ⟨ρ1, g1, R1, r1⟩⟩) fun u s2 ⟨x, H2, I2, rx, ρ2, g2, R2, r2⟩ =>
            thn (hi.run pins s2 σ H2 (fun v H3 => ∃ ρ3, Gr H2 ρ2 H3 ρ3 ∧ Rep ⟨X.K, cl, X.w⟩ H3 ρ3 M3 ∧ DR X.K H3 ρ3 v kd) I2 ⟨ρ2, lo, M2, kd, M3, R2, (L.mono g1).mono g2, h3, fun v H1 ρ1 g1 R1 r1 => ⟨ρ1, g1, R1, r1⟩⟩) fun iv s3 ⟨y, H3, I3, ry, ρ3, g3, R3, r3⟩ => ?_) hs
          unfold dnPut at h4
          split at h4
          · rename_i n
            split at h4
            · rename_i kvs hm
              split at h4
              · rename_i hk
                obtain ⟨hk, hl⟩ := hk
                cases h4
                obtain ⟨a, xs, rfl, hp, hH, hsys, hr⟩ := refN R3 (r2.mono g3) hm
                obtain ⟨b, rfl⟩ := dn_ref r3 hk
                obtain rfl : u = Value.ref a := rx
                obtain rfl : iv = Value.ref b := ry
                have dd := dn_dict I3 hH hr
                have hz : xs.length ≤ sizeLine := by rw [hr.len, sizeLine_eq]; omega
                refine wpAny_setItem_heap (hsz := hz) (nk_room1 (X := X) hu) (dn_key I3 r3 hk) dd fun h' dd' hsb => ?_
                obtain ⟨q, es, ep, hq, k2, k3, k4, _, k5⟩ := dd'
                have I4 : Inv X pins σ (upd H3 a (DnO X.w a (storedH xs kd.nk b r))) { s3 with heap := h', toks := s3.toks + (nestedKind X.prog X.w).draws kd.nk } :=
                  d_write I3 (by rw [hH]; exact True.intro) hsb ⟨q, hq⟩ (dnO_ok ⟨q, es, ep, hq, k2, k3, k4⟩)
                have g4 : Gr H3 ρ3 (upd H3 a (DnO X.w a (storedH xs kd.nk b r))) ρ3 := .put R3 (List.mem_of_getElem? hp)
                have hr2 := hr.put hk r3 ((r1.mono g2).mono g3) rv
                exact ⟨σ, _, I4, k σ _ ρ3 (((g1.trans g2).trans g3).trans g4) (R3.put hp ⟨_, upd_same, hsys, hr2.to fun _ _ z => z.mono g4⟩) ((((L.mono g1).mono g2).mono g3).mono g4)⟩
              · cases h4
            · cases h4
          · cases h4
        · cases e
      · cases e
    · cases e
  · cases e
end
end G

set_option Elab.async false
set_option linter.all false
set_option maxRecDepth 100000
/-! written dicts with text keys; defs as values. -/
namespace G
open PySem PySem.Spec L2

section
variable {X : Cx} {cl : Nat → Addr} {pos p : Pos} {x : Str} {kvs : List (Str × D)} {i e : Expr} {m : ME}
/-- X[k], X a written dict -/
def mKGet (kvs : List (Str × D)) (m : ME) : ME := fun lo M => match m lo M with
  | some (.str z, M1) => match kvs.lookup z with
    | some d => some (d, M1)
    | none => none
  | _ => none
theorem ge_kget (C : KDctD X.K X.w X.mg x kvs) (hg : Gl X x) (hi : GE cl X i m) (hs : PlainIx i := by intro _ _; rfl) (hd : (x == ("__debug__" : Str)) = false := by decide) : GE cl X (.Subscript (.Name x p) i pos) (mKGet kvs m) := by
  obtain ⟨a, es, n, hm, D, hv⟩ := C.ex
  refine (pe_ix ix_kdict (pe_glob (v := .ref a) hg hm rfl hd) hi hs).imp fun σ H Q q => ?_
  obtain ⟨ρ, lo, M, d, M', R, L, e, k⟩ := q
  unfold mKGet at e
  split at e
  · rename_i z M1 h1
    split at e
    · rename_i d1 hl
      obtain ⟨rfl, rfl⟩ : d1 = d ∧ M1 = M' := by simpa using e
      refine ⟨ρ, lo, M, _, _, R, L, h1, fun v H1 ρ1 g1 R1 r1 => ?_⟩
      cases r1
      obtain ⟨u, v, e1, e2, e3⟩ := hv z d1 hl
      exact ⟨a, z, v, rfl, rfl, ⟨es, n, u, D.at_, D.lit, e1, e2⟩, k v H1 ρ1 g1 R1 (e3 H1 ρ1)⟩
    · cases e
  · cases e
/-- k in X, k not in X: asked of what is there alone -/
def mKIn (neg : Bool) (kvs : List (Str × D)) (m : ME) : ME := fun lo M => match m lo M with
  | some (.str z, M1) => match kvs.lookup z with
    | some _ => some (.bl (!neg), M1)
    | none => none
  | _ => none
theorem kin_core {neg : Bool} (C : KDctD X.K X.w X.mg x kvs) {σ : L2.St} {H : Hp} {Q : VK} (q : tM ⟨X.K, cl, X.w⟩ (mKIn neg kvs m) σ H Q) :
    ∃ a, X.mg x = some (.ref a) ∧ (∃ es n, KDict X.K X.w a es n) ∧ tM ⟨X.K, cl, X.w⟩ m σ H fun v H1 => ∃ (z : Str) (r : Option Value), v = .str z ∧ PySem.W.nsIn X.K a z = some r ∧ r.isSome = true ∧ Q (.bl (!neg)) H1 := by
  obtain ⟨a, es, n, hm, D, hv⟩ := C.ex
  refine ⟨a, hm, ⟨es, n, D⟩, ?_⟩
  obtain ⟨ρ, lo, M, d, M', R, L, e, k⟩ := q
  unfold mKIn at e
  split at e
  · rename_i z M1 h1
    split at e
    · rename_i d1 hl
      cases e
      refine ⟨ρ, lo, M, _, M', R, L, h1, fun v H1 ρ1 g1 R1 r1 => ?_⟩
      cases r1
      obtain ⟨u, v, e1, e2, e3⟩ := hv z d1 hl
      exact ⟨z, some u, rfl, e1, rfl, k _ H1 ρ1 g1 R1 (.bl _)⟩
    · cases e
  · cases e
theorem ge_kin (C : KDctD X.K X.w X.mg x kvs) (hg : Gl X x) (hi : GE cl X i m) (hd : (x == ("__debug__" : Str)) = false := by decide) (hm : behindInMarks .In (.Name x p) = false := by first | exact nobehind _ (by decide) (by decide) | with_unfolding_all rfl) : GE cl X (.Compare i [.In] [.Name x p] pos) (mKIn false kvs m) := by
  obtain ⟨a, es, n, hmg, D, hv⟩ := C.ex
  refine (pe_cmpR (op_in_kd D) hi (pe_glob (v := .ref a) hg hmg rfl hd) hm).imp fun σ H Q q => ?_
  obtain ⟨a', e, _, q⟩ := kin_core C q
  cases hmg.symm.trans e
  refine tM_imp q fun v H1 ⟨z, r, e1, e2, e3, q⟩ => ?_
  exact ⟨z, r, e1, rfl, e2, by rw [e3]; exact q⟩
theorem ge_knin (C : KDctD X.K X.w X.mg x kvs) (hg : Gl X x) (hi : GE cl X i m) (hd : (x == ("__debug__" : Str)) = false := by decide) (hm : behindInMarks .NotIn (.Name x p) = false := by first | exact nobehind _ (by decide) (by decide) | with_unfolding_all rfl) : GE cl X (.Compare i [.NotIn] [.Name x p] pos) (mKIn true kvs m) := by
  obtain ⟨a, es, n, hmg, D, hv⟩ := C.ex
  refine (pe_cmpR (op_notIn_kd D) hi (pe_glob (v := .ref a) hg hmg rfl hd) hm).imp fun σ H Q q => ?_
  obtain ⟨a', e, _, q⟩ := kin_core C q
  cases hmg.symm.trans e
  refine tM_imp q fun v H1 ⟨z, r, e1, e2, e3, q⟩ => ?_
  exact ⟨z, r, e1, rfl, e2, by rw [e3]; exact q⟩
theorem gt_kin (C : KDctD X.K X.w X.mg x kvs) (hg : Gl X x) (hi : GE cl X i m) (hd : (x == ("__debug__" : Str)) = false := by decide) (hm : behindInMarks .In (.Name x p) = false := by first | exact nobehind _ (by decide) (by decide) | with_unfolding_all rfl) : GT cl X (.Compare i [.In] [.Name x p] pos) (tru (mKIn false kvs m)) := by
  obtain ⟨a, es, n, hmg, D, hv⟩ := C.ex
  refine (pt_cmpR (op_in_kd D) hi (pe_glob (v := .ref a) hg hmg rfl hd) hm).imp fun σ H Q q => ?_
  have q := tB_of q
  obtain ⟨a', e, _, q⟩ := kin_core C q
  cases hmg.symm.trans e
  refine tM_imp q fun v H1 ⟨z, r, e1, e2, e3, q⟩ => ?_
  exact ⟨z, r, e1, rfl, e2, by rw [e3]; exact q⟩
theorem gt_knin (C : KDctD X.K X.w X.mg x kvs) (hg : Gl X x) (hi : GE cl X i m) (hd : (x == ("__debug__" : Str)) = false := by decide) (hm : behindInMarks .NotIn (.Name x p) = false := by first | exact nobehind _ (by decide) (by decide) | with_unfolding_all rfl) : GT cl X (.Compare i [.NotIn] [.Name x p] pos) (tru (mKIn true kvs m)) := by
  obtain ⟨a, es, n, hmg, D, hv⟩ := C.ex
  refine (pt_cmpR (op_notIn_kd D) hi (pe_glob (v := .ref a) hg hmg rfl hd) hm).imp fun σ H Q q => ?_
  have q := tB_of q
  obtain ⟨a', e, _, q⟩ := kin_core C q
  cases hmg.symm.trans e
  refine tM_imp q fun v H1 ⟨z, r, e1, e2, e3, q⟩ => ?_
  exact ⟨z, r, e1, rfl, e2, by rw [e3]; exact q⟩

/-! ### a def as a value -/
theorem ge_fnv {np : Nat} {f : F1} (C : Fnd X.prog X.w X.K X.mg X.base X.A cl x np f) (hg : Gl X x) (hd : (x == ("__debug__" : Str)) = false := by decide) : GE cl X (.Name x pos) (mC (.fn x)) := by
  obtain ⟨k, a, fd, ps, _, _, _, hm, _, _, rfl⟩ := C.ex
  exact ge_glob (v := .ref (He.ga X.K x)) hg hm rfl (fun _ _ => .fn x) hd
/-- y(args), y a name of the def that holds the def x -/
def mCallL (i : Nat) (x : Str) (np : Nat) (f : F1) (ms : MA) : ME := fun lo M => match lo[i]? with
  | some (some (.fn y)) => if y = x then mCallN np f ms lo M else none
  | _ => none
theorem ge_callL {np i : Nat} {y : Str} {f : F1} {a : Expr} {es : List Expr} {ms : MA} (C : Fnd X.prog X.w X.K X.mg X.base X.A cl x np f) (hN : X.N[i]? = some y) (ha : GA cl X (a :: es) ms) (hv : Vis X.env.scope y := by first | exact Or.inl rfl | exact Or.inr (Or.inl rfl) | exact Or.inr (Or.inr rfl))
    (hdb : (y == ("__debug__" : Str)) = false := by decide) (hcd : (y == ("__classdict__" : Str)) = false := by decide)
    (he : starEach (a :: es) X.env = (false, eval a X.env) :: starEach es X.env := by rfl) (hpl : (backTo pos (starEach es X.env)).any (·.1) = false := by rfl) : GE cl X (.Call (.Name y p) (a :: es) [] pos) (mCallL i x np f ms) := by
  obtain ⟨k, ad, fd, ps, rfl, F, hr, hm, hk, hb, rfl⟩ := C.ex
  refine (pe_callL (i := i) F (hr.mono (Nat.le_succ _)) hN hv hk hb .nil pass0 ha hdb hcd he hpl).imp fun σ H Q q => ?_
  obtain ⟨ρ, lo, M, d, M', R, L, e, k⟩ := q
  unfold mCallL at e
  split at e
  · rename_i z hz
    split at e
    · rename_i hzx
      subst hzx
      obtain ⟨v, e1, r⟩ := L.2 i _ hz
      cases r
      exact ⟨e1, tCall_of ⟨ρ, lo, M, d, M', R, L, e, k⟩⟩
    · cases e
  · cases e
end
end G

set_option Elab.async false
set_option linter.all false
set_option maxRecDepth 100000
/-! l.remove(x), l.index(x) over data. -/
namespace G
open PySem PySem.Spec L2
open PyProof.Rows (room_in_shaped)

def placeOf (es : List D) (d : D) : Option Nat := match D.pys es, d.py with
  | some ps, some p => if (SeqAt.shaped (.list ps) && SeqAt.shaped p) = true then ps.findIdx? fun z => PyData.eqv z p else none
  | _, _ => none
def removeF : F1 := fun ds M => match ds with
  | [.ref n, d] => match M[n]? with
    | some (.lst es) => match placeOf es d with
      | some j => if es.length ≤ sizeLine then some (.non, M.set n (.lst (es.eraseIdx j))) else none
      | none => none
    | _ => none
  | _ => none
def indexF : F1 := fun ds M => match ds with
  | [c, d] => match lstOf M c with
    | some es => match placeOf es d with
      | some j => some (.int (j : Nat), M)
      | none => none
    | none => none
  | _ => none
theorem placeOf_some {es : List D} {d : D} {j : Nat} (h : placeOf es d = some j) : ∃ ps p z, D.pys es = some ps ∧ d.py = some p ∧ SeqAt.shaped (.list ps) = true ∧ SeqAt.shaped p = true ∧ ps[j]? = some z ∧ PyData.eqv z p = true ∧ ∀ (m : Nat) (z' : PyData), m < j → ps[m]? = some z' → PyData.eqv z' p = false := by
  unfold placeOf at h
  split at h
  · rename_i ps p h1 h2
    split at h
    · rename_i hs
      rw [Bool.and_eq_true] at hs
      obtain ⟨a1, a2, a3⟩ := List.findIdx?_eq_some_iff_getElem.mp h
      refine ⟨ps, p, ps[j], h1, h2, hs.1, hs.2, List.getElem?_eq_getElem a1, a2, fun m z' hm hz => ?_⟩
      obtain ⟨b1, b2⟩ := List.getElem?_eq_some_iff.mp hz
      have := a3 m hm
      rw [b2] at this
      simpa using this
    · cases h
  · cases h
section
variable {X : Cx} {cl : Nat → Addr}
theorem m_index (hu : X.A.units + 150 < cLine) : MtR X "list.index" (fun x xs H Q => rM ⟨X.K, cl, X.w⟩ indexF (x :: xs) H Q) := by
  intro pins s σ H x xs v us Q I rx rv q
  obtain ⟨ρ, M, ds, d, M', R, r, e, k⟩ := q
  unfold indexF at e
  split at e
  · rename_i c d1
    split at e
    · rename_i es hl
      split at e
      · rename_i j hj
        cases e
        cases r with
        | cons ra rr =>
          obtain ⟨y, rfl, ry⟩ := rr.one
          obtain ⟨a, zs, rfl, hrz, hA⟩ := lstOf_ok R ra hl
          obtain ⟨ps, p, z, h1, h2, h3, h4, h5, h6, h7⟩ := placeOf_some hj
          exact mt_indexD (by omega) pins s σ H _ _ v us Q I rx rv ⟨a, y, p, ps, j, z, rfl, rfl, .lst (.inl (.inl hA)) (hrz.dps h1), ry.dp h2, h3, h4, h5, h6, h7, k _ H ρ (.refl _ _) R (.int _)⟩
      · cases e
    · cases e
  · cases e
theorem m_remove (hu : X.A.units + 150 < cLine) : MtR X "list.remove" (fun x xs H Q => rM ⟨X.K, cl, X.w⟩ removeF (x :: xs) H Q) := by
  intro pins s σ H x xs v us Q I rx rv q
  obtain ⟨ρ, M, ds, d, M', R, r, e, k⟩ := q
  unfold removeF at e
  split at e
  · rename_i n d1
    split at e
    · rename_i es hm
      split at e
      · rename_i j hj
        split at e
        · rename_i hsz
          cases e
          cases r with
          | cons ra rr =>
            obtain ⟨y, rfl, ry⟩ := rr.one
            obtain ⟨a, ys, rfl, hp, hH, hr⟩ := refL R ra hm
            obtain ⟨ps, p, z, h1, h2, h3, h4, h5, h6, h7⟩ := placeOf_some hj
            cases rx
            obtain ⟨u, rfl, ru⟩ := rv.one
            obtain ⟨z0, its, n0, rvs, hl, e0⟩ := I.lstM hH
            obtain ⟨bs, r1⟩ := Dp.reads I p y u (ry.dp h2) ru
            obtain ⟨as, r4⟩ := Dp.readsAll I ps _ its (hr.dps h1) rvs
            have hxs : PyData.canLayAll0 ps = true := SeqAt.canLay_of_shaped h3
            have hroom : X.A.units + 1 + min (PyData.depthAll ps) p.depth < cLine := room_in_shaped h4 (by omega)
            have hn : its.length = ps.length := SeqAt.ReadsAll.length ps its as r4
            have hmap : its.map (SeqAt.readOf s.heap) = ps := SeqAt.readsAll_map ps its as hxs r4
            obtain ⟨hjd, _⟩ := List.getElem?_eq_some_iff.mp h5
            have hjl : j < its.length := by omega
            have hj' : j < its.toArray.size := by simpa using hjl
            have at_ : ∀ (m : Nat) (hm : m < its.toArray.size) (z' : PyData), ps[m]? = some z' → SeqAt.readOf s.heap its.toArray[m] = z' := by
              intro m hm z' hz'
              have hml : m < its.length := by simpa using hm
              rw [← hmap, List.getElem?_map, List.getElem?_eq_getElem hml] at hz'
              have e1 : SeqAt.readOf s.heap its[m] = z' := Option.some.inj (show some (SeqAt.readOf s.heap its[m]) = some z' from hz')
              simpa using e1
            refine call_meets PySem.F.slot_list_remove ⟨_, e0, rfl⟩ PySem.F.entry_list_remove (PySem.F.args_list_remove_2 _ _)
              (SeqAt.list_removeAt a its.toArray n0 none #[] u (fun w => PyData.eqv (SeqAt.readOf s.heap w) p) j hj' ?_ ?_ (by rw [List.size_toArray]; omega)) ⟨e0, SeqAt.items_eqAt (vs := its.toArray) (show ReadsAll s.heap its.toArray.toList ps as from r4) r1 hxs (SeqAt.canLay_of_shaped h4) hroom, ?_⟩
            · show PyData.eqv (SeqAt.readOf s.heap its.toArray[j]) p = true
              rw [at_ j hj' z h5]
              exact h6
            · intro m hm hmj
              have hmd : m < ps.length := by omega
              have hz' : ps[m]? = some ps[m] := List.getElem?_eq_getElem hmd
              show PyData.eqv (SeqAt.readOf s.heap its.toArray[m]) p = false
              rw [at_ m hm _ hz']
              exact h7 m _ hmj hz'
            · refine ⟨.non, _, I.lset (its' := its.eraseIdx j) (t' := s.toks) hH e0 ?_ (rvs.eraseIdx j) ?_, rfl, k _ _ ρ (.put R (List.mem_of_getElem? hp)) (R.setL hp (hr.eraseIdx j)) .non⟩
              · show its.toArray.eraseIdxIfInBounds j = (its.eraseIdx j).toArray
                rw [List.eraseIdxIfInBounds_toArray]
              · have := List.length_eraseIdx_le ys j
                rw [hr.length] at this
                omega
        · cases e
      · cases e
    · cases e
  · cases e
end
end G

set_option Elab.async false
set_option linter.all false
set_option maxRecDepth 100000
/-! tuple(range(n)), list(range(n)), a comprehension's list that will change, int of a text's last sign. -/
namespace G
open PySem PySem.Spec L2

section
variable {X : Cx} {cl : Nat → Addr} {pos : Pos} {a : Expr} {m : ME}
theorem rg_dr {K : PySem.W.Frag} {H : Hp} {ρ : Rh} (a b : Int) : DRs K H ρ (rgV a b) (rgD a b) := by
  unfold rgV rgD
  generalize List.range (b - a).toNat = l
  induction l with
  | nil => exact .nil
  | cons i l ih => exact .cons (.int _) ih
def mTupRg (m : ME) : ME := fun lo M => match m lo M with
  | some (.int n, M1) => if decide (0 ≤ n) && decide (n ≤ 1000) then some (.tup (rgD 0 n), M1) else none
  | _ => none
def mLstRg (m : ME) : ME := fun lo M => match m lo M with
  | some (.int n, M1) => if decide (0 ≤ n) && decide (n ≤ 1000) then some (.lst (rgD 0 n), M1) else none
  | _ => none
def mLstRgM (m : ME) : ME := fun lo M => match m lo M with
  | some (.int n, M1) => if decide (0 ≤ n) && decide (n ≤ 1000) then some (.ref M1.length, M1 ++ [.lst (rgD 0 n)]) else none
  | _ => none
theorem ge_tupRg {p q : Pos} (hc : X.calm = true) (hg : Gl X "tuple") (hm : X.mg "tuple" = none) (hg2 : Gl X "range") (hm2 : X.mg "range" = none) (ha : GE cl X a m) (na : starEach [a] X.env = (false, eval a X.env) :: starEach [] X.env := by rfl)
    (na2 : starEach [.Call (.Name "range" q) [a] [] p2] X.env = (false, eval (.Call (.Name "range" q) [a] [] p2) X.env) :: starEach [] X.env := by rfl) :
    GE cl X (.Call (.Name "tuple" p) [.Call (.Name "range" q) [a] [] p2] [] pos) (mTupRg m) :=
  (pe_tupRg hc hg hm (prg_1 hg2 hm2 ha na) na2).imp fun σ H Q q => by
    obtain ⟨ρ, lo, M, d, M', R, L, e, k⟩ := q
    unfold mTupRg at e
    split at e
    · rename_i n M1 h1
      split at e
      · rename_i hn
        simp only [Bool.and_eq_true, decide_eq_true_eq] at hn
        cases e
        refine ⟨ρ, lo, M, _, _, R, L, h1, fun v H1 ρ1 g1 R1 r1 => ?_⟩
        cases r1
        refine ⟨n, rfl, .of_le (by omega) (by omega) (by omega) (by omega), fun q hq => ?_⟩
        exact k _ _ ρ1 (g1.trans (.new hq)) (R1.new hq) (.newTup hq (R1.fresh hq) (rg_dr 0 n))
      · cases e
    · cases e
theorem ge_lstRg {p q : Pos} (hc : X.calm = true) (hg : Gl X "list") (hm : X.mg "list" = none) (hg2 : Gl X "range") (hm2 : X.mg "range" = none) (ha : GE cl X a m) (na : starEach [a] X.env = (false, eval a X.env) :: starEach [] X.env := by rfl)
    (na2 : starEach [.Call (.Name "range" q) [a] [] p2] X.env = (false, eval (.Call (.Name "range" q) [a] [] p2) X.env) :: starEach [] X.env := by rfl) :
    GE cl X (.Call (.Name "list" p) [.Call (.Name "range" q) [a] [] p2] [] pos) (mLstRg m) :=
  (pe_listRg hc hg hm (prg_1 hg2 hm2 ha na) na2).imp fun σ H Q q => by
    obtain ⟨ρ, lo, M, d, M', R, L, e, k⟩ := q
    unfold mLstRg at e
    split at e
    · rename_i n M1 h1
      split at e
      · rename_i hn
        simp only [Bool.and_eq_true, decide_eq_true_eq] at hn
        cases e
        refine ⟨ρ, lo, M, _, _, R, L, h1, fun v H1 ρ1 g1 R1 r1 => ?_⟩
        cases r1
        refine ⟨n, rfl, .of_le (by omega) (by omega) (by omega) (by omega), fun q hq => ?_⟩
        exact k _ _ ρ1 (g1.trans (.new hq)) (R1.new hq) (.newLst hq (R1.fresh hq) (rg_dr 0 n))
      · cases e
    · cases e
theorem ge_lstRgM {p q : Pos} (hc : X.calm = true) (hg : Gl X "list") (hm : X.mg "list" = none) (hg2 : Gl X "range") (hm2 : X.mg "range" = none) (ha : GE cl X a m) (na : starEach [a] X.env = (false, eval a X.env) :: starEach [] X.env := by rfl)
    (na2 : starEach [.Call (.Name "range" q) [a] [] p2] X.env = (false, eval (.Call (.Name "range" q) [a] [] p2) X.env) :: starEach [] X.env := by rfl) :
    GE cl X (.Call (.Name "list" p) [.Call (.Name "range" q) [a] [] p2] [] pos) (mLstRgM m) :=
  (pe_listRg hc hg hm (prg_1 hg2 hm2 ha na) na2).imp fun σ H Q q => by
    obtain ⟨ρ, lo, M, d, M', R, L, e, k⟩ := q
    unfold mLstRgM at e
    split at e
    · rename_i n M1 h1
      split at e
      · rename_i hn
        simp only [Bool.and_eq_true, decide_eq_true_eq] at hn
        cases e
        refine ⟨ρ, lo, M, _, _, R, L, h1, fun v H1 ρ1 g1 R1 r1 => ?_⟩
        cases r1
        refine ⟨n, rfl, .of_le (by omega) (by omega) (by omega) (by omega), fun q hq => ?_⟩
        exact k _ _ (ρ1.push q) (g1.trans (.push hq)) (R1.newL hq (rg_dr 0 n)) (.ref (by
          show (ρ1.m ++ [q])[M1.length]? = some q
          rw [← R1.len, List.getElem?_append_right (Nat.le_refl _), Nat.sub_self]
          rfl))
      · cases e
    · cases e

/-! ### int(word[-1]) -/
def lastDigit (z : Str) : Option Int := match z.cps.toList.getLast? with
  | some c => if decide (48 ≤ c) && decide (c ≤ 57) then some ((c : Int) - 48) else none
  | none => none
def mLastDigit (m : ME) : ME := fun lo M => match m lo M with
  | some (.str z, M1) => match lastDigit z with
    | some i => if z.length ≤ sizeLine then some (.int i, M1) else none
    | none => none
  | _ => none
theorem digit_text : ∀ c : Nat, 48 ≤ c → c ≤ 57 → PySem.intText? (⟨#[c]⟩ : Str) = some ((c : Int) - 48) := by
  intro c h1 h2
  have : c = 48 ∨ c = 49 ∨ c = 50 ∨ c = 51 ∨ c = 52 ∨ c = 53 ∨ c = 54 ∨ c = 55 ∨ c = 56 ∨ c = 57 := by omega
  rcases this with rfl | rfl | rfl | rfl | rfl | rfl | rfl | rfl | rfl | rfl <;> decide +kernel
theorem ge_lastDigit {p q pi pn : Pos} (hg : Gl X "int") (hm : X.mg "int" = none) (ha : GE cl X a m) (hs : PlainIx (.UnaryOp .USub (.Constant (.int 1) j pi) pn) := by intro _ _; rfl)
    (he : starEach [.Subscript a (.UnaryOp .USub (.Constant (.int 1) j pi) pn) q] X.env = (false, eval (.Subscript a (.UnaryOp .USub (.Constant (.int 1) j pi) pn) q) X.env) :: starEach [] X.env := by rfl) :
    GE cl X (.Call (.Name "int" p) [.Subscript a (.UnaryOp .USub (.Constant (.int 1) j pi) pn) q] [] pos) (mLastDigit m) := by
  refine (pe_callTy call_int_str hg hm rfl (pa_cons (pe_ix ix_str ha (pe_un un_neg pe_int) hs) pa_nil he) (by decide) (by decide) he (by rfl)).imp fun σ H Q q => ?_
  obtain ⟨ρ, lo, M, d, M', R, L, e, k⟩ := q
  unfold mLastDigit at e
  split at e
  · rename_i z M1 h1
    split at e
    · rename_i i hi
      split at e
      · rename_i hz
        cases e
        refine ⟨ρ, lo, M, _, _, R, L, h1, fun v H1 ρ1 g1 R1 r1 => ?_⟩
        cases r1
        unfold lastDigit at hi
        split at hi
        · rename_i c hc
          split at hi
          · rename_i hb
            simp only [Bool.and_eq_true, decide_eq_true_eq] at hb
            cases hi
            have hne : z.cps.toList ≠ [] := fun z0 => by rw [z0] at hc; cases hc
            refine ⟨1, rfl, z, -1, c, rfl, rfl, hz, ?_, ⟨#[c]⟩, _, rfl, digit_text c hb.1 hb.2, by simp [Str.length], k _ H1 ρ1 g1 R1 (.int _)⟩
            have hl : 0 < z.cps.toList.length := List.length_pos_iff.mpr hne
            unfold atI ixN
            rw [if_neg (by omega), if_pos (by omega)]
            show z.cps.toList[((z.cps.toList.length : Int) + -1).toNat]? = some c
            rw [show ((z.cps.toList.length : Int) + -1).toNat = z.cps.toList.length - 1 by omega, ← List.getLast?_eq_getElem?]
            exact hc
          · cases hi
        · cases hi
      · cases e
    · cases e
  · cases e
end

/-! ### a comprehension whose list will change -/
def mCompM (mi : MA) (g : MG) (c : MT) (m : ME) (vs : List Nat) : ME := fun lo M => match mi lo M with
  | some (ds, M1) => if ds.length ≤ sizeLine then (match compLoop g c m vs ds lo M1 with
    | some (es, M2) => some (.ref M2.length, M2 ++ [.lst es])
    | none => none) else none
  | none => none
section
variable {X : Cx} {cl : Nat → Addr} {pos : Pos}
theorem tLcM_of {W : Wd} {wi : TI} {mi : MA} {t : TG} {g : MG} {c : MT} {m : ME} {vs : List Nat} {σ : L2.St} {H : Hp} {Q : VK} (hwi : ∀ σ H R, iM W mi σ H R → wi σ H R) (cg : CG W vs t g) (q : tM W (mCompM mi g c m vs) σ H Q) :
    tLc wi t (tMT W c) (tM W m) vs σ H Q := by
  obtain ⟨ρ, lo, M, d, Mf, R, L, e, k⟩ := q
  unfold mCompM at e
  split at e
  · rename_i ds M1 h1
    split at e
    · rename_i hz
      split at e
      · rename_i es Mg h2
        obtain ⟨rfl, rfl⟩ : D.ref Mg.length = d ∧ Mg ++ [.lst es] = Mf := by simpa using e
        refine hwi σ H _ ⟨ρ, lo, M, ds, M1, R, L, h1, fun J H1 ρ1 g1 R1 it p hp => ?_⟩
        have L1 := L.mono g1
        refine ⟨fun i n H' => n = ds.length - i ∧ i ≤ ds.length ∧ ∃ ρ' M' xs acc rest, Kp H1 ρ1 H' ρ' ∧ (∀ a o, a ∈ ρ1.v → H1 a = some o → H' a = some o) ∧ Rep W H' ρ' M' ∧ ρ'.v = p :: ρ1.v ∧ H' p = some (.lst xs) ∧ DRs W.K H' ρ' xs acc ∧ acc.length ≤ i ∧
          compLoop g c m vs (ds.drop i) lo M' = some (rest, Mg) ∧ acc ++ rest = es,
          ⟨ds.length, by simp, Nat.zero_le _, ⟨ρ1.m, p :: ρ1.v⟩, M1, [], [], es, .begin hp, fun a o ha e => by rw [upd_ne (ne_of_none e hp)]; exact e, R1.begin hp, rfl, upd_same, .nil, Nat.le_refl _, h2, rfl⟩, ?_⟩
        rintro i n H' ⟨rfl, hi, ρ', M', xs, acc, rest, kp, hh, R', ev, ep, ra, hl, e', ee⟩
        obtain ⟨hstop, hgo⟩ := it i H' ρ' M' (fun v d h => h.stay kp) R'
        have hpv : p ∈ ρ'.v := by rw [ev]; exact List.mem_cons_self
        by_cases hlt : i < ds.length
        · right
          have hd : ds[i]? = some ds[i] := List.getElem?_eq_getElem hlt
          generalize ds[i] = d at hd
          obtain ⟨hg, hy⟩ := hgo d hd
          rw [drop_get hd, compLoop] at e'
          refine ⟨hg, fun H2 => ∃ n', n' < ds.length - i ∧ (n' = ds.length - (i + 1) ∧ i + 1 ≤ ds.length ∧ ∃ ρ' M' xs acc rest, Kp H1 ρ1 H2 ρ' ∧ (∀ a o, a ∈ ρ1.v → H1 a = some o → H2 a = some o) ∧ Rep W H2 ρ' M' ∧ ρ'.v = p :: ρ1.v ∧ H2 p = some (.lst xs) ∧ DRs W.K H2 ρ' xs acc ∧ acc.length ≤ i + 1 ∧
            compLoop g c m vs (ds.drop (i + 1)) lo M' = some (rest, Mg) ∧ acc ++ rest = es), fun H2 h => h, fun x H2 hx => ?_⟩
          obtain ⟨g2, R2, rx, _⟩ := hy x H2 hx
          split at e'
          · rename_i lo1 M2 hg1
            have hst := cg.st _ _ _ _ _ hg1
            subst hst
            refine cg.ok ρ' H2 (L2.wipe σ vs) (wipeD lo vs) _ x d lo1 _ _ R2 (((L1.stay kp).wipe vs).mono g2) rx hg1 fun σ' Lσ hw => ⟨by rw [hw, wipe_wipe], ?_⟩
            split at e'
            · rename_i M3 hc
              split at e'
              · rename_i el M4 hm
                split at e'
                · rename_i es2 M5 hr
                  cases e'
                  refine ⟨ρ', lo1, _, true, M3, R2, Lσ, hc, fun H3 ρ3 g3 R3 => iteT ?_⟩
                  refine ⟨ρ3, lo1, M3, el, M4, R3, Lσ.mono g3, hm, fun y H4 ρ4 g4 R4 r4 => ?_⟩
                  have gg := (g2.trans g3).trans g4
                  have ep4 : H4 p = some (.lst xs) := gg.hid p _ hpv ep
                  have ev4 : ρ4.v = p :: ρ1.v := gg.vol.trans ev
                  have hpv4 : p ∈ ρ4.v := by rw [ev4]; exact List.mem_cons_self
                  have hlen := ra.length
                  refine ⟨xs, ep4, by omega, _, by omega, rfl, by omega, ρ4, M4, xs ++ [y], acc ++ [el], es2, (kp.trans gg.kp).put hp, fun a o ha e => ?_, R4.hide hpv4, ev4, upd_same, ((ra.mono gg).append (.cons r4 .nil)).hide hpv4, by rw [List.length_append]; simp; omega, hr, by rw [List.append_assoc]; exact ee⟩
                  rw [upd_ne (ne_of_none e hp)]
                  exact gg.hid a o (by rw [ev]; exact List.mem_cons_of_mem _ ha) (hh a o ha e)
                · cases e'
              · cases e'
            · rename_i M3 hc
              refine ⟨ρ', lo1, _, false, M3, R2, Lσ, hc, fun H3 ρ3 g3 R3 => iteF ?_⟩
              have gg := g2.trans g3
              exact ⟨_, by omega, rfl, by omega, ρ3, M3, xs, acc, rest, kp.trans gg.kp, fun a o ha e => gg.hid a o (by rw [ev]; exact List.mem_cons_of_mem _ ha) (hh a o ha e), R3, gg.vol.trans ev, gg.hid p _ hpv ep, ra.mono gg, by omega, e', ee⟩
            · cases e'
          · cases e'
        · left
          refine ⟨hstop (by omega), ?_⟩
          rw [List.drop_of_length_le (Nat.le_of_not_lt hlt), compLoop] at e'
          cases e'
          rw [List.append_nil] at ee
          subst ee
          have hpm : p ∉ ρ'.m := (R'.hid p hpv).2
          have hp1 : p ∉ ρ1.v := fun z => by
            obtain ⟨⟨u, e⟩, _⟩ := R1.hid p z
            rw [hp] at e; cases e
          have hsub : ∀ a, a ∈ (⟨ρ'.m, ρ1.v⟩ : Rh).v → a ∈ ρ'.v := fun a ha => by rw [ev]; exact List.mem_cons_of_mem _ ha
          have hnot : ∀ a, a ∉ ρ' → a ∉ (⟨ρ'.m, ρ1.v⟩ : Rh) := fun a n z => z.elim (fun z => n (.inl z)) fun z => n (.inr (hsub a z))
          have hnot2 : ∀ a, a ∉ ρ' → a ∉ (⟨ρ'.m ++ [p], ρ1.v⟩ : Rh) := fun a n z => z.elim (fun z => by
            rcases List.mem_append.mp z with z | z
            · exact n (.inl z)
            · exact n (by rw [List.mem_singleton.mp z]; exact .inr hpv)) fun z => n (.inr (hsub a z))
          have Rl : Rep W H' ⟨ρ'.m, ρ1.v⟩ _ := R'.less rfl hsub
          have g2 : Gr H' ⟨ρ'.m, ρ1.v⟩ H' ⟨ρ'.m, ρ1.v⟩ := .refl _ _
          have kp2 : Kp H' ρ' H' ⟨ρ'.m ++ [p], ρ1.v⟩ := ⟨List.prefix_append _ _, fun a o h n => ⟨h, hnot2 a n⟩⟩
          refine k _ H' ⟨ρ'.m ++ [p], ρ1.v⟩ (g1.trans ⟨kp.pre.trans (List.prefix_append _ _), fun a o h n => ?_, rfl, hh⟩) ⟨?_, ?_, fun a ha => ?_, fun i a o h1 h2 => ?_⟩ (.ref ?_)
          · obtain ⟨h2, n2⟩ := kp.keep a o h n
            exact ⟨h2, hnot2 a n2⟩
          · exact List.nodup_append.mpr ⟨R'.nd, by simp, fun a ha b hb z => by
              rw [List.mem_singleton] at hb
              subst hb; subst z
              exact hpm ha⟩
          · show (ρ'.m ++ [p]).length = _
            rw [List.length_append, List.length_append, R'.len]
            rfl
          · obtain ⟨h1, h2⟩ := R'.hid a (hsub a ha)
            refine ⟨h1, fun z => ?_⟩
            rcases List.mem_append.mp z with z | z
            · exact h2 z
            · rw [List.mem_singleton.mp z] at ha
              exact hp1 ha
          · by_cases hi2 : i < ρ'.m.length
            · have e1 : ρ'.m[i]? = some a := by rw [← h1]; exact (List.getElem?_append_left hi2).symm
              have e2 := h2
              rw [List.getElem?_append_left (by rw [← R'.len]; exact hi2)] at e2
              exact (R'.mem i a o e1 e2).stay kp2 fun u z => z
            · have hi3 : i = ρ'.m.length := by
                have := (List.getElem?_eq_some_iff.mp h1).1
                rw [List.length_append] at this
                simp at this
                omega
              subst hi3
              rw [List.getElem?_append_right (Nat.le_refl _), Nat.sub_self] at h1
              cases h1
              rw [R'.len, List.getElem?_append_right (Nat.le_refl _), Nat.sub_self] at h2
              cases h2
              exact ⟨xs, ep, ra.stay kp2⟩
          · show (ρ'.m ++ [p])[_]? = some p
            rw [← R'.len, List.getElem?_append_right (Nat.le_refl _), Nat.sub_self]
            rfl
      · cases e
    · cases e
  · cases e
section
variable {elt tg iter : Expr} {ifs : List Expr} {scope : Scope} {own : List (Str × Nat)} {mi : MA} {t : TG} {g : MG} {c : MT} {m : ME}
/-- [elt for tg in iter if ..] -/
theorem ge_compM (hc : X.calm = true) (hN : X.N.Nodup) (hi : GI cl X tg iter mi) (ok : BlkOk X.N X.env.scope scope own) (cg : CG ⟨X.K, cl, X.w⟩ (own.map (·.2)) t g)
    (hg : ∀ (s : Shared) (H : Hp) (C : Addr) (c2 : List (Str × Addr)) (fp : List Addr), PG (X.blk s H scope (compEnvC scope c2 C X.env) fp) tg t)
    (ht : ∀ (s : Shared) (H : Hp) (C : Addr) (c2 : List (Str × Addr)) (fp : List Addr), GTs cl (X.blk s H scope (compEnvC scope c2 C X.env) fp) ifs c)
    (he : ∀ (s : Shared) (H : Hp) (C : Addr) (c2 : List (Str × Addr)) (fp : List Addr), GE cl (X.blk s H scope (compEnvC scope c2 C X.env) fp) elt m) (hs : ∀ x, foldedSetIterable iter X.env x = pure x := by intro _; rfl) :
    GE cl X (.ListComp elt [⟨tg, iter, ifs, 0⟩] scope pos) (mCompM mi g c m (own.map (·.2))) :=
  (pe_lc hc hN hi ok hg ht he hs).imp fun σ H Q q => tLcM_of (fun _ _ _ h => h) cg q
theorem gs_setCompM {i : Nat} {y : Str} {py spos : Pos} (hc : X.calm = true) (hN : X.N.Nodup) (hy : X.N[i]? = some y) (hyl : X.env.scope.names.lookup y = some .local)
    (hsw : swapsWith (.ListComp elt [⟨tg, iter, ifs, 0⟩] scope pos) (some (.Name y py)) spos.line X.env = pure true) (hi : GI cl X tg iter mi) (ok : BlkOk X.N X.env.scope scope own) (cg : CG ⟨X.K, cl, X.w⟩ (own.map (·.2)) t g)
    (hg : ∀ (s : Shared) (H : Hp) (C : Addr) (c2 : List (Str × Addr)) (fp : List Addr), PG (X.blk s H scope (compEnvC scope c2 C X.env) fp) tg t)
    (ht : ∀ (s : Shared) (H : Hp) (C : Addr) (c2 : List (Str × Addr)) (fp : List Addr), GTs cl (X.blk s H scope (compEnvC scope c2 C X.env) fp) ifs c)
    (he : ∀ (s : Shared) (H : Hp) (C : Addr) (c2 : List (Str × Addr)) (fp : List Addr), GE cl (X.blk s H scope (compEnvC scope c2 C X.env) fp) elt m) (hs : ∀ x, foldedSetIterable iter X.env x = pure x := by intro _; rfl) :
    GS cl X (.Assign [.Name y py] (.ListComp elt [⟨tg, iter, ifs, 0⟩] scope pos) spos) (sSet (mCompM mi g c m (own.map (·.2))) (gName i)) :=
  (ps_setLc hc hN hy hyl hsw hi ok hg ht he hs).imp fun De σ H q => by
    obtain ⟨ρ, lo, M, o, R, L, e, k⟩ := q
    unfold sSet at e
    split at e
    · rename_i d M1 h1
      split at e
      · rename_i lo2 M2 h2
        cases e
        cases h2
        exact tLcM_of (fun _ _ _ h => h) cg ⟨ρ, lo, M, d, _, R, L, h1, fun v H1 ρ1 g1 R1 r1 => k _ H1 ρ1 g1 R1 ((L.mono g1).set r1 i)⟩
      · cases e
    · cases e
end
end

/-! ### a op b op' c -/
section
variable {X : Cx} {cl : Nat → Addr} {pos : Pos} {a b c : Expr} {ma mb mc : ME} {f g : F1} {op op' : CmpOp}
theorem tChain_of {W : Wd} {σ : L2.St} {H : Hp} {Q : VK} (q : tM W (mChain f g ma mb mc) σ H Q) : tChain (r2 W f) (r2 W g) (tM W ma) (tM W mb) (tM W mc) σ H Q := by
  obtain ⟨ρ, lo, M, d, M', R, L, e, k⟩ := q
  unfold mChain at e
  split at e
  · rename_i d1 d2 M1 h1
    obtain ⟨d1', Ma, es, e1, e2, e3⟩ := mCons_some h1
    obtain ⟨d2', Mb, es2, e4, e5, e6⟩ := mCons_some e2
    subst e6
    cases e5
    simp only [List.cons.injEq, and_true] at e3
    obtain ⟨rfl, rfl⟩ := e3
    refine ⟨ρ, lo, M, _, _, R, L, e1, fun x H1 ρ1 g1 R1 r1 => ?_⟩
    refine ⟨ρ1, lo, _, _, _, R1, L.mono g1, e4, fun y H2 ρ2 g2 R2 r2 => ?_⟩
    have L2 := (L.mono g1).mono g2
    split at e
    · rename_i M2 h2
      refine ⟨ρ2, _, _, _, _, R2, .cons (r1.mono g2) (.cons r2 .nil), h2, fun z H3 ρ3 g3 R3 r3 => ?_⟩
      cases r3
      refine ⟨true, rfl, iteT ?_⟩
      split at e
      · rename_i h M3 h3
        split at e
        · rename_i bb M4 h4
          cases e
          refine ⟨ρ3, lo, _, _, _, R3, L2.mono g3, h3, fun w H4 ρ4 g4 R4 r4 => ?_⟩
          exact ⟨ρ4, _, _, _, _, R4, .cons ((r2.mono g3).mono g4) (.cons r4 .nil), h4, fun v H5 ρ5 g5 R5 r5 => k v H5 ρ5 ((((g1.trans g2).trans g3).trans g4).trans g5) R5 r5⟩
        · cases e
      · cases e
    · rename_i M2 h2
      cases e
      refine ⟨ρ2, _, _, _, _, R2, .cons (r1.mono g2) (.cons r2 .nil), h2, fun z H3 ρ3 g3 R3 r3 => ?_⟩
      cases r3
      exact ⟨false, rfl, iteF (k _ H3 ρ3 ((g1.trans g2).trans g3) R3 (.bl false))⟩
    · cases e
  · cases e
theorem ge_chain (ho : OpR X (compareOp op) (r2 ⟨X.K, cl, X.w⟩ f)) (ho' : OpR X (compareOp op') (r2 ⟨X.K, cl, X.w⟩ g)) (ha : GE cl X a ma) (hb : GE cl X b mb) (hc : GE cl X c mc)
    (hm : lastMarks [op, op'] [b, c] = false := by with_unfolding_all rfl) : GE cl X (.Compare a [op, op'] [b, c] pos) (mChain f g ma mb mc) :=
  (pe_chain ho ho' ha hb hc hm).imp fun _ _ _ q => tChain_of q
theorem gt_chain (ho : OpR X (compareOp op) (r2 ⟨X.K, cl, X.w⟩ f)) (ho' : OpR X (compareOp op') (r2 ⟨X.K, cl, X.w⟩ g)) (ha : GE cl X a ma) (hb : GE cl X b mb) (hc : GE cl X c mc)
    (hm : lastMarks [op, op'] [b, c] = false := by with_unfolding_all rfl) : GT cl X (.Compare a [op, op'] [b, c] pos) (tru (mChain f g ma mb mc)) :=
  (pt_chain ho ho' ha hb hc hm).imp fun _ _ _ q => tChain_of (tB_of q)
end

/-! ### a, b = a list -/
def gLstG (n : Nat) (g : MGs) : MG := fun d lo M => match d with
  | .lst ds => if ds.length = n then g ds lo M else none
  | _ => none
section
variable {X : Cx} {cl : Nat → Addr} {pos : Pos}
theorem gg_lst {es : List Expr} {k : Nat} {n : Nat} {g : MGs} (hc : X.calm = true) (h : GGs cl X es g) (hn : (assignEach es X.env).length = n := by rfl) (hst : (assignEach es X.env).findIdx? (·.1) = none := by rfl) : GG cl X (.Tuple es k pos) (gLstG n g) :=
  (pg_lst hc h hn hst).imp fun v σ H Q q => by
    obtain ⟨ρ, lo, M, d, lo', M', R, L, r, e, k⟩ := q
    unfold gLstG at e
    split at e
    · rename_i ds
      split at e
      · rename_i hl
        cases r with
        | lst ht hs =>
          rename_i a xs
          exact ⟨a, xs, rfl, SqL.of ht.1, by rw [hs.length]; exact hl, ρ, lo, M, ds, lo', M', R, L, hs, e, k⟩
      · cases e
    · cases e
end
end G

set_option Elab.async false
set_option linter.all false
set_option maxRecDepth 100000
/-! walks over a list of the store that does not change meanwhile. -/
namespace G
open PySem PySem.Spec L2

/-- the n-th thing of the store is the list ds -/
def lstIs (n : Nat) (ds : List D) (M : Mo) : Bool := match M[n]? with
  | some (.lst es) => D.beqs es ds
  | _ => false
theorem lstIs_eq {n : Nat} {ds : List D} {M : Mo} (h : lstIs n ds M = true) : M[n]? = some (.lst ds) := by
  unfold lstIs at h
  split at h
  · rename_i es e
    rw [e, D.eq_of_beqs _ _ h]
  · cases h
theorem lstIs_of {n : Nat} {ds : List D} {M : Mo} (h : M[n]? = some (.lst ds)) : lstIs n ds M = true := by
  unfold lstIs
  rw [h]
  exact D.beqs_self ds
def ItOkR (W : Wd) (n : Nat) (ds : List D) (H0 : Hp) (ρ0 : Rh) (J : It) : Prop :=
  ∀ (i : Nat) (H1 : Hp) (ρ1 : Rh) (M1 : Mo), (∀ v d, DR W.K H0 ρ0 v d → DR W.K H1 ρ1 v d) → Rep W H1 ρ1 M1 → lstIs n ds M1 = true →
    (ds.length = i → J.stop i H1) ∧ ∀ d, ds[i]? = some d → J.go i H1 ∧ ∀ x H2, J.yld i H1 x H2 → Gr H1 ρ1 H2 ρ1 ∧ Rep W H2 ρ1 M1 ∧ DR W.K H2 ρ1 x d ∧ (∀ (a : Addr) (o : HO), H1 a = some o → H2 a = some o)
def iMR (W : Wd) (m : ME) : TI := fun σ H R => ∃ ρ lo M n ds M', Rep W H ρ M ∧ LoR W.K H ρ σ lo ∧ m lo M = some (.ref n, M') ∧ M'[n]? = some (.lst ds) ∧ ∀ J H' ρ', Gr H ρ H' ρ' → Rep W H' ρ' M' → ItOkR W n ds H' ρ' J → R J H'
def iMS (W : Wd) (m : ME) : TI := fun σ H R => iM W (iSeqM m) σ H R ∨ iMR W m σ H R
abbrev GIS (cl : Nat → Addr) (X : Cx) (tg e : Expr) (m : ME) : Prop := PI X tg e (iMS ⟨X.K, cl, X.w⟩ m)
section
variable {X : Cx} {cl : Nat → Addr} {pos : Pos} {tg e : Expr} {m : ME}
theorem gi_ref (h : GE cl X e m) : PI X tg e (iMR ⟨X.K, cl, X.w⟩ m) := (pi_list h).imp fun σ H Q q => by
  obtain ⟨ρ, lo, M, n, ds, M', R, L, e, hm, k⟩ := q
  refine ⟨ρ, lo, M, _, _, R, L, e, fun v H1 ρ1 g1 R1 r1 => ?_⟩
  obtain ⟨a, xs, rfl, hp, hH, hs⟩ := refL R1 r1 hm
  refine ⟨a, rfl, ⟨xs, SqL.of hH⟩, k _ H1 ρ1 g1 R1 fun i H2 ρ2 M2 mono R2 gd => ?_⟩
  have r2 := mono _ _ r1
  obtain ⟨a2, ys, ea, hp2, hH2, hs2⟩ := refL R2 r2 (lstIs_eq gd)
  cases ea
  refine ⟨fun hi => ⟨ys, SqL.of hH2, by rw [hs2.length]; exact Nat.le_of_eq hi⟩, fun d hd => ?_⟩
  obtain ⟨x, hx, rx⟩ := hs2.get hd
  refine ⟨⟨ys, x, SqL.of hH2, hx⟩, fun x' H3 hy => ?_⟩
  obtain ⟨rfl, hy⟩ := hy
  have hx' := hy ys (SqL.of hH2)
  rw [hx] at hx'
  cases hx'
  exact ⟨.refl _ _, R2, rx, fun _ _ h => h⟩
theorem gi_seqS (h : GE cl X e m) : GIS cl X tg e m := ⟨fun pins s σ H R I q => q.elim (fun q => (gi_seq h).run pins s σ H R I q) fun q => (gi_ref h).run pins s σ H R I q⟩
end
def forLoopR (n : Nat) (es : List D) (g : MG) (body : MS) : List D → Lo → Mo → Option Out
  | [], lo, M => if lstIs n es M = true then some (.nx lo M) else none
  | d :: ds, lo, M => if lstIs n es M = true then (match g d lo M with
    | some (lo1, M1) => match body lo1 M1 with
      | some (.nx lo2 M2) => forLoopR n es g body ds lo2 M2
      | some (.ct lo2 M2) => forLoopR n es g body ds lo2 M2
      | some (.bk lo2 M2) => some (.nx lo2 M2)
      | some (.rt d M2) => some (.rt d M2)
      | none => none
    | none => none) else none
def sForR (m : ME) (g : MG) (body : MS) : MS := fun lo M => match m lo M with
  | some (.ref n, M1) => match M1[n]? with
    | some (.lst ds) => forLoopR n ds g body ds lo M1
    | _ => none
  | _ => none
def sForS (m : ME) (g : MG) (body : MS) : MS := fun lo M => match m lo M with
  | some (.tup ds, M1) => forLoop g body ds lo M1
  | some (.lst ds, M1) => forLoop g body ds lo M1
  | some (.ref n, M1) => match M1[n]? with
    | some (.lst ds) => forLoopR n ds g body ds lo M1
    | _ => none
  | _ => none
theorem sForS_cases {m : ME} {g : MG} {body : MS} {lo : Lo} {M : Mo} {o : Out} (e : sForS m g body lo M = some o) : sFor (iSeqM m) g body lo M = some o ∨ sForR m g body lo M = some o := by
  unfold sForS at e
  unfold sFor sForR iSeqM
  cases h : m lo M with
  | none => rw [h] at e; cases e
  | some p =>
    obtain ⟨d, M1⟩ := p
    rw [h] at e
    cases d with
    | tup ds => exact .inl e
    | lst ds => exact .inl e
    | ref n => exact .inr e
    | _ => cases e
section
variable {X : Cx} {cl : Nat → Addr} {pos : Pos}
theorem tForR_of {W : Wd} {wi : TI} {m : ME} {g : MG} {body : MS} {De : Ends} {σ : L2.St} {H : Hp} (hwi : ∀ σ H R, iMR W m σ H R → wi σ H R) (q : tS W (sForR m g body) De σ H) : tFor wi (tG W g) (tS W body) De σ H := by
  obtain ⟨ρ, lo, M, o, R, L, e, k⟩ := q
  unfold sForR at e
  split at e
  · rename_i n M1 h1
    split at e
    rotate_left
    · cases e
    rename_i ds hm
    refine hwi σ H _ ⟨ρ, lo, M, n, ds, M1, R, L, h1, hm, fun J H1 ρ1 g1 R1 it => ?_⟩
    refine ⟨fun i m σ' H' => m = ds.length - i ∧ i ≤ ds.length ∧ ∃ ρ' lo' M', (∀ v d, DR W.K H1 ρ1 v d → DR W.K H' ρ' v d) ∧ Rep W H' ρ' M' ∧ LoR W.K H' ρ' σ' lo' ∧ forLoopR n ds g body (ds.drop i) lo' M' = some o ∧ OutOk W H' ρ' De o,
      ⟨ds.length, by simp, Nat.zero_le _, ρ1, lo, M1, fun _ _ h => h, R1, L.mono g1, e, k.mono g1⟩, ?_⟩
    rintro i m σ' H' ⟨rfl, hi, ρ', lo', M', mono, R', L', e', k'⟩
    have hgd : lstIs n ds M' = true := by
      cases hq : lstIs n ds M' with
      | true => rfl
      | false =>
        exfalso
        cases hdr : ds.drop i with
        | nil => rw [hdr, forLoopR, hq] at e'; cases e'
        | cons a r => rw [hdr, forLoopR, hq] at e'; cases e'
    obtain ⟨hstop, hgo⟩ := it i H' ρ' M' mono R' hgd
    by_cases hlt : i < ds.length
    · right
      have hd : ds[i]? = some ds[i] := List.getElem?_eq_getElem hlt
      generalize ds[i] = d at hd
      obtain ⟨hg, hy⟩ := hgo d hd
      rw [drop_get hd, forLoopR, hgd, if_pos rfl] at e'
      refine ⟨hg, fun σ2 H2 => ∃ m', m' < ds.length - i ∧ (m' = ds.length - (i + 1) ∧ i + 1 ≤ ds.length ∧ ∃ ρ' lo' M', (∀ v d, DR W.K H1 ρ1 v d → DR W.K H2 ρ' v d) ∧ Rep W H2 ρ' M' ∧ LoR W.K H2 ρ' σ2 lo' ∧ forLoopR n ds g body (ds.drop (i + 1)) lo' M' = some o ∧ OutOk W H2 ρ' De o), fun σ2 H2 h => h, fun x H2 hx => ?_⟩
      obtain ⟨g2, R2, rx, _⟩ := hy x H2 hx
      split at e'
      · rename_i lo1 M2 hg1
        refine ⟨ρ', lo', M', d, lo1, M2, R2, L'.mono g2, rx, hg1, fun σ3 H3 ρ3 g3 R3 L3 => ?_⟩
        have gg := g2.trans g3
        split at e'
        · rename_i lo2 M4 hb
          refine ⟨ρ3, lo1, M2, _, R3, L3, hb, fun σ4 H4 ρ4 g4 R4 L4 => ⟨_, by omega, rfl, by omega, ρ4, lo2, M4, fun v d h => (mono v d h).mono (gg.trans g4), R4, L4, e', k'.mono (gg.trans g4)⟩⟩
        · rename_i lo2 M4 hb
          refine ⟨ρ3, lo1, M2, _, R3, L3, hb, fun σ4 H4 ρ4 g4 R4 L4 => ⟨_, by omega, rfl, by omega, ρ4, lo2, M4, fun v d h => (mono v d h).mono (gg.trans g4), R4, L4, e', k'.mono (gg.trans g4)⟩⟩
        · rename_i lo2 M4 hb
          cases e'
          exact ⟨ρ3, lo1, M2, _, R3, L3, hb, fun σ4 H4 ρ4 g4 R4 L4 => k' σ4 H4 ρ4 (gg.trans g4) R4 L4⟩
        · rename_i d4 M4 hb
          cases e'
          exact ⟨ρ3, lo1, M2, _, R3, L3, hb, fun v4 H4 ρ4 g4 R4 L4 => k' v4 H4 ρ4 (gg.trans g4) R4 L4⟩
        · cases e'
      · cases e'
    · left
      refine ⟨hstop (by omega), ?_⟩
      rw [List.drop_of_length_le (Nat.le_of_not_lt hlt), forLoopR, hgd, if_pos rfl] at e'
      cases e'
      exact k' σ' H' ρ' (.refl _ _) R' L'
  · cases e
theorem gs_forS {tg iter : Expr} {body : List Stmt} {m : ME} {g : MG} {mb : MS} (hp : PassesOwn (model X.prog X.w) X.A X.env X.xe) (hc : X.calm = true) (hi : GIS cl X tg iter m) (hg : GG cl X tg g) (hb : GB cl X body mb) (hs : ∀ x, foldedSetIterable iter X.env x = pure x := by intro _; rfl) : GS cl X (.For tg iter body [] pos) (sForS m g mb) :=
  (ps_for hp hc hi hg hb hs).imp fun De σ H q => by
    obtain ⟨ρ, lo, M, o, R, L, e, k⟩ := q
    rcases sForS_cases e with e | e
    · exact tFor_of (fun _ _ _ h => .inl h) ⟨ρ, lo, M, o, R, L, e, k⟩
    · exact tForR_of (fun _ _ _ h => .inr h) ⟨ρ, lo, M, o, R, L, e, k⟩
end

def compLoopR (n : Nat) (fs : List D) (g : MG) (c : MT) (m : ME) (vs : List Nat) : List D → Lo → Mo → Option (List D × Mo)
  | [], _, M => if lstIs n fs M = true then some ([], M) else none
  | d :: ds, lo, M => if lstIs n fs M = true then (match g d (wipeD lo vs) M with
    | some (lo1, M1) => match c lo1 M1 with
      | some (true, M2) => match m lo1 M2 with
        | some (e, M3) => match compLoopR n fs g c m vs ds lo M3 with
          | some (es, M4) => some (e :: es, M4)
          | none => none
        | none => none
      | some (false, M2) => compLoopR n fs g c m vs ds lo M2
      | none => none
    | none => none) else none
def mCompR (mi : ME) (g : MG) (c : MT) (m : ME) (vs : List Nat) : ME := fun lo M => match mi lo M with
  | some (.ref n, M1) => match M1[n]? with
    | some (.lst ds) => if ds.length ≤ sizeLine then (match compLoopR n ds g c m vs ds lo M1 with
      | some (es, M2) => some (.lst es, M2)
      | none => none) else none
    | _ => none
  | _ => none
def mCompS (mi : ME) (g : MG) (c : MT) (m : ME) (vs : List Nat) : ME := fun lo M => match mi lo M with
  | some (.tup ds, M1) => if ds.length ≤ sizeLine then (match compLoop g c m vs ds lo M1 with
    | some (es, M2) => some (.lst es, M2)
    | none => none) else none
  | some (.lst ds, M1) => if ds.length ≤ sizeLine then (match compLoop g c m vs ds lo M1 with
    | some (es, M2) => some (.lst es, M2)
    | none => none) else none
  | some (.ref n, M1) => match M1[n]? with
    | some (.lst ds) => if ds.length ≤ sizeLine then (match compLoopR n ds g c m vs ds lo M1 with
      | some (es, M2) => some (.lst es, M2)
      | none => none) else none
    | _ => none
  | _ => none
theorem mCompS_cases {mi : ME} {g : MG} {c : MT} {m : ME} {vs : List Nat} {lo : Lo} {M : Mo} {o : D × Mo} (e : mCompS mi g c m vs lo M = some o) : mComp (iSeqM mi) g c m vs lo M = some o ∨ mCompR mi g c m vs lo M = some o := by
  unfold mCompS at e
  unfold mComp mCompR iSeqM
  cases h : mi lo M with
  | none => rw [h] at e; cases e
  | some p =>
    obtain ⟨d, M1⟩ := p
    rw [h] at e
    cases d with
    | tup ds => exact .inl e
    | lst ds => exact .inl e
    | ref n => exact .inr e
    | _ => cases e
section
variable {X : Cx} {cl : Nat → Addr} {pos : Pos}
theorem tLcR_of {W : Wd} {wi : TI} {mi : ME} {t : TG} {g : MG} {c : MT} {m : ME} {vs : List Nat} {σ : L2.St} {H : Hp} {Q : VK} (hwi : ∀ σ H R, iMR W mi σ H R → wi σ H R) (cg : CG W vs t g) (q : tM W (mCompR mi g c m vs) σ H Q) :
    tLc wi t (tMT W c) (tM W m) vs σ H Q := by
  obtain ⟨ρ, lo, M, d, Mf, R, L, e, k⟩ := q
  unfold mCompR at e
  split at e
  · rename_i nr M1 h1
    split at e
    rotate_left
    · cases e
    rename_i ds hmr
    split at e
    · rename_i hz
      split at e
      · rename_i es Mg h2
        obtain ⟨rfl, rfl⟩ : D.lst es = d ∧ Mg = Mf := by simpa using e
        refine hwi σ H _ ⟨ρ, lo, M, nr, ds, M1, R, L, h1, hmr, fun J H1 ρ1 g1 R1 it p hp => ?_⟩
        have L1 := L.mono g1
        refine ⟨fun i n H' => n = ds.length - i ∧ i ≤ ds.length ∧ ∃ ρ' M' xs acc rest, Kp H1 ρ1 H' ρ' ∧ (∀ a o, a ∈ ρ1.v → H1 a = some o → H' a = some o) ∧ Rep W H' ρ' M' ∧ ρ'.v = p :: ρ1.v ∧ H' p = some (.lst xs) ∧ DRs W.K H' ρ' xs acc ∧ acc.length ≤ i ∧
          compLoopR nr ds g c m vs (ds.drop i) lo M' = some (rest, Mg) ∧ acc ++ rest = es,
          ⟨ds.length, by simp, Nat.zero_le _, ⟨ρ1.m, p :: ρ1.v⟩, M1, [], [], es, .begin hp, fun a o ha e => by rw [upd_ne (ne_of_none e hp)]; exact e, R1.begin hp, rfl, upd_same, .nil, Nat.le_refl _, h2, rfl⟩, ?_⟩
        rintro i n H' ⟨rfl, hi, ρ', M', xs, acc, rest, kp, hh, R', ev, ep, ra, hl, e', ee⟩
        have hgd : lstIs nr ds M' = true := by
          cases hq : lstIs nr ds M' with
          | true => rfl
          | false =>
            exfalso
            cases hdr : ds.drop i with
            | nil => rw [hdr, compLoopR, hq] at e'; cases e'
            | cons a r => rw [hdr, compLoopR, hq] at e'; cases e'
        obtain ⟨hstop, hgo⟩ := it i H' ρ' M' (fun v d h => h.stay kp) R' hgd
        have hpv : p ∈ ρ'.v := by rw [ev]; exact List.mem_cons_self
        by_cases hlt : i < ds.length
        · right
          have hd : ds[i]? = some ds[i] := List.getElem?_eq_getElem hlt
          generalize ds[i] = d at hd
          obtain ⟨hg, hy⟩ := hgo d hd
          rw [drop_get hd, compLoopR, hgd, if_pos rfl] at e'
          refine ⟨hg, fun H2 => ∃ n', n' < ds.length - i ∧ (n' = ds.length - (i + 1) ∧ i + 1 ≤ ds.length ∧ ∃ ρ' M' xs acc rest, Kp H1 ρ1 H2 ρ' ∧ (∀ a o, a ∈ ρ1.v → H1 a = some o → H2 a = some o) ∧ Rep W H2 ρ' M' ∧ ρ'.v = p :: ρ1.v ∧ H2 p = some (.lst xs) ∧ DRs W.K H2 ρ' xs acc ∧ acc.length ≤ i + 1 ∧
            compLoopR nr ds g c m vs (ds.drop (i + 1)) lo M' = some (rest, Mg) ∧ acc ++ rest = es), fun H2 h => h, fun x H2 hx => ?_⟩
          obtain ⟨g2, R2, rx, _⟩ := hy x H2 hx
          split at e'
          · rename_i lo1 M2 hg1
            have hst := cg.st _ _ _ _ _ hg1
            subst hst
            refine cg.ok ρ' H2 (L2.wipe σ vs) (wipeD lo vs) _ x d lo1 _ _ R2 (((L1.stay kp).wipe vs).mono g2) rx hg1 fun σ' Lσ hw => ⟨by rw [hw, wipe_wipe], ?_⟩
            split at e'
            · rename_i M3 hc
              split at e'
              · rename_i el M4 hm
                split at e'
                · rename_i es2 M5 hr
                  cases e'
                  refine ⟨ρ', lo1, _, true, M3, R2, Lσ, hc, fun H3 ρ3 g3 R3 => iteT ?_⟩
                  refine ⟨ρ3, lo1, M3, el, M4, R3, Lσ.mono g3, hm, fun y H4 ρ4 g4 R4 r4 => ?_⟩
                  have gg := (g2.trans g3).trans g4
                  have ep4 : H4 p = some (.lst xs) := gg.hid p _ hpv ep
                  have ev4 : ρ4.v = p :: ρ1.v := gg.vol.trans ev
                  have hpv4 : p ∈ ρ4.v := by rw [ev4]; exact List.mem_cons_self
                  have hlen := ra.length
                  refine ⟨xs, ep4, by omega, _, by omega, rfl, by omega, ρ4, M4, xs ++ [y], acc ++ [el], es2, (kp.trans gg.kp).put hp, fun a o ha e => ?_, R4.hide hpv4, ev4, upd_same, ((ra.mono gg).append (.cons r4 .nil)).hide hpv4, by rw [List.length_append]; simp; omega, hr, by rw [List.append_assoc]; exact ee⟩
                  rw [upd_ne (ne_of_none e hp)]
                  exact gg.hid a o (by rw [ev]; exact List.mem_cons_of_mem _ ha) (hh a o ha e)
                · cases e'
              · cases e'
            · rename_i M3 hc
              refine ⟨ρ', lo1, _, false, M3, R2, Lσ, hc, fun H3 ρ3 g3 R3 => iteF ?_⟩
              have gg := g2.trans g3
              exact ⟨_, by omega, rfl, by omega, ρ3, M3, xs, acc, rest, kp.trans gg.kp, fun a o ha e => gg.hid a o (by rw [ev]; exact List.mem_cons_of_mem _ ha) (hh a o ha e), R3, gg.vol.trans ev, gg.hid p _ hpv ep, ra.mono gg, by omega, e', ee⟩
            · cases e'
          · cases e'
        · left
          refine ⟨hstop (by omega), ?_⟩
          rw [List.drop_of_length_le (Nat.le_of_not_lt hlt), compLoopR, hgd, if_pos rfl] at e'
          cases e'
          rw [List.append_nil] at ee
          subst ee
          have hpm : p ∉ ρ'.m := (R'.hid p hpv).2
          have hp1 : p ∉ ρ1.v := fun z => by
            obtain ⟨⟨u, e⟩, _⟩ := R1.hid p z
            rw [hp] at e; cases e
          have hsub : ∀ a, a ∈ (⟨ρ'.m, ρ1.v⟩ : Rh).v → a ∈ ρ'.v := fun a ha => by rw [ev]; exact List.mem_cons_of_mem _ ha
          have hnot : ∀ a, a ∉ ρ' → a ∉ (⟨ρ'.m, ρ1.v⟩ : Rh) := fun a n z => z.elim (fun z => n (.inl z)) fun z => n (.inr (hsub a z))
          refine k _ H' ⟨ρ'.m, ρ1.v⟩ (g1.trans ⟨kp.pre, fun a o h n => ?_, rfl, hh⟩) (R'.less rfl hsub) (.lst ⟨ep, fun z => z.elim hpm hp1⟩ (DRs.less (ρ := ρ') (ρ' := ⟨ρ'.m, ρ1.v⟩) rfl hnot ra))
          obtain ⟨h2, n2⟩ := kp.keep a o h n
          exact ⟨h2, hnot a n2⟩
      · cases e
    · cases e
  · cases e
theorem tLcS_of {W : Wd} {wi : TI} {mi : ME} {t : TG} {g : MG} {c : MT} {m : ME} {vs : List Nat} {σ : L2.St} {H : Hp} {Q : VK} (hwi : ∀ σ H R, iMS W mi σ H R → wi σ H R) (cg : CG W vs t g) (q : tM W (mCompS mi g c m vs) σ H Q) : tLc wi t (tMT W c) (tM W m) vs σ H Q := by
  obtain ⟨ρ, lo, M, d, Mf, R, L, e, k⟩ := q
  rcases mCompS_cases e with e | e
  · exact tLc_of (fun _ _ _ h => hwi _ _ _ (.inl h)) cg ⟨ρ, lo, M, d, Mf, R, L, e, k⟩
  · exact tLcR_of (fun _ _ _ h => hwi _ _ _ (.inr h)) cg ⟨ρ, lo, M, d, Mf, R, L, e, k⟩
section
variable {elt tg iter : Expr} {ifs : List Expr} {scope : Scope} {own : List (Str × Nat)} {mi : ME} {t : TG} {g : MG} {c : MT} {m : ME}
/-- [elt for tg in iter if ..] -/
theorem ge_compS (hc : X.calm = true) (hN : X.N.Nodup) (hi : GIS cl X tg iter mi) (ok : BlkOk X.N X.env.scope scope own) (cg : CG ⟨X.K, cl, X.w⟩ (own.map (·.2)) t g)
    (hg : ∀ (s : Shared) (H : Hp) (C : Addr) (c2 : List (Str × Addr)) (fp : List Addr), PG (X.blk s H scope (compEnvC scope c2 C X.env) fp) tg t)
    (ht : ∀ (s : Shared) (H : Hp) (C : Addr) (c2 : List (Str × Addr)) (fp : List Addr), GTs cl (X.blk s H scope (compEnvC scope c2 C X.env) fp) ifs c)
    (he : ∀ (s : Shared) (H : Hp) (C : Addr) (c2 : List (Str × Addr)) (fp : List Addr), GE cl (X.blk s H scope (compEnvC scope c2 C X.env) fp) elt m) (hs : ∀ x, foldedSetIterable iter X.env x = pure x := by intro _; rfl) :
    GE cl X (.ListComp elt [⟨tg, iter, ifs, 0⟩] scope pos) (mCompS mi g c m (own.map (·.2))) :=
  (pe_lc hc hN hi ok hg ht he hs).imp fun σ H Q q => tLcS_of (fun _ _ _ h => h) cg q
theorem gs_setCompS {i : Nat} {y : Str} {py spos : Pos} (hc : X.calm = true) (hN : X.N.Nodup) (hy : X.N[i]? = some y) (hyl : X.env.scope.names.lookup y = some .local)
    (hsw : swapsWith (.ListComp elt [⟨tg, iter, ifs, 0⟩] scope pos) (some (.Name y py)) spos.line X.env = pure true) (hi : GIS cl X tg iter mi) (ok : BlkOk X.N X.env.scope scope own) (cg : CG ⟨X.K, cl, X.w⟩ (own.map (·.2)) t g)
    (hg : ∀ (s : Shared) (H : Hp) (C : Addr) (c2 : List (Str × Addr)) (fp : List Addr), PG (X.blk s H scope (compEnvC scope c2 C X.env) fp) tg t)
    (ht : ∀ (s : Shared) (H : Hp) (C : Addr) (c2 : List (Str × Addr)) (fp : List Addr), GTs cl (X.blk s H scope (compEnvC scope c2 C X.env) fp) ifs c)
    (he : ∀ (s : Shared) (H : Hp) (C : Addr) (c2 : List (Str × Addr)) (fp : List Addr), GE cl (X.blk s H scope (compEnvC scope c2 C X.env) fp) elt m) (hs : ∀ x, foldedSetIterable iter X.env x = pure x := by intro _; rfl) :
    GS cl X (.Assign [.Name y py] (.ListComp elt [⟨tg, iter, ifs, 0⟩] scope pos) spos) (sSet (mCompS mi g c m (own.map (·.2))) (gName i)) :=
  (ps_setLc hc hN hy hyl hsw hi ok hg ht he hs).imp fun De σ H q => by
    obtain ⟨ρ, lo, M, o, R, L, e, k⟩ := q
    unfold sSet at e
    split at e
    · rename_i d M1 h1
      split at e
      · rename_i lo2 M2 h2
        cases e
        cases h2
        exact tLcS_of (fun _ _ _ h => h) cg ⟨ρ, lo, M, d, _, R, L, h1, fun v H1 ρ1 g1 R1 r1 => k _ H1 ρ1 g1 R1 ((L.mono g1).set r1 i)⟩
      · cases e
    · cases e
end
end
end G

set_option Elab.async false
set_option linter.all false
set_option maxRecDepth 100000
/-! All defs of a text at once: level by level. -/
namespace G
open PySem PySem.Spec L2
open PyProof.Rows (envOfC)

theorem gw_pt {X : Cx} {cl : Nat → Addr} {e : Expr} {m : MT} (h : GW cl X e m) : GT cl X e m := h.pt
/-- a def whose things are kept -/
def fnFK (nl : Nat) (body : MS) : F1 := fun ds M => match body (ds.map some ++ List.replicate (nl - ds.length) none) M with
  | some (.rt d M') => some (d, M')
  | some (.nx _ M') => some (.non, M')
  | _ => none
section
variable {P : Program} {w : World} {K : PySem.W.Frag} {mg : Str → Option Value} {base : Heap} {x qual : Str} {params : Arguments} {body : List Stmt} {scope : Scope} {f : Addr} {fd : FuncData} {cl : Nat → Addr}
theorem fn_okK {N ps : List Str} {k : Nat} {m : MS} (F : FunD K x qual params body scope [] [] f fd) (S : FnScope N ps scope)
    (hb : ∀ (cdv : Value) (A : Around) (outer : List PySem.Env) (s : Shared) (H : Hp) (E : XK), Room k (A.deeper (envOfC qual scope s.heap.objs.size f cdv)) → GB cl (cxOf CX0 P w K mg base N qual scope f cdv A outer s H E).nox body m) :
    FnOk P w K mg base CX0 (k + 1) f fd ps (spG cl K w ps.length (fnFK N.length m)) := by
  refine F.ok S (fun vs H Q E h => h.1) (fun cdv A outer s H vs Q E hr h => ⟨tS ⟨K, cl, w⟩ m, PSs.nox (hb cdv A outer s H E hr), ?_⟩)
  obtain ⟨hl, ρ, M, ds, d, M', R, r, e, k⟩ := h
  unfold fnFK at e
  split at e
  · rename_i d1 M1 h1
    cases e
    exact ⟨ρ, _, M, _, R, .start N r, h1, fun v H' ρ' g R' r' => k v H' ρ' g R' r'⟩
  · rename_i lo1 M1 h1
    cases e
    exact ⟨ρ, _, M, _, R, .start N r, h1, fun σ' H' ρ' g R' _ => k .non H' ρ' g R' .non⟩
  · cases e
end

/-- a def of the text: where it stands, what it says, what it means -/
structure FnI where
  at_ : Str × Option Str
  name : Str
  qual : Str
  st : Stmt
  N : List Str
  ps : List Str
  keep : Bool
  m : (Nat → F1) → MS
def FnI.dd (I : FnI) : He.DefD := ⟨I.at_, I.name, I.qual, defArgs I.st, defBody I.st, defScope I.st, [], []⟩
def FnI.fn (I : FnI) (F : Nat → F1) : F1 := if I.keep = true then fnFK I.N.length (I.m F) else fnF I.N.length (I.m F)
/-- what the defs are, n levels deep -/
def Fk (fns : List FnI) : Nat → Nat → F1
  | 0 => fun _ _ _ => none
  | k + 1 => fun i => match fns[i]? with
    | some I => I.fn (Fk fns k)
    | none => fun _ _ => none
/-- what the text names -/
structure Tabs where
  tf : List (Str × Nat)
  tm : List (Nat × Str × Nat × Nat)
  tk : List (Str × Nat × Nat)
  tg : List (Str × D)
  te : List Str
  ta : List (Nat × Str)
  td : List (Str × List (Str × D))
abbrev EnvT (T : Tabs) (P : Program) (w : World) (K : PySem.W.Frag) (mg : Str → Option Value) (base : Heap) (A : Around) (cl : Nat → Addr) (F : Nat → F1) : Prop := Env P w K mg base A cl F T.tf T.tm T.tk T.tg T.te T.ta T.td T.tk.length
/-- a def's body means what it says -/
structure Good (T : Tabs) (I : FnI) : Prop where
  sc : FnScope I.N I.ps (defScope I.st)
  bd : ∀ {K : PySem.W.Frag} {f : Addr} {fd : FuncData}, FunD K I.name I.qual (defArgs I.st) (defBody I.st) (defScope I.st) [] [] f fd → Binds K fd I.ps []
  der : ∀ {P : Program} {w : World} {K : PySem.W.Frag} {mg : Str → Option Value} {base : Heap} {cl : Nat → Addr} {F : Nat → F1} {f : Addr} {cdv : Value} {A : Around} {outer : List PySem.Env} {s : Shared} {H : Hp} {E : XK},
    EnvT T P w K mg base (A.deeper (envOfC I.qual (defScope I.st) s.heap.objs.size f cdv)) cl F → GB cl (cxOf CX0 P w K mg base I.N I.qual (defScope I.st) f cdv A outer s H E).nox (defBody I.st) (I.m F)
/-- the classes' addresses -/
def clK (T : Tabs) (K : PySem.W.Frag) (c : Nat) : Addr := He.ga K ((T.tk[c]?.map (·.1)).getD "")
/-- the facts that the head is asked for -/
def Tabs.fas (T : Tabs) : List He.Fa := T.tf.map (fun p => .glo p.1) ++ T.tk.map (fun p => .glo p.1) ++ T.td.map (fun p => .glo p.1) ++ T.te.map .free ++ T.tk.map (fun p => .cls p.1) ++ T.tk.map (fun p => .mkr p.1) ++
  T.tm.map (fun p => .meth ((T.tk[p.1]?.map (·.1)).getD "") p.2.1) ++ T.ta.map fun p => .noat ((T.tk[p.1]?.map (·.1)).getD "") p.2
/-- a row of a written dict -/
def rowB (K : PySem.W.Frag) (a : Addr) (q : Str × D) : Bool := match PySem.W.nsIn K a q.1 with
  | some (some u) => kTupD K 60 u q.2
  | _ => false
def Tabs.ex (T : Tabs) (K : PySem.W.Frag) : Bool := (T.tg.all fun p => globB K p.1 p.2) && T.td.all fun p => p.2.all fun q => rowB K (He.ga K p.1) q
def Tabs.ts (T : Tabs) : List He.Tab := T.td.map fun p => (fun K => He.ga K p.1, p.2.map (·.1))
/-- the tables speak of the defs -/
def Tabs.okB (T : Tabs) (fns : List FnI) : Bool :=
  ((List.range T.tf.length).all fun i => match T.tf[i]?, fns[i]? with
    | some p, some I => decide (I.at_ = (p.1, none)) && decide (I.ps.length = p.2)
    | _, _ => false) &&
  (T.tm.all fun p => match T.tk[p.1]?, fns[p.2.2.2]? with
    | some q, some I => decide (I.at_ = (q.1, some p.2.1)) && decide (I.ps.length = p.2.2.1)
    | _, _ => false) &&
  (T.tk.all fun q => match fns[q.2.2]? with
    | some I => decide (I.at_ = (q.1, some ("__init__" : Str))) && decide (I.ps.length = q.2.1)
    | _ => false)
section
variable {T : Tabs} {fns : List FnI} {P : Program} {w : World} {K : PySem.W.Frag} {mg : Str → Option Value} {base h : Heap}
/-- what the head says -/
structure Said (T : Tabs) (fns : List FnI) (K : PySem.W.Frag) (w : World) (mg : Str → Option Value) : Prop where
  fn : ∀ (i : Nat) (I : FnI), fns[i]? = some I → ∃ fd, FunD K I.name I.qual (defArgs I.st) (defBody I.st) (defScope I.st) [] [] (He.fAd K I.at_) fd
  glo : ∀ p ∈ T.tf, mg p.1 = some (.ref (He.ga K p.1))
  gloK : ∀ p ∈ T.tk, mg p.1 = some (.ref (He.ga K p.1))
  free : ∀ x ∈ T.te, mg x = none
  cls : ∀ p ∈ T.tk, Cls K (He.ga K p.1)
  mkr : ∀ p ∈ T.tk, Mk K (He.ga K p.1) (He.ma K (He.ga K p.1) "__init__")
  meth : ∀ p ∈ T.tm, Meth K (He.ga K ((T.tk[p.1]?.map (·.1)).getD "")) p.2.1 (He.ma K (He.ga K ((T.tk[p.1]?.map (·.1)).getD "")) p.2.1)
  noat : ∀ p ∈ T.ta, NoAttr K (He.ga K ((T.tk[p.1]?.map (·.1)).getD "")) p.2
  glob : ∀ p ∈ T.tg, GlobD K mg p.1 p.2
  dct : ∀ p ∈ T.td, KDctD K w mg p.1 p.2
theorem said_of (X : K.In h) (N : h.Ns mainGlobals mg) (c : He.SaysX T.fas (fns.map FnI.dd) T.ts [] T.ex w h K) : Said T fns K w mg := by
  have d := c.t.d
  have fact : ∀ f ∈ T.fas, f.ok K = true := fun f hf => He.SaysD.facts d hf
  have mem := @List.mem_append He.Fa
  refine ⟨fun i I hI => ?_, fun p hp => ?_, fun p hp => ?_, fun x hx => ?_, fun p hp => ?_, fun p hp => ?_, fun p hp => ?_, fun p hp => ?_, fun p hp => ?_, fun p hp => ?_⟩
  · exact d.def_ i (d := I.dd) (by rw [List.getElem?_map, hI] <;> rfl)
  · exact He.glo_ok X N (fact (.glo p.1) (by unfold Tabs.fas; simp only [List.mem_append, List.mem_map]; simp; exact .inl (.inl ⟨_, hp⟩)))
  · exact He.glo_ok X N (fact (.glo p.1) (by unfold Tabs.fas; simp only [List.mem_append, List.mem_map]; simp; exact .inl (.inr ⟨_, _, hp⟩)))
  · exact He.free_ok X N (fact (.free x) (by unfold Tabs.fas; simp only [List.mem_append, List.mem_map]; simp; exact hx))
  · exact He.cls_ok (fact (.cls p.1) (by unfold Tabs.fas; simp only [List.mem_append, List.mem_map]; simp; exact ⟨_, _, hp⟩))
  · exact He.mkr_ok (fact (.mkr p.1) (by unfold Tabs.fas; simp only [List.mem_append, List.mem_map]; simp; exact ⟨_, _, hp⟩))
  · exact He.meth_ok (fact (.meth _ p.2.1) (by unfold Tabs.fas; simp only [List.mem_append, List.mem_map]; exact .inl (.inr ⟨p, hp, rfl⟩)))
  · exact He.noat_ok (fact (.noat _ p.2) (by unfold Tabs.fas; simp only [List.mem_append, List.mem_map]; exact .inr ⟨p, hp, rfl⟩))
  · have m := c.more
    unfold Tabs.ex at m
    rw [Bool.and_eq_true] at m
    exact globB_ok X N (List.all_eq_true.mp m.1 p hp)
  · have m := c.more
    unfold Tabs.ex at m
    rw [Bool.and_eq_true] at m
    have mp := List.all_eq_true.mp m.2 p hp
    obtain ⟨i, hi, e⟩ := List.getElem_of_mem hp
    have hi2 : T.td[i]? = some p := by rw [List.getElem?_eq_getElem hi, e]
    obtain ⟨es, n, D0⟩ := c.t.tab i (t := (fun K => He.ga K p.1, p.2.map (·.1))) (by unfold Tabs.ts; rw [List.getElem?_map, hi2]; rfl)
    refine ⟨He.ga K p.1, es, n, He.glo_ok X N (fact (.glo p.1) (by unfold Tabs.fas; simp only [List.mem_append, List.mem_map]; simp; exact Or.inr ⟨_, hp⟩)), D0, fun k d hk => ?_⟩
    have mem : (k, d) ∈ p.2 := by
      have : ∀ l : List (Str × D), l.lookup k = some d → (k, d) ∈ l := by
        intro l
        induction l with
        | nil => intro h; cases h
        | cons a l ih =>
          intro h
          obtain ⟨a1, a2⟩ := a
          rw [List.lookup_cons] at h
          split at h
          · rename_i hb
            have hb : k = a1 := eq_of_beq hb
            cases h
            subst hb
            exact List.mem_cons_self
          · exact List.mem_cons_of_mem _ (ih h)
      exact this _ hk
    have mr := List.all_eq_true.mp mp _ mem
    unfold rowB at mr
    split at mr
    · rename_i u e1
      obtain ⟨h1, h2⟩ := kTupD_ok 60 u d mr
      exact ⟨u, absVD u, e1, h1, h2⟩
    · cases mr
/-- THE LEVELS -/
theorem levels (S : Said T fns K w mg) (ok : T.okB fns = true) (good : ∀ (i : Nat) (I : FnI), fns[i]? = some I → Good T I) :
    ∀ (k i : Nat) (I : FnI) (fd : FuncData), fns[i]? = some I → FunD K I.name I.qual (defArgs I.st) (defBody I.st) (defScope I.st) [] [] (He.fAd K I.at_) fd →
      FnOk P w K mg base CX0 (2 * k) (He.fAd K I.at_) fd I.ps (spG (clK T K) K w I.ps.length (Fk fns k i)) := by
  unfold Tabs.okB at ok
  simp only [Bool.and_eq_true] at ok
  obtain ⟨⟨ok1, ok2⟩, ok3⟩ := ok
  intro k
  induction k with
  | zero => exact fun i I fd hI F => fn_zero
  | succ k ih =>
    intro i I fd hI F
    have g := good i I hI
    have env : ∀ {A : Around}, Room (2 * k + 1) A → EnvT T P w K mg base A (clK T K) (Fk fns k) := fun {A} hr => by
      refine ⟨hr.mono (by omega), fun j x n hj => ?_, fun j c m n l hj => ?_, fun c x n l hj => ?_, fun j x d hj => S.glob _ (List.mem_of_getElem? hj), fun j x hj => S.free _ (List.mem_of_getElem? hj), fun c hc => ?_, fun j c f hj => S.noat _ (List.mem_of_getElem? hj), fun j x kvs hj => S.dct _ (List.mem_of_getElem? hj)⟩
      · have z := List.all_eq_true.mp ok1 j (List.mem_range.mpr (List.getElem?_eq_some_iff.mp hj).1)
        rw [hj] at z
        cases h1 : fns[j]? with
        | none => rw [h1] at z; cases z
        | some J =>
          rw [h1] at z
          simp only [Bool.and_eq_true, decide_eq_true_eq] at z
          obtain ⟨fd2, F2⟩ := S.fn j J h1
          have a1 := ih j J fd2 h1 F2
          have b1 := (good j J h1).bd F2
          have kp := F2.kp
          rw [z.1] at a1 kp
          rw [z.2] at a1
          exact ⟨2 * k, He.ga K x, fd2, J.ps, z.2, a1, hr, S.glo _ (List.mem_of_getElem? hj), kp, b1, rfl⟩
      · have z := List.all_eq_true.mp ok2 _ (List.mem_of_getElem? hj)
        simp only at z
        have hm := S.meth _ (List.mem_of_getElem? hj)
        simp only at hm
        cases h0 : T.tk[c]? with
        | none => rw [h0] at z; cases z
        | some q =>
          rw [h0] at z hm
          cases h1 : fns[l]? with
          | none => rw [h1] at z; cases z
          | some J =>
            rw [h1] at z
            simp only [Bool.and_eq_true, decide_eq_true_eq] at z
            obtain ⟨fd2, F2⟩ := S.fn l J h1
            have a1 := ih l J fd2 h1 F2
            have b1 := (good l J h1).bd F2
            rw [z.1] at a1
            rw [z.2] at a1
            have ec : clK T K c = He.ga K q.1 := by unfold clK; rw [h0] <;> rfl
            exact ⟨2 * k, He.ma K (He.ga K q.1) m, fd2, J.ps, z.2, a1, hr, by rw [ec]; exact S.cls _ (List.mem_of_getElem? h0), by rw [ec]; exact hm, b1⟩
      · have z := List.all_eq_true.mp ok3 _ (List.mem_of_getElem? hj)
        simp only at z
        cases h1 : fns[l]? with
        | none => rw [h1] at z; cases z
        | some J =>
          rw [h1] at z
          simp only [Bool.and_eq_true, decide_eq_true_eq] at z
          obtain ⟨fd2, F2⟩ := S.fn l J h1
          have a1 := ih l J fd2 h1 F2
          have b1 := (good l J h1).bd F2
          rw [z.1] at a1
          rw [z.2] at a1
          have ec : clK T K c = He.ga K x := by unfold clK; rw [hj] <;> rfl
          exact ⟨2 * k, He.ma K (He.ga K x) "__init__", fd2, J.ps, z.2, a1, hr, by rw [ec]; exact S.gloK _ (List.mem_of_getElem? hj), by rw [ec]; exact S.mkr _ (List.mem_of_getElem? hj), b1⟩
      · obtain ⟨q, hq⟩ : ∃ q, T.tk[c]? = some q := ⟨_, List.getElem?_eq_getElem hc⟩
        have ec : clK T K c = He.ga K q.1 := by unfold clK; rw [hq] <;> rfl
        rw [ec]
        exact S.cls _ (List.mem_of_getElem? hq)
    show FnOk P w K mg base CX0 (2 * k + 1 + 1) _ fd I.ps (spG (clK T K) K w I.ps.length (Fk fns (k + 1) i))
    have e : Fk fns (k + 1) i = I.fn (Fk fns k) := by
      show (match fns[i]? with | some I => I.fn (Fk fns k) | none => fun _ _ => none) = _
      rw [hI]
    rw [e]
    unfold FnI.fn
    split
    · exact fn_okK F g.sc fun cdv A outer s H E hr => g.der (env hr)
    · exact fn_ok F g.sc fun cdv A outer s H E hr => g.der (env hr)
end

/-! ### the law's own promise -/
theorem sp_law {K : PySem.W.Frag} {w : World} {cl : Nat → Addr} {f : F1} {H : Hp} {a : Addr} {ns : List Int} {E : XK} (hO : Only H) (hS : SqL K H a (ns.map V.int)) (h : ∃ M, f [.rol (ns.map D.int)] [] = some (.bl true, M)) : spG cl K w 1 f [.ref a] H (fun v _ => v = .bl true) E := by
  obtain ⟨M, h⟩ := h
  refine ⟨rfl, ⟨[], []⟩, [], _, _, M, ⟨List.nodup_nil, rfl, fun a h => (by cases h), fun i a o h => (by simp at h)⟩, .cons (.rol ?_ (.ints ns)) .nil, h, fun v H' ρ' g R r => by cases r; rfl⟩
  rcases hS with (h | ⟨o, h⟩) | h
  · rcases hO a with z | ⟨o, xs, z⟩
    · rw [h] at z; cases z
    · rw [h] at z; cases z
  · exact .inl ⟨o, h, Rh.not_mem (by simp) (by simp)⟩
  · exact .inr h
/-- is of two truth values -/
def isBF : F1 := fun ds M => match ds with
  | [.bl a, .bl b] => some (.bl (decide (a = b)), M)
  | _ => none
def notBF : F1 := fun ds M => match ds with
  | [.bl a, .bl b] => some (.bl (!decide (a = b)), M)
  | _ => none
theorem isBF_some {ds : List D} {M M' : Mo} {d : D} (e : isBF ds M = some (d, M')) : ∃ a b, ds = [.bl a, .bl b] ∧ d = .bl (decide (a = b)) ∧ M' = M := by
  unfold isBF at e
  split at e
  · cases e
    exact ⟨_, _, rfl, rfl, rfl⟩
  · cases e
theorem notBF_some {ds : List D} {M M' : Mo} {d : D} (e : notBF ds M = some (d, M')) : ∃ a b, ds = [.bl a, .bl b] ∧ d = .bl (!decide (a = b)) ∧ M' = M := by
  unfold notBF at e
  split at e
  · cases e
    exact ⟨_, _, rfl, rfl, rfl⟩
  · cases e
theorem o_isB {X : Cx} {cl : Nat → Addr} : OpR X (compareOp .Is) (r2 ⟨X.K, cl, X.w⟩ isBF) := by
  intro pins s σ H x y v u Q I rx ry q
  obtain ⟨ρ, M, ds, d, M', R, r, e, k⟩ := q
  obtain ⟨a, b, rfl, rfl, rfl⟩ := isBF_some e
  obtain ⟨v1, u1, e1, ra, rb⟩ := r.pair
  cases e1
  cases ra
  cases rb
  exact op_is_bl pins s σ H _ _ v u Q I rx ry ⟨a, b, rfl, rfl, k _ H ρ (.refl H ρ) R (.bl _)⟩
theorem o_notB {X : Cx} {cl : Nat → Addr} : OpR X (compareOp .IsNot) (r2 ⟨X.K, cl, X.w⟩ notBF) := by
  intro pins s σ H x y v u Q I rx ry q
  obtain ⟨ρ, M, ds, d, M', R, r, e, k⟩ := q
  obtain ⟨a, b, rfl, rfl, rfl⟩ := notBF_some e
  obtain ⟨v1, u1, e1, ra, rb⟩ := r.pair
  cases e1
  cases ra
  cases rb
  exact op_isnot_bl pins s σ H _ _ v u Q I rx ry ⟨a, b, rfl, rfl, k _ H ρ (.refl H ρ) R (.bl _)⟩
end G

set_option Elab.async false
set_option linter.all false
set_option maxRecDepth 100000
/-! The meanings of the program's defs. -/
namespace Law
open PySem PySem.Spec L2 G
def g_LETTERS_formulas : D := .int 4
def g_PAIRS : D := (.tup [(.str "if"), (.str "and"), (.str "or")])
def g_DEEPEST_formulas : D := .int 8
def g_FALSE : D := (.tup [(.str "false")])
def g_DEEPEST_PROOF_sequents : D := .int 300
def g_FORM_sequents : D := (.tup [(.str "form"), (.int 0)])
def g_DEEPEST_PROOF_deductions : D := .int 300
def g_FORM_deductions : D := (.tup [(.str "form"), (.int 0)])
def g_TRUE : D := (.tup [(.str "if"), (.tup [(.str "false")]), (.tup [(.str "false")])])
def k_SIZES_sequents : List (Str × D) := [("axiom", (.int 2)), ("false", (.int 1)), ("andleft", (.int 3)), ("andright", (.int 4)), ("orleft", (.int 4)), ("orright", (.int 3)), ("ifleft", (.int 4)), ("ifright", (.int 3)), ("cut", (.int 4))]
def k_SIZES_deductions : List (Str × D) := [("assume", (.tup [(.int 1), (.int 0)])), ("ifin", (.tup [(.int 1), (.int 1)])), ("ifout", (.tup [(.int 0), (.int 2)])), ("andin", (.tup [(.int 0), (.int 2)])), ("andout1", (.tup [(.int 0), (.int 1)])), ("andout2", (.tup [(.int 0), (.int 1)])), ("orin1", (.tup [(.int 1), (.int 1)])), ("orin2", (.tup [(.int 1), (.int 1)])), ("orout", (.tup [(.int 0), (.int 3)])), ("falseout", (.tup [(.int 1), (.int 1)])), ("contra", (.tup [(.int 1), (.int 1)]))]
def b_is_whole : MS := (sRet (mAndE (mIsi "int" (mVar 0)) (mNotE (mIsi "bool" (mVar 0)))))
def b_is_from (f_is_whole : F1) : MS := (sRet (mAndE (mCallN 1 f_is_whole (mCons (mVar 0) mNil)) (mChain leF leF (mVar 1) (mVar 0) (mVar 2))))
def b_has_shape (f_has_shape : F1) (f_is_from : F1) : MS := (sSeq (sIf (tOrM (tNotM (tru (mIsi "tuple" (mVar 0)))) (tOrM (tru (mBin eqF (mCall lenF (mCons (mVar 0) mNil)) (mC (.int 0)))) (tNotM (tru (mIsi "str" (mBin atF (mVar 0) (mC (.int 0)))))))) (sRet (mC (.bl false))) sNext) (sSeq (sIf (tru (mBin eqF (mBin atF (mVar 0) (mC (.int 0))) (mC (.str "letter")))) (sRet (mAndE (mBin eqF (mCall lenF (mCons (mVar 0) mNil)) (mC (.int 2))) (mCallN 3 f_is_from (mCons (mBin atF (mVar 0) (mC (.int 1))) (mCons (mC (.int 0)) (mCons (mBin subF (mC g_LETTERS_formulas) (mC (.int 1))) mNil)))))) sNext) (sSeq (sIf (tru (mBin eqF (mBin atF (mVar 0) (mC (.int 0))) (mC (.str "false")))) (sRet (mBin eqF (mCall lenF (mCons (mVar 0) mNil)) (mC (.int 1)))) sNext) (sSeq (sIf (tOrM (tru (mBin ninF (mBin atF (mVar 0) (mC (.int 0))) (mC g_PAIRS))) (tOrM (tru (mBin neF (mCall lenF (mCons (mVar 0) mNil)) (mC (.int 3)))) (tru (mBin eqF (mVar 1) (mC (.int 0)))))) (sRet (mC (.bl false))) sNext) (sRet (mAndE (mCallN 2 f_has_shape (mCons (mBin atF (mVar 0) (mC (.int 1))) (mCons (mBin subF (mVar 1) (mC (.int 1))) mNil))) (mCallN 2 f_has_shape (mCons (mBin atF (mVar 0) (mC (.int 2))) (mCons (mBin subF (mVar 1) (mC (.int 1))) mNil)))))))))
def b_contrary : MS := (sRet (mTup (mCons (mC (.str "if")) (mCons (mVar 0) (mCons (mC g_FALSE) mNil)))))
def b_letters_in (f_letters_in : F1) : MS := (sSeq (sIf (tru (mBin eqF (mBin atF (mVar 0) (mC (.int 0))) (mC (.str "letter")))) (sRet (mLst (mCons (mBin atF (mVar 0) (mC (.int 1))) mNil))) sNext) (sSeq (sIf (tru (mBin eqF (mBin atF (mVar 0) (mC (.int 0))) (mC (.str "false")))) (sRet (mLst mNil)) sNext) (sRet (mUn sortSetF (mBin addF (mCallN 1 f_letters_in (mCons (mBin atF (mVar 0) (mC (.int 1))) mNil)) (mCallN 1 f_letters_in (mCons (mBin atF (mVar 0) (mC (.int 2))) mNil)))))))
def b_joined_value : MS := (sSeq (sIf (tru (mBin eqF (mVar 0) (mC (.str "and")))) (sRet (mCall min2F (mCons (mVar 1) (mCons (mVar 2) mNil)))) sNext) (sRet (mIf (tru (mBin eqF (mVar 0) (mC (.str "or")))) (mCall max2F (mCons (mVar 1) (mCons (mVar 2) mNil))) (mCall max2F (mCons (mBin subF (mC (.int 1)) (mVar 1)) (mCons (mVar 2) mNil))))))
def b_value_of (f_joined_value : F1) (f_value_of : F1) : MS := (sSeq (sIf (tru (mBin eqF (mBin atF (mVar 0) (mC (.int 0))) (mC (.str "letter")))) (sRet (mBin atF (mVar 1) (mBin atF (mVar 0) (mC (.int 1))))) sNext) (sSeq (sIf (tru (mBin eqF (mBin atF (mVar 0) (mC (.int 0))) (mC (.str "false")))) (sRet (mC (.int 0))) sNext) (sRet (mCallN 3 f_joined_value (mCons (mBin atF (mVar 0) (mC (.int 0))) (mCons (mCallN 2 f_value_of (mCons (mBin atF (mVar 0) (mC (.int 1))) (mCons (mVar 1) mNil))) (mCons (mCallN 2 f_value_of (mCons (mBin atF (mVar 0) (mC (.int 2))) (mCons (mVar 1) mNil))) mNil)))))))
def b_rows_of : MS := (sSeq (sSet (mLst (mCons (mBin mulF (mTup (mCons (mC (.int 0)) mNil)) (mC g_LETTERS_formulas)) mNil)) (gName 1)) (sSeq (sForS (mUn revF (mCall sortF (mCons (mVar 0) mNil))) (gName 2) (sSet (mBin addF (mVar 1) (mCompS (mVar 1) (gName 3) tTrue (mBin addF (mBin addF (mSl (mVar 3) pNone (pSome (mVar 2))) (mTup (mCons (mC (.int 1)) mNil))) (mSl (mVar 3) (pSome (mBin addF (mVar 2) (mC (.int 1)))) pNone)) [3])) (gName 1))) (sRet (mCall sortF (mCons (mVar 1) mNil)))))
def b_against_formulas (f_letters_in : F1) (f_rows_of : F1) (f_value_of : F1) : MS := (sSeq (sForS (mCallN 1 f_rows_of (mCons (mCallN 1 f_letters_in (mCons (mVar 0) mNil)) mNil)) (gName 1) (sIf (tru (mBin eqF (mCallN 2 f_value_of (mCons (mVar 0) (mCons (mVar 1) mNil))) (mC (.int 0)))) (sRet (mVar 1)) sNext)) (sRet (mC .non)))
def b_is_theorem (f_against_formulas : F1) : MS := (sRet (mUn isNF (mCallN 1 f_against_formulas (mCons (mVar 0) mNil))))
def b_with_one : MS := (sRet (mCall tupleF (mCons (mUn sortSetF (mBin addF (mVar 0) (mTup (mCons (mVar 1) mNil)))) mNil)))
def b_has_form_sequents (f_has_form_sequents : F1) (f_has_shape : F1) : MS := (sSeq (sIf (tOrM (tNotM (tru (mIsi "tuple" (mVar 0)))) (tOrM (tru (mBin eqF (mCall lenF (mCons (mVar 0) mNil)) (mC (.int 0)))) (tOrM (tNotM (tru (mIsi "str" (mBin atF (mVar 0) (mC (.int 0)))))) (tru (mKIn true k_SIZES_sequents (mBin atF (mVar 0) (mC (.int 0)))))))) (sRet (mC (.bl false))) sNext) (sSeq (sIf (tOrM (tru (mBin neF (mCall lenF (mCons (mVar 0) mNil)) (mKGet k_SIZES_sequents (mBin atF (mVar 0) (mC (.int 0)))))) (tru (mBin eqF (mVar 1) (mC (.int 0))))) (sRet (mC (.bl false))) sNext) (sSeq (sIf (tAndM (tru (mBin gtF (mCall lenF (mCons (mVar 0) mNil)) (mC (.int 1)))) (tNotM (tru (mCallN 2 f_has_shape (mCons (mBin atF (mVar 0) (mC (.int 1))) (mCons (mBin addF (mC g_DEEPEST_formulas) (mC (.int 4))) mNil)))))) (sRet (mC (.bl false))) sNext) (sRet (mCall allF (mCons (mCompS (mSl (mVar 0) (pSome (mC (.int 2))) pNone) (gName 2) tTrue (mCallN 2 f_has_form_sequents (mCons (mVar 2) (mCons (mBin subF (mVar 1) (mC (.int 1))) mNil))) [2]) mNil))))))
def b_premises (f_with_one : F1) : MS := (sSeq (sSet (mVar 0) (gTup 2 (gsCons (gName 2) (gsCons (gName 3) gsNil)))) (sSeq (sSet (mBin atF (mVar 1) (mC (.int 0))) (gName 4)) (sSeq (sIf (tru (mBin eqF (mVar 4) (mC (.str "false")))) (sRet (mIf (tru (mBin inF (mC g_FALSE) (mVar 2))) (mLst mNil) (mC .non))) sNext) (sSeq (sSet (mBin atF (mVar 1) (mC (.int 1))) (gName 5)) (sSeq (sIf (tru (mBin eqF (mVar 4) (mC (.str "axiom")))) (sRet (mIf (tAndM (tru (mBin inF (mVar 5) (mVar 2))) (tru (mBin inF (mVar 5) (mVar 3)))) (mLst mNil) (mC .non))) sNext) (sSeq (sIf (tru (mBin eqF (mVar 4) (mC (.str "cut")))) (sRet (mLst (mCons (mTup (mCons (mVar 2) (mCons (mCallN 2 f_with_one (mCons (mVar 3) (mCons (mVar 5) mNil))) mNil))) (mCons (mTup (mCons (mCallN 2 f_with_one (mCons (mVar 2) (mCons (mVar 5) mNil))) (mCons (mVar 3) mNil))) mNil)))) sNext) (sSeq (sIf (tOrM (tru (mBin ninF (mBin atF (mVar 5) (mC (.int 0))) (mC g_PAIRS))) (tru (mBin ninF (mVar 4) (mTup (mCons (mBin addF (mBin atF (mVar 5) (mC (.int 0))) (mC (.str "left"))) (mCons (mBin addF (mBin atF (mVar 5) (mC (.int 0))) (mC (.str "right"))) mNil)))))) (sRet (mC .non)) sNext) (sSeq (sIf (tru (mBin ninF (mVar 5) (mIf (tru (mMetS (fun a b => .bl (Txt.endswith a b)) (mVar 4) (mC (.str "left")))) (mVar 2) (mVar 3)))) (sRet (mC .non)) sNext) (sSeq (sPar 6 7 (mBin atF (mVar 5) (mC (.int 1))) (mBin atF (mVar 5) (mC (.int 2)))) (sSeq (sIf (tru (mBin eqF (mVar 4) (mC (.str "andleft")))) (sRet (mLst (mCons (mTup (mCons (mCallN 2 f_with_one (mCons (mCallN 2 f_with_one (mCons (mVar 2) (mCons (mVar 6) mNil))) (mCons (mVar 7) mNil))) (mCons (mVar 3) mNil))) mNil))) sNext) (sSeq (sIf (tru (mBin eqF (mVar 4) (mC (.str "orleft")))) (sRet (mLst (mCons (mTup (mCons (mCallN 2 f_with_one (mCons (mVar 2) (mCons (mVar 6) mNil))) (mCons (mVar 3) mNil))) (mCons (mTup (mCons (mCallN 2 f_with_one (mCons (mVar 2) (mCons (mVar 7) mNil))) (mCons (mVar 3) mNil))) mNil)))) sNext) (sSeq (sIf (tru (mBin eqF (mVar 4) (mC (.str "ifleft")))) (sRet (mLst (mCons (mTup (mCons (mVar 2) (mCons (mCallN 2 f_with_one (mCons (mVar 3) (mCons (mVar 6) mNil))) mNil))) (mCons (mTup (mCons (mCallN 2 f_with_one (mCons (mVar 2) (mCons (mVar 7) mNil))) (mCons (mVar 3) mNil))) mNil)))) sNext) (sSeq (sIf (tru (mBin eqF (mVar 4) (mC (.str "andright")))) (sRet (mLst (mCons (mTup (mCons (mVar 2) (mCons (mCallN 2 f_with_one (mCons (mVar 3) (mCons (mVar 6) mNil))) mNil))) (mCons (mTup (mCons (mVar 2) (mCons (mCallN 2 f_with_one (mCons (mVar 3) (mCons (mVar 7) mNil))) mNil))) mNil)))) sNext) (sSeq (sIf (tru (mBin eqF (mVar 4) (mC (.str "orright")))) (sRet (mLst (mCons (mTup (mCons (mVar 2) (mCons (mCallN 2 f_with_one (mCons (mCallN 2 f_with_one (mCons (mVar 3) (mCons (mVar 6) mNil))) (mCons (mVar 7) mNil))) mNil))) mNil))) sNext) (sRet (mLst (mCons (mTup (mCons (mCallN 2 f_with_one (mCons (mVar 2) (mCons (mVar 6) mNil))) (mCons (mCallN 2 f_with_one (mCons (mVar 3) (mCons (mVar 7) mNil))) mNil))) mNil)))))))))))))))))
def b_step_fault (f_premises : F1) (f_step_fault : F1) : MS := (sSeq (sIf (tAndM (tru (mBin eqF (mBin atF (mVar 1) (mC (.int 0))) (mC (.str "cut")))) (tNotM (tru (mVar 3)))) (sRet (mTup (mCons (mTup (mCons (mC (.str "cut")) (mCons (mVar 2) mNil))) (mCons (mBin addF (mVar 2) (mC (.int 1))) mNil)))) sNext) (sSeq (sSet (mCallN 2 f_premises (mCons (mVar 0) (mCons (mVar 1) mNil))) (gName 4)) (sSeq (sIf (tru (mUn isNF (mVar 4))) (sRet (mTup (mCons (mTup (mCons (mC (.str "step")) (mCons (mVar 2) mNil))) (mCons (mBin addF (mVar 2) (mC (.int 1))) mNil)))) sNext) (sSeq (sSet (mBin addF (mVar 2) (mC (.int 1))) (gName 5)) (sSeq (sFor (iZipM (mVar 4) (mSl (mVar 1) (pSome (mC (.int 2))) pNone)) (gTup 2 (gsCons (gName 6) (gsCons (gName 7) gsNil))) (sSeq (sSet (mCallN 4 f_step_fault (mCons (mVar 6) (mCons (mVar 7) (mCons (mVar 5) (mCons (mVar 3) mNil))))) (gTup 2 (gsCons (gName 8) (gsCons (gName 5) gsNil)))) (sIf (tru (mUn notNF (mVar 8))) (sRet (mTup (mCons (mVar 8) (mCons (mVar 5) mNil)))) sNext))) (sRet (mTup (mCons (mC .non) (mCons (mVar 5) mNil)))))))))
def b_sequent_fault (f_has_form_sequents : F1) (f_step_fault : F1) : MS := (sSeq (sIf (tNotM (tru (mCallN 2 f_has_form_sequents (mCons (mVar 1) (mCons (mC g_DEEPEST_PROOF_sequents) mNil))))) (sRet (mC g_FORM_sequents)) sNext) (sRet (mBin atF (mCallN 4 f_step_fault (mCons (mVar 0) (mCons (mVar 1) (mCons (mC (.int 0)) (mCons (mVar 2) mNil))))) (mC (.int 0)))))
def b_step_for (f_premises : F1) : MS := (sSeq (sFor (iZipM (mTup (mCons (mC (.str "left")) (mCons (mC (.str "right")) mNil))) (mVar 0)) (gTup 2 (gsCons (gName 1) (gsCons (gName 2) gsNil))) (sForS (mVar 2) (gName 3) (sSeq (sSet (mTup (mCons (mBin addF (mBin atF (mVar 3) (mC (.int 0))) (mVar 1)) (mCons (mVar 3) mNil))) (gName 4)) (sIf (tAndM (tru (mBin inF (mBin atF (mVar 3) (mC (.int 0))) (mC g_PAIRS))) (tru (mBin ninF (mVar 0) (mCallN 2 f_premises (mCons (mVar 0) (mCons (mVar 4) mNil)))))) (sRet (mVar 4)) sNext)))) (sRet (mC .non)))
def b_has_form_deductions (f_has_form_deductions : F1) (f_has_shape : F1) : MS := (sSeq (sIf (tOrM (tNotM (tru (mIsi "tuple" (mVar 0)))) (tOrM (tru (mBin eqF (mCall lenF (mCons (mVar 0) mNil)) (mC (.int 0)))) (tOrM (tNotM (tru (mIsi "str" (mBin atF (mVar 0) (mC (.int 0)))))) (tru (mKIn true k_SIZES_deductions (mBin atF (mVar 0) (mC (.int 0)))))))) (sRet (mC (.bl false))) sNext) (sSeq (sSet (mKGet k_SIZES_deductions (mBin atF (mVar 0) (mC (.int 0)))) (gTup 2 (gsCons (gName 2) (gsCons (gName 3) gsNil)))) (sSeq (sIf (tOrM (tru (mBin eqF (mVar 1) (mC (.int 0)))) (tru (mBin neF (mCall lenF (mCons (mVar 0) mNil)) (mBin addF (mBin addF (mC (.int 1)) (mVar 2)) (mVar 3))))) (sRet (mC (.bl false))) sNext) (sSeq (sIf (tAndM (tru (mBin eqF (mVar 2) (mC (.int 1)))) (tNotM (tru (mCallN 2 f_has_shape (mCons (mBin atF (mVar 0) (mC (.int 1))) (mCons (mBin addF (mC g_DEEPEST_formulas) (mC (.int 6))) mNil)))))) (sRet (mC (.bl false))) sNext) (sRet (mCall allF (mCons (mCompS (mSl (mVar 0) (pSome (mBin addF (mC (.int 1)) (mVar 2))) pNone) (gName 4) tTrue (mCallN 2 f_has_form_deductions (mCons (mVar 4) (mCons (mBin subF (mVar 1) (mC (.int 1))) mNil))) [4]) mNil)))))))
def b_uppers : MS := (sRet (mSl (mVar 0) (pSome (mBin addF (mC (.int 1)) (mBin atF (mKGet k_SIZES_deductions (mBin atF (mVar 0) (mC (.int 0)))) (mC (.int 0))))) pNone))
def b_result_of : MS := (sSeq (sSet (mBin atF (mVar 0) (mC (.int 0))) (gName 2)) (sSeq (sIf (tru (mBin eqF (mVar 2) (mC (.str "assume")))) (sRet (mBin atF (mVar 0) (mC (.int 1)))) sNext) (sSeq (sIf (tru (mBin eqF (mVar 2) (mC (.str "ifin")))) (sRet (mTup (mCons (mC (.str "if")) (mCons (mBin atF (mVar 0) (mC (.int 1))) (mCons (mBin atF (mVar 1) (mC (.int 0))) mNil))))) sNext) (sSeq (sIf (tru (mBin eqF (mVar 2) (mC (.str "ifout")))) (sRet (mIf (tAndM (tru (mBin eqF (mBin atF (mBin atF (mVar 1) (mC (.int 0))) (mC (.int 0))) (mC (.str "if")))) (tru (mBin eqF (mBin atF (mBin atF (mVar 1) (mC (.int 0))) (mC (.int 1))) (mBin atF (mVar 1) (mC (.int 1)))))) (mBin atF (mBin atF (mVar 1) (mC (.int 0))) (mC (.int 2))) (mC .non))) sNext) (sSeq (sIf (tru (mBin eqF (mVar 2) (mC (.str "andin")))) (sRet (mTup (mCons (mC (.str "and")) (mCons (mBin atF (mVar 1) (mC (.int 0))) (mCons (mBin atF (mVar 1) (mC (.int 1))) mNil))))) sNext) (sSeq (sIf (tru (mBin inF (mVar 2) (mTup (mCons (mC (.str "andout1")) (mCons (mC (.str "andout2")) mNil))))) (sRet (mIf (tru (mBin eqF (mBin atF (mBin atF (mVar 1) (mC (.int 0))) (mC (.int 0))) (mC (.str "and")))) (mBin atF (mBin atF (mVar 1) (mC (.int 0))) (mLastDigit (mVar 2))) (mC .non))) sNext) (sSeq (sIf (tru (mBin eqF (mVar 2) (mC (.str "orin1")))) (sRet (mTup (mCons (mC (.str "or")) (mCons (mBin atF (mVar 1) (mC (.int 0))) (mCons (mBin atF (mVar 0) (mC (.int 1))) mNil))))) sNext) (sSeq (sIf (tru (mBin eqF (mVar 2) (mC (.str "orin2")))) (sRet (mTup (mCons (mC (.str "or")) (mCons (mBin atF (mVar 0) (mC (.int 1))) (mCons (mBin atF (mVar 1) (mC (.int 0))) mNil))))) sNext) (sSeq (sIf (tru (mBin eqF (mVar 2) (mC (.str "orout")))) (sRet (mIf (tAndM (tru (mBin eqF (mBin atF (mBin atF (mVar 1) (mC (.int 0))) (mC (.int 0))) (mC (.str "or")))) (tru (mBin eqF (mBin atF (mVar 1) (mC (.int 1))) (mBin atF (mVar 1) (mC (.int 2)))))) (mBin atF (mVar 1) (mC (.int 1))) (mC .non))) sNext) (sRet (mIf (tru (mBin eqF (mBin atF (mVar 1) (mC (.int 0))) (mC g_FALSE))) (mBin atF (mVar 0) (mC (.int 1))) (mC .non))))))))))))
def b_open_of (f_contrary : F1) : MS := (sSeq (sIf (tru (mBin eqF (mBin atF (mVar 0) (mC (.int 0))) (mC (.str "assume")))) (sRet (mTup (mCons (mBin atF (mVar 0) (mC (.int 1))) mNil))) sNext) (sSeq (sSet (mNewL mNil) (gName 3)) (sSeq (sFor (iRg1M (mCons (mCall lenF (mCons (mVar 2) mNil)) mNil)) (gName 4) (sSeq (sSet (mC .non) (gName 5)) (sSeq (sIf (tru (mBin eqF (mBin atF (mVar 0) (mC (.int 0))) (mC (.str "ifin")))) (sSet (mBin atF (mVar 0) (mC (.int 1))) (gName 5)) (sIf (tru (mBin eqF (mBin atF (mVar 0) (mC (.int 0))) (mC (.str "contra")))) (sSet (mCallN 1 f_contrary (mCons (mBin atF (mVar 0) (mC (.int 1))) mNil)) (gName 5)) (sIf (tAndM (tru (mBin eqF (mBin atF (mVar 0) (mC (.int 0))) (mC (.str "orout")))) (tru (mBin gtF (mVar 4) (mC (.int 0))))) (sSet (mBin atF (mBin atF (mVar 1) (mC (.int 0))) (mVar 4)) (gName 5)) sNext))) (sDrop (mMetL extendF (mVar 3) (mCons (mCompS (mBin atF (mVar 2) (mVar 4)) (gName 6) (tru (mBin neF (mVar 6) (mVar 5))) (mVar 6) [6]) mNil)))))) (sRet (mCall tupleF (mCons (mUn sortSetF (mVar 3)) mNil))))))
def b_worked_deductions (f_open_of : F1) (f_result_of : F1) (f_uppers : F1) (f_worked_deductions : F1) : MS := (sSeq (sPar 2 3 (mNewL mNil) (mNewL mNil)) (sSeq (sSet (mVar 1) (gName 4)) (sSeq (sForS (mCallN 1 f_uppers (mCons (mVar 0) mNil)) (gName 5) (sSeq (sSet (mCallN 2 f_worked_deductions (mCons (mVar 5) (mCons (mVar 4) mNil))) (gTup 3 (gsCons (gName 6) (gsCons (gName 7) (gsCons (gName 4) gsNil))))) (sSeq (sIf (tru (mUn notNF (mVar 7))) (sRet (mTup (mCons (mC .non) (mCons (mVar 7) (mCons (mVar 4) mNil))))) sNext) (sSeq (sDrop (mMetL appendF (mVar 2) (mCons (mBin atF (mVar 6) (mC (.int 0))) mNil))) (sDrop (mMetL appendF (mVar 3) (mCons (mBin atF (mVar 6) (mC (.int 1))) mNil))))))) (sSeq (sSet (mCallN 2 f_result_of (mCons (mVar 0) (mCons (mVar 2) mNil))) (gName 8)) (sSeq (sIf (tru (mUn isNF (mVar 8))) (sRet (mTup (mCons (mC .non) (mCons (mTup (mCons (mC (.str "step")) (mCons (mVar 4) mNil))) (mCons (mBin addF (mVar 4) (mC (.int 1))) mNil))))) sNext) (sRet (mTup (mCons (mTup (mCons (mVar 8) (mCons (mCallN 3 f_open_of (mCons (mVar 0) (mCons (mVar 2) (mCons (mVar 3) mNil)))) mNil))) (mCons (mC .non) (mCons (mBin addF (mVar 4) (mC (.int 1))) mNil))))))))))
def b_told_by (f_worked_deductions : F1) : MS := (sRet (mBin atF (mCallN 2 f_worked_deductions (mCons (mVar 0) (mCons (mC (.int 0)) mNil))) (mC (.int 0))))
def b_deduction_fault (f_has_form_deductions : F1) (f_worked_deductions : F1) : MS := (sSeq (sIf (tNotM (tru (mCallN 2 f_has_form_deductions (mCons (mVar 2) (mCons (mC g_DEEPEST_PROOF_deductions) mNil))))) (sRet (mC g_FORM_deductions)) sNext) (sSeq (sSet (mCallN 2 f_worked_deductions (mCons (mVar 2) (mCons (mC (.int 0)) mNil))) (gTup 3 (gsCons (gName 3) (gsCons (gName 4) (gsCons (gName 5) gsNil))))) (sSeq (sIf (tru (mUn notNF (mVar 4))) (sRet (mVar 4)) sNext) (sSeq (sIf (tru (mBin neF (mBin atF (mVar 3) (mC (.int 0))) (mVar 1))) (sRet (mTup (mCons (mC (.str "goal")) (mCons (mC (.int 0)) mNil)))) sNext) (sSeq (sSet (mCompS (mBin atF (mVar 3) (mC (.int 1))) (gName 7) (tru (mBin ninF (mVar 7) (mVar 0))) (mVar 7) [7]) (gName 6)) (sRet (mIf (tru (mBin gtF (mCall lenF (mCons (mVar 6) mNil)) (mC (.int 0)))) (mTup (mCons (mC (.str "open")) (mCons (mCall lenF (mCons (mVar 6) mNil)) mNil))) (mC .non))))))))
def b_to_cuts (f_contrary : F1) (f_to_cuts : F1) (f_told_by : F1) (f_uppers : F1) : MS := (sSeq (sSet (mBin atF (mVar 0) (mC (.int 0))) (gName 1)) (sSeq (sIf (tru (mBin eqF (mVar 1) (mC (.str "assume")))) (sRet (mTup (mCons (mC (.str "axiom")) (mCons (mBin atF (mVar 0) (mC (.int 1))) mNil)))) sNext) (sSeq (sSet (mCompS (mCallN 1 f_uppers (mCons (mVar 0) mNil)) (gName 6) tTrue (mCallN 1 f_to_cuts (mCons (mVar 6) mNil)) [6]) (gName 2)) (sSeq (sSet (mCompS (mCallN 1 f_uppers (mCons (mVar 0) mNil)) (gName 6) tTrue (mBin atF (mCallN 1 f_told_by (mCons (mVar 6) mNil)) (mC (.int 0))) [6]) (gName 3)) (sSeq (sSet (mBin atF (mCallN 1 f_told_by (mCons (mVar 0) mNil)) (mC (.int 0))) (gName 4)) (sSeq (sIf (tru (mBin eqF (mVar 1) (mC (.str "ifin")))) (sRet (mTup (mCons (mC (.str "ifright")) (mCons (mVar 4) (mCons (mBin atF (mVar 2) (mC (.int 0))) mNil))))) sNext) (sSeq (sIf (tru (mBin eqF (mVar 1) (mC (.str "ifout")))) (sRet (mTup (mCons (mC (.str "cut")) (mCons (mBin atF (mVar 3) (mC (.int 0))) (mCons (mBin atF (mVar 2) (mC (.int 0))) (mCons (mTup (mCons (mC (.str "ifleft")) (mCons (mBin atF (mVar 3) (mC (.int 0))) (mCons (mBin atF (mVar 2) (mC (.int 1))) (mCons (mTup (mCons (mC (.str "axiom")) (mCons (mVar 4) mNil))) mNil))))) mNil)))))) sNext) (sSeq (sIf (tru (mBin eqF (mVar 1) (mC (.str "andin")))) (sRet (mTup (mCons (mC (.str "andright")) (mCons (mVar 4) (mCons (mBin atF (mVar 2) (mC (.int 0))) (mCons (mBin atF (mVar 2) (mC (.int 1))) mNil)))))) sNext) (sSeq (sIf (tru (mBin inF (mVar 1) (mTup (mCons (mC (.str "andout1")) (mCons (mC (.str "andout2")) mNil))))) (sRet (mTup (mCons (mC (.str "cut")) (mCons (mBin atF (mVar 3) (mC (.int 0))) (mCons (mBin atF (mVar 2) (mC (.int 0))) (mCons (mTup (mCons (mC (.str "andleft")) (mCons (mBin atF (mVar 3) (mC (.int 0))) (mCons (mTup (mCons (mC (.str "axiom")) (mCons (mVar 4) mNil))) mNil)))) mNil)))))) sNext) (sSeq (sIf (tru (mBin inF (mVar 1) (mTup (mCons (mC (.str "orin1")) (mCons (mC (.str "orin2")) mNil))))) (sRet (mTup (mCons (mC (.str "orright")) (mCons (mVar 4) (mCons (mBin atF (mVar 2) (mC (.int 0))) mNil))))) sNext) (sSeq (sIf (tru (mBin eqF (mVar 1) (mC (.str "orout")))) (sRet (mTup (mCons (mC (.str "cut")) (mCons (mBin atF (mVar 3) (mC (.int 0))) (mCons (mBin atF (mVar 2) (mC (.int 0))) (mCons (mTup (mCons (mC (.str "orleft")) (mCons (mBin atF (mVar 3) (mC (.int 0))) (mCons (mBin atF (mVar 2) (mC (.int 1))) (mCons (mBin atF (mVar 2) (mC (.int 2))) mNil))))) mNil)))))) sNext) (sSeq (sSet (mTup (mCons (mC (.str "cut")) (mCons (mC g_FALSE) (mCons (mBin atF (mVar 2) (mC (.int 0))) (mCons (mTup (mCons (mC (.str "false")) mNil)) mNil))))) (gName 5)) (sSeq (sIf (tru (mBin eqF (mVar 1) (mC (.str "falseout")))) (sRet (mVar 5)) sNext) (sRet (mTup (mCons (mC (.str "cut")) (mCons (mCallN 1 f_contrary (mCons (mVar 4) mNil)) (mCons (mTup (mCons (mC (.str "ifright")) (mCons (mCallN 1 f_contrary (mCons (mVar 4) mNil)) (mCons (mTup (mCons (mC (.str "axiom")) (mCons (mVar 4) mNil))) mNil)))) (mCons (mVar 5) mNil)))))))))))))))))))
def b_is_plain (f_is_plain : F1) (f_uppers : F1) : MS := (sRet (mAndE (mBin neF (mBin atF (mVar 0) (mC (.int 0))) (mC (.str "contra"))) (mCall allF (mCons (mCompS (mCallN 1 f_uppers (mCons (mVar 0) mNil)) (gName 1) tTrue (mCallN 1 f_is_plain (mCons (mVar 1) mNil)) [1]) mNil))))
def b__law_pool : MS := (sSeq (sSet (mC (.int 7)) (gName 1)) (sSeq (sForS (mSl (mVar 0) pNone (pSome (mC (.int 63)))) (gName 2) (sSet (mBin modF (mCall intF (mCons (mBin addF (mBin mulF (mVar 1) (mC (.int 31))) (mVar 2)) mNil)) (mC (.int 1000003))) (gName 1))) (sRet (mNewL (mCons (mCall listF (mCons (mVar 0) mNil)) (mCons (mC (.int 0)) (mCons (mC (.int 0)) (mCons (mC (.int 0)) (mCons (mVar 1) mNil)))))))))
def b__law_deny : MS := (sRet (mTup (mCons (mC (.str "if")) (mCons (mVar 0) (mCons (mTup (mCons (mC (.str "false")) mNil)) mNil)))))
def b__law_spread : MS := (sSeq (sSet (mBin modF (mCall intF (mCons (mVar 0) mNil)) (mC (.int 2147483647))) (gName 1)) (sSeq (sSet (mC (.int 1)) (gName 2)) (sSeq (sFor (iRg1M (mCons (mC (.int 4)) mNil)) (gName 3) (sSeq (sSet (mBin modF (mCall intF (mCons (mBin addF (mBin addF (mBin mulF (mVar 1) (mC (.int 48271))) (mC (.int 12345))) (mVar 3)) mNil)) (mC (.int 2147483647))) (gName 1)) (sSet (mBin addF (mBin mulF (mVar 2) (mC (.int 2147483647))) (mVar 1)) (gName 2)))) (sRet (mVar 2)))))
def b__law_draw (f__law_spread : F1) : MS := (sSeq (sIf (tAndM (tru (mBin leF (mBin atF (mVar 0) (mC (.int 2))) (mC (.int 0)))) (tru (mBin ltF (mBin atF (mVar 0) (mC (.int 1))) (mCall lenF (mCons (mBin atF (mVar 0) (mC (.int 0))) mNil))))) (sSeq (sSet (mBin atF (mBin atF (mVar 0) (mC (.int 0))) (mBin atF (mVar 0) (mC (.int 1)))) (gName 2)) (sSeq (sSet (mBin addF (mBin atF (mVar 0) (mC (.int 1))) (mC (.int 1))) (gSub (mVar 0) (mC (.int 1)) setL)) (sSeq (sSet (mVar 2) (gSub (mVar 0) (mC (.int 2)) setL)) (sIf (tru (mBin ltF (mVar 2) (mC (.int 1000000000000000000)))) (sSet (mCallN 1 f__law_spread (mCons (mVar 2) mNil)) (gSub (mVar 0) (mC (.int 2)) setL)) sNext)))) sNext) (sSeq (sSet (mBin addF (mBin atF (mVar 0) (mC (.int 3))) (mC (.int 1))) (gSub (mVar 0) (mC (.int 3)) setL)) (sSeq (sIf (tru (mBin leF (mBin atF (mVar 0) (mC (.int 2))) (mC (.int 0)))) (sSeq (sSet (mBin modF (mCall intF (mCons (mBin addF (mBin addF (mBin mulF (mBin atF (mVar 0) (mC (.int 4))) (mC (.int 48271))) (mBin mulF (mBin atF (mVar 0) (mC (.int 3))) (mC (.int 69621)))) (mC (.int 1))) mNil)) (mC (.int 2147483647))) (gName 3)) (sSeq (sSet (mBin modF (mCall intF (mCons (mBin addF (mBin mulF (mVar 3) (mC (.int 16807))) (mBin atF (mVar 0) (mC (.int 3)))) mNil)) (mC (.int 2147483629))) (gName 3)) (sRet (mBin modF (mBin fdivF (mVar 3) (mC (.int 5))) (mVar 1))))) sNext) (sSeq (sSet (mBin modF (mCall intF (mCons (mBin atF (mVar 0) (mC (.int 2))) mNil)) (mVar 1)) (gName 4)) (sSeq (sSet (mBin fdivF (mBin atF (mVar 0) (mC (.int 2))) (mVar 1)) (gSub (mVar 0) (mC (.int 2)) setL)) (sRet (mVar 4)))))))
def b__law_pick (f__law_draw : F1) : MS := (sRet (mBin atF (mVar 1) (mCallN 2 f__law_draw (mCons (mVar 0) (mCons (mCall lenF (mCons (mVar 1) mNil)) mNil)))))
def b__law_little (f__law_draw : F1) (f__law_little : F1) : MS := (sSeq (sIf (tOrM (tru (mBin eqF (mVar 1) (mC (.int 0)))) (tru (mBin eqF (mCallN 2 f__law_draw (mCons (mVar 0) (mCons (mC (.int 4)) mNil))) (mC (.int 0))))) (sRet (mIf (tru (mBin gtF (mCallN 2 f__law_draw (mCons (mVar 0) (mCons (mC (.int 9)) mNil))) (mC (.int 0)))) (mTup (mCons (mC (.str "letter")) (mCons (mCallN 2 f__law_draw (mCons (mVar 0) (mCons (mVar 2) mNil))) mNil))) (mTup (mCons (mC (.str "false")) mNil)))) sNext) (sSeq (sSet (mBin atF (mTup (mCons (mC (.str "if")) (mCons (mC (.str "if")) (mCons (mC (.str "and")) (mCons (mC (.str "or")) mNil))))) (mCallN 2 f__law_draw (mCons (mVar 0) (mCons (mC (.int 4)) mNil)))) (gName 3)) (sSeq (sSet (mCallN 3 f__law_little (mCons (mVar 0) (mCons (mBin subF (mVar 1) (mC (.int 1))) (mCons (mVar 2) mNil)))) (gName 4)) (sRet (mTup (mCons (mVar 3) (mCons (mVar 4) (mCons (mCallN 3 f__law_little (mCons (mVar 0) (mCons (mBin subF (mVar 1) (mC (.int 1))) (mCons (mVar 2) mNil)))) mNil))))))))
def b_size (f_size : F1) (f_uppers : F1) : MS := (sRet (mBin addF (mC (.int 1)) (mCall sumF (mCons (mCompS (mCallN 1 f_uppers (mCons (mVar 0) mNil)) (gName 1) tTrue (mCallN 1 f_size (mCons (mVar 1) mNil)) [1]) mNil))))
def b_denied (f_contrary : F1) : MS := (sRet (mTup (mCons (mC (.str "ifin")) (mCons (mCallN 1 f_contrary (mCons (mVar 0) mNil)) (mCons (mVar 1) mNil)))))
def b_clash_doubles (f_contrary : F1) : MS := (sRet (mTup (mCons (mC (.str "ifout")) (mCons (mTup (mCons (mC (.str "assume")) (mCons (mCallN 1 f_contrary (mCons (mVar 0) mNil)) mNil))) (mCons (mVar 1) mNil)))))
def b_taken : MS := (sRet (mTup (mCons (mC (.str "ifout")) (mCons (mVar 0) (mCons (mTup (mCons (mC (.str "ifin")) (mCons (mVar 1) (mCons (mVar 2) mNil)))) mNil)))))
def b_doubled (f_clash_doubles : F1) (f_contrary : F1) (f_denied : F1) (f_doubled : F1) (f_taken : F1) (f_told_by : F1) (f_uppers : F1) : MS := (sSeq (sSet (mBin atF (mVar 0) (mC (.int 0))) (gName 1)) (sSeq (sSet (mBin atF (mCallN 1 f_told_by (mCons (mVar 0) mNil)) (mC (.int 0))) (gName 2)) (sSeq (sIf (tru (mBin eqF (mVar 1) (mC (.str "assume")))) (sRet (mCallN 2 f_denied (mCons (mVar 2) (mCons (mCallN 2 f_clash_doubles (mCons (mVar 2) (mCons (mVar 0) mNil))) mNil)))) sNext) (sSeq (sSet (mCompS (mCallN 1 f_uppers (mCons (mVar 0) mNil)) (gName 10) tTrue (mCallN 1 f_doubled (mCons (mVar 10) mNil)) [10]) (gName 3)) (sSeq (sSet (mCompS (mCallN 1 f_uppers (mCons (mVar 0) mNil)) (gName 10) tTrue (mBin atF (mCallN 1 f_told_by (mCons (mVar 10) mNil)) (mC (.int 0))) [10]) (gName 4)) (sSeq (sIf (tru (mBin eqF (mVar 1) (mC (.str "ifin")))) (sSeq (sSet (mBin atF (mVar 2) (mC (.int 2))) (gName 5)) (sSeq (sSet (mTup (mCons (mC (.str "ifin")) (mCons (mVar 5) (mCons (mCallN 2 f_clash_doubles (mCons (mVar 2) (mCons (mTup (mCons (mC (.str "ifin")) (mCons (mBin atF (mVar 2) (mC (.int 1))) (mCons (mTup (mCons (mC (.str "assume")) (mCons (mVar 5) mNil))) mNil)))) mNil))) mNil)))) (gName 6)) (sRet (mCallN 2 f_denied (mCons (mVar 2) (mCons (mCallN 2 f_clash_doubles (mCons (mVar 2) (mCons (mTup (mCons (mC (.str "ifin")) (mCons (mBin atF (mVar 2) (mC (.int 1))) (mCons (mTup (mCons (mC (.str "falseout")) (mCons (mVar 5) (mCons (mTup (mCons (mC (.str "ifout")) (mCons (mBin atF (mVar 3) (mC (.int 0))) (mCons (mVar 6) mNil)))) mNil)))) mNil)))) mNil))) mNil)))))) sNext) (sSeq (sIf (tru (mBin eqF (mVar 1) (mC (.str "ifout")))) (sSeq (sSet (mTup (mCons (mC (.str "ifout")) (mCons (mTup (mCons (mC (.str "assume")) (mCons (mBin atF (mVar 4) (mC (.int 0))) mNil))) (mCons (mTup (mCons (mC (.str "assume")) (mCons (mBin atF (mVar 4) (mC (.int 1))) mNil))) mNil)))) (gName 7)) (sRet (mCallN 2 f_denied (mCons (mVar 2) (mCons (mCallN 3 f_taken (mCons (mBin atF (mVar 3) (mC (.int 0))) (mCons (mBin atF (mVar 4) (mC (.int 0))) (mCons (mCallN 3 f_taken (mCons (mBin atF (mVar 3) (mC (.int 1))) (mCons (mBin atF (mVar 4) (mC (.int 1))) (mCons (mCallN 2 f_clash_doubles (mCons (mVar 2) (mCons (mVar 7) mNil))) mNil)))) mNil)))) mNil))))) sNext) (sSeq (sIf (tru (mBin eqF (mVar 1) (mC (.str "andin")))) (sSeq (sSet (mTup (mCons (mC (.str "andin")) (mCons (mTup (mCons (mC (.str "assume")) (mCons (mBin atF (mVar 4) (mC (.int 0))) mNil))) (mCons (mTup (mCons (mC (.str "assume")) (mCons (mBin atF (mVar 4) (mC (.int 1))) mNil))) mNil)))) (gName 8)) (sRet (mCallN 2 f_denied (mCons (mVar 2) (mCons (mCallN 3 f_taken (mCons (mBin atF (mVar 3) (mC (.int 0))) (mCons (mBin atF (mVar 4) (mC (.int 0))) (mCons (mCallN 3 f_taken (mCons (mBin atF (mVar 3) (mC (.int 1))) (mCons (mBin atF (mVar 4) (mC (.int 1))) (mCons (mCallN 2 f_clash_doubles (mCons (mVar 2) (mCons (mVar 8) mNil))) mNil)))) mNil)))) mNil))))) sNext) (sSeq (sIf (tru (mBin inF (mVar 1) (mTup (mCons (mC (.str "andout1")) (mCons (mC (.str "andout2")) mNil))))) (sRet (mCallN 2 f_denied (mCons (mVar 2) (mCons (mCallN 3 f_taken (mCons (mBin atF (mVar 3) (mC (.int 0))) (mCons (mBin atF (mVar 4) (mC (.int 0))) (mCons (mCallN 2 f_clash_doubles (mCons (mVar 2) (mCons (mTup (mCons (mVar 1) (mCons (mTup (mCons (mC (.str "assume")) (mCons (mBin atF (mVar 4) (mC (.int 0))) mNil))) mNil))) mNil))) mNil)))) mNil)))) sNext) (sSeq (sIf (tru (mBin inF (mVar 1) (mTup (mCons (mC (.str "orin1")) (mCons (mC (.str "orin2")) mNil))))) (sRet (mCallN 2 f_denied (mCons (mVar 2) (mCons (mCallN 3 f_taken (mCons (mBin atF (mVar 3) (mC (.int 0))) (mCons (mBin atF (mVar 4) (mC (.int 0))) (mCons (mCallN 2 f_clash_doubles (mCons (mVar 2) (mCons (mTup (mCons (mVar 1) (mCons (mBin atF (mVar 0) (mC (.int 1))) (mCons (mTup (mCons (mC (.str "assume")) (mCons (mBin atF (mVar 4) (mC (.int 0))) mNil))) mNil)))) mNil))) mNil)))) mNil)))) sNext) (sSeq (sIf (tru (mBin eqF (mVar 1) (mC (.str "orout")))) (sSeq (sSet (mCompS (mSl (mVar 3) (pSome (mC (.int 1))) pNone) (gName 10) tTrue (mTup (mCons (mC (.str "ifout")) (mCons (mVar 10) (mCons (mTup (mCons (mC (.str "assume")) (mCons (mCallN 1 f_contrary (mCons (mVar 2) mNil)) mNil))) mNil)))) [10]) (gName 9)) (sRet (mCallN 2 f_denied (mCons (mVar 2) (mCons (mCallN 3 f_taken (mCons (mBin atF (mVar 3) (mC (.int 0))) (mCons (mBin atF (mVar 4) (mC (.int 0))) (mCons (mTup (mCons (mC (.str "orout")) (mCons (mTup (mCons (mC (.str "assume")) (mCons (mBin atF (mVar 4) (mC (.int 0))) mNil))) (mCons (mBin atF (mVar 9) (mC (.int 0))) (mCons (mBin atF (mVar 9) (mC (.int 1))) mNil))))) mNil)))) mNil))))) sNext) (sRet (mCallN 2 f_denied (mCons (mVar 2) (mCons (mTup (mCons (mC (.str "ifout")) (mCons (mBin atF (mVar 3) (mC (.int 0))) (mCons (mTup (mCons (mC (.str "ifin")) (mCons (mC g_FALSE) (mCons (mTup (mCons (mC (.str "assume")) (mCons (mC g_FALSE) mNil))) mNil)))) mNil)))) mNil)))))))))))))))
def b_twice (f_contrary : F1) : MS := (sRet (mCallN 1 f_contrary (mCons (mCallN 1 f_contrary (mCons (mVar 0) mNil)) mNil)))
def b_put_in_shortening (f_contrary : F1) (f_put_in_shortening : F1) (f_told_by : F1) : MS := (sSeq (sSet (mBin atF (mVar 0) (mC (.int 0))) (gName 3)) (sSeq (sIf (tru (mBin eqF (mVar 3) (mC (.str "assume")))) (sRet (mIf (tru (mBin eqF (mBin atF (mVar 0) (mC (.int 1))) (mVar 1))) (mVar 2) (mVar 0))) sNext) (sSeq (sIf (tAndM (tru (mBin eqF (mVar 3) (mC (.str "ifin")))) (tru (mBin eqF (mBin atF (mVar 0) (mC (.int 1))) (mVar 1)))) (sRet (mVar 0)) sNext) (sSeq (sIf (tAndM (tru (mBin eqF (mVar 3) (mC (.str "contra")))) (tru (mBin eqF (mCallN 1 f_contrary (mCons (mBin atF (mVar 0) (mC (.int 1))) mNil)) (mVar 1)))) (sRet (mVar 0)) sNext) (sSeq (sIf (tru (mBin eqF (mVar 3) (mC (.str "orout")))) (sSeq (sSet (mBin atF (mCallN 1 f_told_by (mCons (mBin atF (mVar 0) (mC (.int 1))) mNil)) (mC (.int 0))) (gName 4)) (sSeq (sSet (mCompS (mTup (mCons (mC (.int 1)) (mCons (mC (.int 2)) mNil))) (gName 7) tTrue (mIf (tru (mBin eqF (mBin atF (mVar 4) (mVar 7)) (mVar 1))) (mBin atF (mVar 0) (mBin addF (mVar 7) (mC (.int 1)))) (mCallN 3 f_put_in_shortening (mCons (mBin atF (mVar 0) (mBin addF (mVar 7) (mC (.int 1)))) (mCons (mVar 1) (mCons (mVar 2) mNil))))) [7]) (gName 5)) (sRet (mTup (mCons (mC (.str "orout")) (mCons (mCallN 3 f_put_in_shortening (mCons (mBin atF (mVar 0) (mC (.int 1))) (mCons (mVar 1) (mCons (mVar 2) mNil)))) (mCons (mBin atF (mVar 5) (mC (.int 0))) (mCons (mBin atF (mVar 5) (mC (.int 1))) mNil)))))))) sNext) (sSeq (sSet (mBin addF (mC (.int 1)) (mBin atF (mKGet k_SIZES_deductions (mVar 3)) (mC (.int 0)))) (gName 6)) (sRet (mBin addF (mSl (mVar 0) pNone (pSome (mVar 6))) (mCall tupleF (mCons (mCompS (mSl (mVar 0) (pSome (mVar 6)) pNone) (gName 8) tTrue (mCallN 3 f_put_in_shortening (mCons (mVar 8) (mCons (mVar 1) (mCons (mVar 2) mNil)))) [8]) mNil))))))))))
def b_shorter (f_put_in_shortening : F1) (f_told_by : F1) : MS := (sSeq (sSet (mBin atF (mVar 0) (mC (.int 0))) (gName 1)) (sSeq (sIf (tAndM (tru (mBin eqF (mVar 1) (mC (.str "ifout")))) (tru (mBin eqF (mBin atF (mBin atF (mVar 0) (mC (.int 1))) (mC (.int 0))) (mC (.str "ifin"))))) (sRet (mCallN 3 f_put_in_shortening (mCons (mBin atF (mBin atF (mVar 0) (mC (.int 1))) (mC (.int 2))) (mCons (mBin atF (mBin atF (mVar 0) (mC (.int 1))) (mC (.int 1))) (mCons (mBin atF (mVar 0) (mC (.int 2))) mNil))))) sNext) (sSeq (sIf (tAndM (tru (mBin inF (mVar 1) (mTup (mCons (mC (.str "andout1")) (mCons (mC (.str "andout2")) mNil))))) (tru (mBin eqF (mBin atF (mBin atF (mVar 0) (mC (.int 1))) (mC (.int 0))) (mC (.str "andin"))))) (sRet (mBin atF (mBin atF (mVar 0) (mC (.int 1))) (mLastDigit (mVar 1)))) sNext) (sSeq (sIf (tAndM (tru (mBin eqF (mVar 1) (mC (.str "orout")))) (tru (mBin inF (mBin atF (mBin atF (mVar 0) (mC (.int 1))) (mC (.int 0))) (mTup (mCons (mC (.str "orin1")) (mCons (mC (.str "orin2")) mNil)))))) (sSeq (sSet (mLastDigit (mBin atF (mBin atF (mVar 0) (mC (.int 1))) (mC (.int 0)))) (gName 2)) (sRet (mCallN 3 f_put_in_shortening (mCons (mBin atF (mVar 0) (mBin addF (mC (.int 1)) (mVar 2))) (mCons (mBin atF (mBin atF (mCallN 1 f_told_by (mCons (mBin atF (mVar 0) (mC (.int 1))) mNil)) (mC (.int 0))) (mVar 2)) (mCons (mBin atF (mBin atF (mVar 0) (mC (.int 1))) (mC (.int 2))) mNil)))))) sNext) (sRet (mC .non))))))
def b_roundabouts (f_roundabouts : F1) (f_shorter : F1) (f_uppers : F1) : MS := (sRet (mBin addF (mCall intF (mCons (mUn notNF (mCallN 1 f_shorter (mCons (mVar 0) mNil))) mNil)) (mCall sumF (mCons (mCompS (mCallN 1 f_uppers (mCons (mVar 0) mNil)) (gName 1) tTrue (mCallN 1 f_roundabouts (mCons (mVar 1) mNil)) [1]) mNil))))
def b_once (f_once : F1) (f_shorter : F1) : MS := (sSeq (sSet (mCallN 1 f_shorter (mCons (mVar 0) mNil)) (gName 1)) (sSeq (sIf (tru (mUn notNF (mVar 1))) (sRet (mVar 1)) sNext) (sSeq (sSet (mBin addF (mC (.int 1)) (mBin atF (mKGet k_SIZES_deductions (mBin atF (mVar 0) (mC (.int 0)))) (mC (.int 0)))) (gName 2)) (sSeq (sFor (iRg2M (mCons (mVar 2) (mCons (mCall lenF (mCons (mVar 0) mNil)) mNil))) (gName 3) (sSeq (sSet (mCallN 1 f_once (mCons (mBin atF (mVar 0) (mVar 3)) mNil)) (gName 4)) (sIf (tru (mUn notNF (mVar 4))) (sRet (mBin addF (mBin addF (mSl (mVar 0) pNone (pSome (mVar 3))) (mTup (mCons (mVar 4) mNil))) (mSl (mVar 0) (pSome (mBin addF (mVar 3) (mC (.int 1)))) pNone))) sNext))) (sRet (mC .non))))))
def b_shortened (f_once : F1) : MS := (sSeq (sFor (iRg1M (mCons (mVar 1) mNil)) (gName 2) (sSeq (sSet (mCallN 1 f_once (mCons (mVar 0) mNil)) (gName 3)) (sSeq (sIf (tru (mUn isNF (mVar 3))) (sRet (mVar 0)) sNext) (sSet (mVar 3) (gName 0))))) (sRet (mVar 0)))
end Law

set_option Elab.async false
set_option linter.all false
set_option maxRecDepth 100000
set_option maxHeartbeats 4000000
namespace Law
open PySem PySem.Spec L2 G
def top (i : Nat) : Stmt := PySem.Challenge.pw_everyproof_k80_whole_assumptions_let_go.main.body.getD i (.Pass ⟨0, 0, 0, 0⟩)
def inn (i j : Nat) : Stmt := (C8.clsBody (top i)).getD j (.Pass ⟨0, 0, 0, 0⟩)
def b_law (f__law_deny : F1) (f__law_little : F1) (f__law_pick : F1) (f__law_pool : F1) (f_deduction_fault : F1) (f_doubled : F1) (f_is_plain : F1) (f_roundabouts : F1) (f_sequent_fault : F1) (f_shortened : F1) (f_size : F1) (f_to_cuts : F1) (f_told_by : F1) (f_twice : F1) : MS := (sSeq (sSet (mCallN 1 f__law_pool (mCons (mVar 0) mNil)) (gName 1)) (sSeq (sSet (mComp (iRg1M (mCons (mC (.int 3)) mNil)) (gName 17) tTrue (mCallN 3 f__law_little (mCons (mVar 1) (mCons (mC (.int 1)) (mCons (mC (.int 3)) mNil)))) [17]) (gLstG 3 (gsCons (gName 2) (gsCons (gName 3) (gsCons (gName 4) gsNil))))) (sSeq (sSet (mCallN 2 f__law_pick (mCons (mVar 1) (mCons (mLst (mCons (mTup (mCons (mC (.str "assume")) (mCons (mVar 3) mNil))) (mCons (mTup (mCons (mC (.str "orin1")) (mCons (mVar 4) (mCons (mTup (mCons (mC (.str "assume")) (mCons (mVar 3) mNil))) mNil)))) (mCons (mTup (mCons (mC (.str "andin")) (mCons (mTup (mCons (mC (.str "assume")) (mCons (mVar 2) mNil))) (mCons (mTup (mCons (mC (.str "assume")) (mCons (mVar 3) mNil))) mNil)))) (mCons (mTup (mCons (mC (.str "ifin")) (mCons (mVar 4) (mCons (mTup (mCons (mC (.str "assume")) (mCons (mVar 3) mNil))) mNil)))) (mCons (mTup (mCons (mC (.str "ifout")) (mCons (mTup (mCons (mC (.str "assume")) (mCons (mTup (mCons (mC (.str "if")) (mCons (mVar 3) (mCons (mVar 2) mNil)))) mNil))) (mCons (mTup (mCons (mC (.str "assume")) (mCons (mVar 3) mNil))) mNil)))) (mCons (mTup (mCons (mC (.str "falseout")) (mCons (mVar 4) (mCons (mTup (mCons (mC (.str "ifout")) (mCons (mTup (mCons (mC (.str "assume")) (mCons (mCallN 1 f__law_deny (mCons (mVar 3) mNil)) mNil))) (mCons (mTup (mCons (mC (.str "assume")) (mCons (mVar 3) mNil))) mNil)))) mNil)))) (mCons (mTup (mCons (mC (.str "contra")) (mCons (mVar 4) (mCons (mTup (mCons (mC (.str "ifout")) (mCons (mTup (mCons (mC (.str "assume")) (mCons (mCallN 1 f__law_deny (mCons (mVar 3) mNil)) mNil))) (mCons (mTup (mCons (mC (.str "assume")) (mCons (mVar 3) mNil))) mNil)))) mNil)))) mNil)))))))) mNil))) (gName 5)) (sSeq (sSet (mCallN 1 f_told_by (mCons (mVar 5) mNil)) (gTup 2 (gsCons (gName 6) (gsCons (gName 7) gsNil)))) (sSeq (sIf (tOrM (tru (mUn notNF (mCallN 3 f_deduction_fault (mCons (mVar 7) (mCons (mVar 6) (mCons (mVar 5) mNil)))))) (tru (mUn notNF (mCallN 3 f_deduction_fault (mCons (mBin addF (mVar 7) (mTup (mCons (mVar 4) (mCons (mVar 2) mNil)))) (mCons (mVar 6) (mCons (mVar 5) mNil))))))) (sRet (mC (.bl false))) sNext) (sSeq (sSet (mTup (mCons (mC (.str "ifin")) (mCons (mVar 3) (mCons (mVar 5) mNil)))) (gName 8)) (sSeq (sSet (mCall tupleF (mCons (mCompS (mVar 7) (gName 18) (tru (mBin neF (mVar 18) (mVar 3))) (mVar 18) [18]) mNil)) (gName 9)) (sSeq (sIf (tOrM (tru (mUn notNF (mCallN 3 f_deduction_fault (mCons (mVar 9) (mCons (mTup (mCons (mC (.str "if")) (mCons (mVar 3) (mCons (mVar 6) mNil)))) (mCons (mVar 8) mNil)))))) (tOrM (tru (mBin neF (mCallN 1 f_size (mCons (mVar 8) mNil)) (mBin addF (mCallN 1 f_size (mCons (mVar 5) mNil)) (mC (.int 1))))) (tru (mBin neF (mCallN 1 f_told_by (mCons (mVar 8) mNil)) (mTup (mCons (mTup (mCons (mC (.str "if")) (mCons (mVar 3) (mCons (mVar 6) mNil)))) (mCons (mVar 9) mNil))))))) (sRet (mC (.bl false))) sNext) (sSeq (sSet (mTup (mCons (mC (.str "ifout")) (mCons (mVar 8) (mCons (mTup (mCons (mC (.str "assume")) (mCons (mVar 3) mNil))) mNil)))) (gName 10)) (sSeq (sIf (tOrM (tru (mUn notNF (mCallN 3 f_deduction_fault (mCons (mCall tupleF (mCons (mUn sortSetF (mBin addF (mVar 9) (mTup (mCons (mVar 3) mNil)))) mNil)) (mCons (mVar 6) (mCons (mVar 10) mNil)))))) (tru (mBin ltF (mCallN 1 f_roundabouts (mCons (mVar 10) mNil)) (mC (.int 1))))) (sRet (mC (.bl false))) sNext) (sSeq (sSet (mCallN 2 f_shortened (mCons (mVar 10) (mCons (mC (.int 1)) mNil))) (gName 11)) (sSeq (sIf (tOrM (tru (mUn notNF (mCallN 3 f_deduction_fault (mCons (mBin addF (mVar 7) (mTup (mCons (mVar 3) mNil))) (mCons (mVar 6) (mCons (mVar 11) mNil)))))) (tOrM (tru (mBin geF (mCallN 1 f_size (mCons (mVar 11) mNil)) (mCallN 1 f_size (mCons (mVar 10) mNil)))) (tru (mBin neF (mCallN 1 f_roundabouts (mCons (mCallN 2 f_shortened (mCons (mVar 10) (mCons (mC (.int 50)) mNil))) mNil)) (mC (.int 0)))))) (sRet (mC (.bl false))) sNext) (sSeq (sSet (mTup (mCons (mC (.str "assume")) (mCons (mVar 4) mNil))) (gName 12)) (sSeq (sSet (mTup (mCons (mC (.str "andin")) (mCons (mVar 5) (mCons (mVar 12) mNil)))) (gName 13)) (sSeq (sIf (tOrM (tru (mBin neF (mCallN 1 f_told_by (mCons (mVar 13) mNil)) (mTup (mCons (mTup (mCons (mC (.str "and")) (mCons (mVar 6) (mCons (mVar 4) mNil)))) (mCons (mCall tupleF (mCons (mUn sortSetF (mBin addF (mVar 7) (mTup (mCons (mVar 4) mNil)))) mNil)) mNil))))) (tOrM (tru (mBin neF (mBin atF (mCallN 1 f_told_by (mCons (mTup (mCons (mC (.str "andout1")) (mCons (mVar 13) mNil))) mNil)) (mC (.int 0))) (mVar 6))) (tru (mBin neF (mBin atF (mCallN 1 f_told_by (mCons (mTup (mCons (mC (.str "andout2")) (mCons (mVar 13) mNil))) mNil)) (mC (.int 0))) (mVar 4))))) (sRet (mC (.bl false))) sNext) (sSeq (sSet (mIf (tru (mBin eqF (mVar 6) (mVar 4))) (mTup (mCons (mC (.str "orout")) (mCons (mTup (mCons (mC (.str "orin1")) (mCons (mVar 4) (mCons (mVar 5) mNil)))) (mCons (mTup (mCons (mC (.str "assume")) (mCons (mVar 6) mNil))) (mCons (mTup (mCons (mC (.str "assume")) (mCons (mVar 6) mNil))) mNil))))) (mTup (mCons (mC (.str "orin2")) (mCons (mVar 4) (mCons (mVar 5) mNil))))) (gName 14)) (sSeq (sIf (tru (mUn notNF (mCallN 3 f_deduction_fault (mCons (mVar 7) (mCons (mIf (tru (mBin eqF (mVar 6) (mVar 4))) (mVar 6) (mTup (mCons (mC (.str "or")) (mCons (mVar 4) (mCons (mVar 6) mNil))))) (mCons (mVar 14) mNil)))))) (sRet (mC (.bl false))) sNext) (sSeq (sSet (mCallN 1 f_doubled (mCons (mVar 5) mNil)) (gName 15)) (sSeq (sIf (tOrM (tru (mBin notBF (mCallN 1 f_is_plain (mCons (mVar 15) mNil)) (mC (.bl true)))) (tOrM (tru (mUn notNF (mCallN 3 f_deduction_fault (mCons (mVar 7) (mCons (mCallN 1 f_twice (mCons (mVar 6) mNil)) (mCons (mVar 15) mNil)))))) (tru (mBin neF (mCallN 1 f_is_plain (mCons (mVar 5) mNil)) (mBin neF (mBin atF (mVar 5) (mC (.int 0))) (mC (.str "contra"))))))) (sRet (mC (.bl false))) sNext) (sSeq (sForS (mVar 7) (gName 16) (sIf (tru (mBin neF (mCallN 3 f_deduction_fault (mCons (mCall tupleF (mCons (mCompS (mVar 7) (gName 18) (tru (mBin neF (mVar 18) (mVar 16))) (mVar 18) [18]) mNil)) (mCons (mVar 6) (mCons (mVar 5) mNil)))) (mTup (mCons (mC (.str "open")) (mCons (mC (.int 1)) mNil))))) (sRet (mC (.bl false))) sNext)) (sRet (mAndE (mBin eqF (mCallN 3 f_deduction_fault (mCons (mVar 7) (mCons (mCallN 1 f__law_deny (mCons (mVar 6) mNil)) (mCons (mVar 5) mNil)))) (mTup (mCons (mC (.str "goal")) (mCons (mC (.int 0)) mNil)))) (mUn isNF (mCallN 3 f_sequent_fault (mCons (mTup (mCons (mCall tupleF (mCons (mCall sortF (mCons (mVar 7) mNil)) mNil)) (mCons (mTup (mCons (mVar 6) mNil)) mNil))) (mCons (mCallN 1 f_to_cuts (mCons (mVar 5) mNil)) (mCons (mC (.bl true)) mNil)))))))))))))))))))))))))))
def i_is_whole : FnI := ⟨("is_whole", none), "is_whole", "is_whole", top 5, ["value"], ["value"], false, fun F => b_is_whole⟩
def i_is_from : FnI := ⟨("is_from", none), "is_from", "is_from", top 6, ["value", "low", "high"], ["value", "low", "high"], false, fun F => b_is_from (F 0)⟩
def i_has_shape : FnI := ⟨("has_shape", none), "has_shape", "has_shape", top 7, ["value", "deep"], ["value", "deep"], false, fun F => b_has_shape (F 2) (F 1)⟩
def i_contrary : FnI := ⟨("contrary", none), "contrary", "contrary", top 8, ["formula"], ["formula"], false, fun F => b_contrary⟩
def i_with_one : FnI := ⟨("with_one", none), "with_one", "with_one", top 13, ["side", "formula"], ["side", "formula"], false, fun F => b_with_one⟩
def i_has_form_sequents : FnI := ⟨("has_form_sequents", none), "has_form", "has_form", top 14, ["value", "deep", "part"], ["value", "deep"], false, fun F => b_has_form_sequents (F 5) (F 2)⟩
def i_premises : FnI := ⟨("premises", none), "premises", "premises", top 16, ["sequent", "proof", "left", "right", "word", "here", "one", "two"], ["sequent", "proof"], false, fun F => b_premises (F 4)⟩
def i_step_fault : FnI := ⟨("step_fault", none), "step_fault", "step_fault", top 17, ["sequent", "proof", "number", "cuts", "above", "behind", "other", "part", "found"], ["sequent", "proof", "number", "cuts"], false, fun F => b_step_fault (F 6) (F 7)⟩
def i_sequent_fault : FnI := ⟨("sequent_fault", none), "sequent_fault", "sequent_fault", top 18, ["sequent", "value", "cuts"], ["sequent", "value", "cuts"], false, fun F => b_sequent_fault (F 5) (F 7)⟩
def i_has_form_deductions : FnI := ⟨("has_form_deductions", none), "has_form", "has_form", top 23, ["value", "deep", "told", "above", "part"], ["value", "deep"], false, fun F => b_has_form_deductions (F 9) (F 2)⟩
def i_uppers : FnI := ⟨("uppers", none), "uppers", "uppers", top 25, ["value"], ["value"], false, fun F => b_uppers⟩
def i_result_of : FnI := ⟨("result_of", none), "result_of", "result_of", top 26, ["value", "above", "word"], ["value", "above"], false, fun F => b_result_of⟩
def i_open_of : FnI := ⟨("open_of", none), "open_of", "open_of", top 27, ["value", "above", "opens", "found", "k", "gone", "other"], ["value", "above", "opens"], false, fun F => b_open_of (F 3)⟩
def i_worked_deductions : FnI := ⟨("worked", none), "worked", "worked", top 28, ["value", "number", "above", "opens", "behind", "part", "found", "wrong", "result"], ["value", "number"], false, fun F => b_worked_deductions (F 12) (F 11) (F 10) (F 13)⟩
def i_told_by : FnI := ⟨("told_by", none), "told_by", "told_by", top 29, ["value"], ["value"], false, fun F => b_told_by (F 13)⟩
def i_deduction_fault : FnI := ⟨("deduction_fault", none), "deduction_fault", "deduction_fault", top 30, ["formulas", "formula", "value", "found", "wrong", "_", "left", "other"], ["formulas", "formula", "value"], false, fun F => b_deduction_fault (F 9) (F 13)⟩
def i_to_cuts : FnI := ⟨("to_cuts", none), "to_cuts", "to_cuts", top 31, ["value", "word", "above", "told", "here", "nothing", "part"], ["value"], false, fun F => b_to_cuts (F 3) (F 16) (F 14) (F 10)⟩
def i_size : FnI := ⟨("size", none), "size", "size", top 32, ["value", "part"], ["value"], false, fun F => b_size (F 17) (F 10)⟩
def i_is_plain : FnI := ⟨("is_plain", none), "is_plain", "is_plain", top 33, ["value", "part"], ["value"], false, fun F => b_is_plain (F 18) (F 10)⟩
def i_denied : FnI := ⟨("denied", none), "denied", "denied", top 35, ["formula", "made"], ["formula", "made"], false, fun F => b_denied (F 3)⟩
def i_clash_doubles : FnI := ⟨("clash", none), "clash", "clash", top 36, ["formula", "made"], ["formula", "made"], false, fun F => b_clash_doubles (F 3)⟩
def i_taken : FnI := ⟨("taken", none), "taken", "taken", top 37, ["twice", "formula", "rest"], ["twice", "formula", "rest"], false, fun F => b_taken⟩
def i_doubled : FnI := ⟨("doubled", none), "doubled", "doubled", top 38, ["value", "word", "here", "above", "told", "end", "kept", "led", "pair", "ways", "part"], ["value"], false, fun F => b_doubled (F 20) (F 3) (F 19) (F 22) (F 21) (F 14) (F 10)⟩
def i_twice : FnI := ⟨("twice", none), "twice", "twice", top 39, ["formula"], ["formula"], false, fun F => b_twice (F 3)⟩
def i_put_in_shortening : FnI := ⟨("put_in", none), "put_in", "put_in", top 41, ["value", "formula", "made", "word", "choice", "ways", "told", "k", "part"], ["value", "formula", "made"], false, fun F => b_put_in_shortening (F 3) (F 24) (F 14)⟩
def i_shorter : FnI := ⟨("shorter", none), "shorter", "shorter", top 42, ["value", "word", "k"], ["value"], false, fun F => b_shorter (F 24) (F 14)⟩
def i_roundabouts : FnI := ⟨("roundabouts", none), "roundabouts", "roundabouts", top 43, ["value", "part"], ["value"], false, fun F => b_roundabouts (F 26) (F 25) (F 10)⟩
def i_once : FnI := ⟨("once", none), "once", "once", top 44, ["value", "found", "told", "k", "part"], ["value"], false, fun F => b_once (F 27) (F 25)⟩
def i_shortened : FnI := ⟨("shortened", none), "shortened", "shortened", top 45, ["value", "most", "_", "found"], ["value", "most"], false, fun F => b_shortened (F 27)⟩
def i__law_pool : FnI := ⟨("_law_pool", none), "_law_pool", "_law_pool", top 47, ["script", "salt", "cell"], ["script"], true, fun F => b__law_pool⟩
def i__law_spread : FnI := ⟨("_law_spread", none), "_law_spread", "_law_spread", top 48, ["cell", "blended", "whole_sum", "k"], ["cell"], false, fun F => b__law_spread⟩
def i__law_draw : FnI := ⟨("_law_draw", none), "_law_draw", "_law_draw", top 49, ["pool", "many", "cell", "blended", "value"], ["pool", "many"], false, fun F => b__law_draw (F 30)⟩
def i__law_little : FnI := ⟨("_law_little", none), "_law_little", "_law_little", top 50, ["pool", "deep", "letters", "word", "one"], ["pool", "deep", "letters"], false, fun F => b__law_little (F 31) (F 32)⟩
def i__law_pick : FnI := ⟨("_law_pick", none), "_law_pick", "_law_pick", top 51, ["pool", "items"], ["pool", "items"], false, fun F => b__law_pick (F 31)⟩
def i__law_deny : FnI := ⟨("_law_deny", none), "_law_deny", "_law_deny", top 52, ["a"], ["a"], false, fun F => b__law_deny⟩
def i_law : FnI := ⟨("law", none), "law", "law", top 53, ["script", "pool", "a", "b", "c", "row", "told", "opened", "closed", "left", "again", "short", "other", "both", "either", "denied_v", "part", "k", "one"], ["script"], false, fun F => b_law (F 34) (F 32) (F 33) (F 29) (F 15) (F 22) (F 18) (F 26) (F 8) (F 28) (F 17) (F 16) (F 14) (F 23)⟩
abbrev n_is_whole : Nat := 0
abbrev n_is_from : Nat := 1
abbrev n_has_shape : Nat := 2
abbrev n_contrary : Nat := 3
abbrev n_with_one : Nat := 4
abbrev n_has_form_sequents : Nat := 5
abbrev n_premises : Nat := 6
abbrev n_step_fault : Nat := 7
abbrev n_sequent_fault : Nat := 8
abbrev n_has_form_deductions : Nat := 9
abbrev n_uppers : Nat := 10
abbrev n_result_of : Nat := 11
abbrev n_open_of : Nat := 12
abbrev n_worked_deductions : Nat := 13
abbrev n_told_by : Nat := 14
abbrev n_deduction_fault : Nat := 15
abbrev n_to_cuts : Nat := 16
abbrev n_size : Nat := 17
abbrev n_is_plain : Nat := 18
abbrev n_denied : Nat := 19
abbrev n_clash_doubles : Nat := 20
abbrev n_taken : Nat := 21
abbrev n_doubled : Nat := 22
abbrev n_twice : Nat := 23
abbrev n_put_in_shortening : Nat := 24
abbrev n_shorter : Nat := 25
abbrev n_roundabouts : Nat := 26
abbrev n_once : Nat := 27
abbrev n_shortened : Nat := 28
abbrev n__law_pool : Nat := 29
abbrev n__law_spread : Nat := 30
abbrev n__law_draw : Nat := 31
abbrev n__law_little : Nat := 32
abbrev n__law_pick : Nat := 33
abbrev n__law_deny : Nat := 34
abbrev n_law : Nat := 35
def fns : List FnI := (i_is_whole :: i_is_from :: i_has_shape :: i_contrary :: i_with_one :: i_has_form_sequents :: i_premises :: i_step_fault :: i_sequent_fault :: i_has_form_deductions :: i_uppers :: i_result_of :: i_open_of :: i_worked_deductions :: i_told_by :: i_deduction_fault :: i_to_cuts :: i_size :: i_is_plain :: i_denied :: i_clash_doubles :: i_taken :: i_doubled :: i_twice :: i_put_in_shortening :: i_shorter :: i_roundabouts :: i_once :: i_shortened :: i__law_pool :: i__law_spread :: i__law_draw :: i__law_little :: i__law_pick :: i__law_deny :: i_law :: [])
def T : Tabs := ⟨(("is_whole", 1) :: ("is_from", 3) :: ("has_shape", 2) :: ("contrary", 1) :: ("with_one", 2) :: ("has_form_sequents", 2) :: ("premises", 2) :: ("step_fault", 4) :: ("sequent_fault", 3) :: ("has_form_deductions", 2) :: ("uppers", 1) :: ("result_of", 2) :: ("open_of", 3) :: ("worked", 2) :: ("told_by", 1) :: ("deduction_fault", 3) :: ("to_cuts", 1) :: ("size", 1) :: ("is_plain", 1) :: ("denied", 2) :: ("clash", 2) :: ("taken", 3) :: ("doubled", 1) :: ("twice", 1) :: ("put_in", 3) :: ("shorter", 1) :: ("roundabouts", 1) :: ("once", 1) :: ("shortened", 2) :: ("_law_pool", 1) :: ("_law_spread", 1) :: ("_law_draw", 2) :: ("_law_little", 3) :: ("_law_pick", 2) :: ("_law_deny", 1) :: ("law", 1) :: []), ([]), [], [("LETTERS", g_LETTERS_formulas), ("PAIRS", g_PAIRS), ("FALSE", g_FALSE), ("DEEPEST", g_DEEPEST_formulas), ("DEEPEST_PROOF_sequents", g_DEEPEST_PROOF_sequents), ("FORM_sequents", g_FORM_sequents), ("DEEPEST_PROOF_deductions", g_DEEPEST_PROOF_deductions), ("FORM_deductions", g_FORM_deductions)], ["isinstance", "int", "bool", "tuple", "len", "str", "sorted", "set", "all", "zip", "range", "sum", "list"], [], [("SIZES_sequents", k_SIZES_sequents), ("SIZES_deductions", k_SIZES_deductions)]⟩
end Law

set_option Elab.async false
set_option linter.all false
set_option maxRecDepth 100000
set_option maxHeartbeats 4000000
namespace Law
open PySem PySem.Spec L2 G
theorem sc_is_whole : FnScope ["value"] ["value"] (defScope (top 5)) := ⟨rfl, rfl, rfl, by decide +kernel, rfl, by decide +kernel, by decide +kernel⟩
theorem bd_is_whole {K : PySem.W.Frag} {f : Addr} {fd : FuncData} (F : FunD K i_is_whole.name i_is_whole.qual (defArgs i_is_whole.st) (defBody i_is_whole.st) (defScope i_is_whole.st) [] [] f fd) : Binds K fd i_is_whole.ps [] := F.bindsN fun _ _ _ _ _ _ us hl => match us, hl with | [_], _ => rfl
theorem d_is_whole : Good T i_is_whole := ⟨sc_is_whole, bd_is_whole, fun {P w K mg base cl F f cdv A outer s H E} C => by
  show GB cl _ (defBody (top 5)) (b_is_whole)
  exact (gb_one (gs_ret (ge_and (ge_isi (gv 0) rfl (C.free 0 rfl) rfl (C.free 1 rfl)) (ge_one (ge_not (ge_isi (gv 0) rfl (C.free 0 rfl) rfl (C.free 2 rfl)))))))⟩
theorem sc_is_from : FnScope ["value", "low", "high"] ["value", "low", "high"] (defScope (top 6)) := ⟨rfl, rfl, rfl, by decide +kernel, rfl, by decide +kernel, by decide +kernel⟩
theorem bd_is_from {K : PySem.W.Frag} {f : Addr} {fd : FuncData} (F : FunD K i_is_from.name i_is_from.qual (defArgs i_is_from.st) (defBody i_is_from.st) (defScope i_is_from.st) [] [] f fd) : Binds K fd i_is_from.ps [] := F.bindsN fun _ _ _ _ _ _ us hl => match us, hl with | [_, _, _], _ => rfl
theorem d_is_from : Good T i_is_from := ⟨sc_is_from, bd_is_from, fun {P w K mg base cl F f cdv A outer s H E} C => by
  show GB cl _ (defBody (top 6)) (b_is_from (F 0))
  exact (gb_one (gs_ret (ge_and (ge_call (C.call 0 rfl) rfl (ga_cons (gv 0) ga_nil)) (ge_one (ge_chain o_le o_le (gv 1) (gv 0) (gv 2))))))⟩
theorem sc_has_shape : FnScope ["value", "deep"] ["value", "deep"] (defScope (top 7)) := ⟨rfl, rfl, rfl, by decide +kernel, rfl, by decide +kernel, by decide +kernel⟩
theorem bd_has_shape {K : PySem.W.Frag} {f : Addr} {fd : FuncData} (F : FunD K i_has_shape.name i_has_shape.qual (defArgs i_has_shape.st) (defBody i_has_shape.st) (defScope i_has_shape.st) [] [] f fd) : Binds K fd i_has_shape.ps [] := F.bindsN fun _ _ _ _ _ _ us hl => match us, hl with | [_, _], _ => rfl
theorem d_has_shape : Good T i_has_shape := ⟨sc_has_shape, bd_has_shape, fun {P w K mg base cl F f cdv A outer s H E} C => by
  show GB cl _ (defBody (top 7)) (b_has_shape (F 2) (F 1))
  exact (gb_cons (gs_if (gw_pt (gw_or (gt_not (gt_val (ge_isi (gv 0) rfl (C.free 0 rfl) rfl (C.free 3 rfl)))) (gw_or (gt_cmp (o_eq C.hu) (ge_callB c_len rfl (C.free 4 rfl) (by rfl) (ga_cons (gv 0) ga_nil)) ge_int) (gw_or1 (gt_not (gt_val (ge_isi (ge_ix (gv 0) ge_int) rfl (C.free 0 rfl) rfl (C.free 5 rfl)))))))) (gb_one (gs_ret ge_bl)) gb_nil) (gb_cons (gs_if (gt_cmp (o_eq C.hu) (ge_ix (gv 0) ge_int) ge_str) (gb_one (gs_ret (ge_and (ge_cmp (o_eq C.hu) (ge_callB c_len rfl (C.free 4 rfl) (by rfl) (ga_cons (gv 0) ga_nil)) ge_int) (ge_one (ge_call (C.call 1 rfl) rfl (ga_cons (ge_ix (gv 0) ge_int) (ga_cons ge_int (ga_cons (ge_op o_sub (ge_globT (C.glob 0 rfl) rfl) ge_int) ga_nil)))))))) gb_nil) (gb_cons (gs_if (gt_cmp (o_eq C.hu) (ge_ix (gv 0) ge_int) ge_str) (gb_one (gs_ret (ge_cmp (o_eq C.hu) (ge_callB c_len rfl (C.free 4 rfl) (by rfl) (ga_cons (gv 0) ga_nil)) ge_int))) gb_nil) (gb_cons (gs_if (gw_pt (gw_or (gt_cmp (o_nin C.hu1) (ge_ix (gv 0) ge_int) (ge_globT (C.glob 1 rfl) rfl)) (gw_or (gt_cmp (o_ne C.hu) (ge_callB c_len rfl (C.free 4 rfl) (by rfl) (ga_cons (gv 0) ga_nil)) ge_int) (gw_or1 (gt_cmp (o_eq C.hu) (gv 1) ge_int))))) (gb_one (gs_ret ge_bl)) gb_nil) (gb_one (gs_ret (ge_and (ge_call (C.call 2 rfl) rfl (ga_cons (ge_ix (gv 0) ge_int) (ga_cons (ge_op o_sub (gv 1) ge_int) ga_nil))) (ge_one (ge_call (C.call 2 rfl) rfl (ga_cons (ge_ix (gv 0) ge_int) (ga_cons (ge_op o_sub (gv 1) ge_int) ga_nil)))))))))))⟩
theorem sc_contrary : FnScope ["formula"] ["formula"] (defScope (top 8)) := ⟨rfl, rfl, rfl, by decide +kernel, rfl, by decide +kernel, by decide +kernel⟩
theorem bd_contrary {K : PySem.W.Frag} {f : Addr} {fd : FuncData} (F : FunD K i_contrary.name i_contrary.qual (defArgs i_contrary.st) (defBody i_contrary.st) (defScope i_contrary.st) [] [] f fd) : Binds K fd i_contrary.ps [] := F.bindsN fun _ _ _ _ _ _ us hl => match us, hl with | [_], _ => rfl
theorem d_contrary : Good T i_contrary := ⟨sc_contrary, bd_contrary, fun {P w K mg base cl F f cdv A outer s H E} C => by
  show GB cl _ (defBody (top 8)) (b_contrary)
  exact (gb_one (gs_ret (ge_tup (ga_cons ge_str (ga_cons (gv 0) (ga_cons (ge_globT (C.glob 2 rfl) rfl) ga_nil))))))⟩
theorem sc_with_one : FnScope ["side", "formula"] ["side", "formula"] (defScope (top 13)) := ⟨rfl, rfl, rfl, by decide +kernel, rfl, by decide +kernel, by decide +kernel⟩
theorem bd_with_one {K : PySem.W.Frag} {f : Addr} {fd : FuncData} (F : FunD K i_with_one.name i_with_one.qual (defArgs i_with_one.st) (defBody i_with_one.st) (defScope i_with_one.st) [] [] f fd) : Binds K fd i_with_one.ps [] := F.bindsN fun _ _ _ _ _ _ us hl => match us, hl with | [_, _], _ => rfl
theorem d_with_one : Good T i_with_one := ⟨sc_with_one, bd_with_one, fun {P w K mg base cl F f cdv A outer s H E} C => by
  show GB cl _ (defBody (top 13)) (b_with_one)
  exact (gb_one (gs_ret (ge_callTy c_tuple rfl (C.free 3 rfl) (by rfl) (ga_cons (ge_sortset C.hu2 rfl rfl (C.free 6 rfl) rfl (C.free 7 rfl) (ge_op o_add (gv 0) (ge_tup (ga_cons (gv 1) ga_nil)))) ga_nil))))⟩
theorem sc_has_form_sequents : FnScope ["value", "deep", "part"] ["value", "deep"] (defScope (top 14)) := ⟨rfl, rfl, rfl, by decide +kernel, rfl, by decide +kernel, by decide +kernel⟩
theorem bd_has_form_sequents {K : PySem.W.Frag} {f : Addr} {fd : FuncData} (F : FunD K i_has_form_sequents.name i_has_form_sequents.qual (defArgs i_has_form_sequents.st) (defBody i_has_form_sequents.st) (defScope i_has_form_sequents.st) [] [] f fd) : Binds K fd i_has_form_sequents.ps [] := F.bindsN fun _ _ _ _ _ _ us hl => match us, hl with | [_, _], _ => rfl
theorem d_has_form_sequents : Good T i_has_form_sequents := ⟨sc_has_form_sequents, bd_has_form_sequents, fun {P w K mg base cl F f cdv A outer s H E} C => by
  show GB cl _ (defBody (top 14)) (b_has_form_sequents (F 5) (F 2))
  exact (gb_cons (gs_if (gw_pt (gw_or (gt_not (gt_val (ge_isi (gv 0) rfl (C.free 0 rfl) rfl (C.free 3 rfl)))) (gw_or (gt_cmp (o_eq C.hu) (ge_callB c_len rfl (C.free 4 rfl) (by rfl) (ga_cons (gv 0) ga_nil)) ge_int) (gw_or (gt_not (gt_val (ge_isi (ge_ix (gv 0) ge_int) rfl (C.free 0 rfl) rfl (C.free 5 rfl)))) (gw_or1 (gt_knin (C.dct 0 rfl) rfl (ge_ix (gv 0) ge_int))))))) (gb_one (gs_ret ge_bl)) gb_nil) (gb_cons (gs_if (gw_pt (gw_or (gt_cmp (o_ne C.hu) (ge_callB c_len rfl (C.free 4 rfl) (by rfl) (ga_cons (gv 0) ga_nil)) (ge_kget (C.dct 0 rfl) rfl (ge_ix (gv 0) ge_int))) (gw_or1 (gt_cmp (o_eq C.hu) (gv 1) ge_int)))) (gb_one (gs_ret ge_bl)) gb_nil) (gb_cons (gs_if (gw_pt (gw_and (gt_cmp o_gt (ge_callB c_len rfl (C.free 4 rfl) (by rfl) (ga_cons (gv 0) ga_nil)) ge_int) (gw_and1 (gt_not (gt_val (ge_call (C.call 2 rfl) rfl (ga_cons (ge_ix (gv 0) ge_int) (ga_cons (ge_op o_add (ge_globT (C.glob 3 rfl) rfl) ge_int) ga_nil)))))))) (gb_one (gs_ret ge_bl)) gb_nil) (gb_one (gs_ret (ge_callB (c_all rfl) rfl (C.free 8 rfl) (by rfl) (ga_cons (ge_compS (own := [("part", 2)]) rfl sc_has_form_sequents.nd (gi_seqS (ge_sl (gv 0) (gp_some ge_int) gp_none)) (blkOk_by (by show blkC ["value", "deep", "part"] (defScope (top 14)) _ _ = true; decide +kernel)) (cg_name (by decide)) (fun _ _ _ _ _ => pg_name (i := 2) sc_has_form_sequents.nd rfl (Or.inl rfl)) (fun _ _ _ _ _ => gts_nil) (fun _ _ _ _ _ => (ge_call (C.call 5 rfl) rfl (ga_cons (gv 2) (ga_cons (ge_op o_sub (gv 1) ge_int) ga_nil))))) ga_nil)))))))⟩
theorem sc_premises : FnScope ["sequent", "proof", "left", "right", "word", "here", "one", "two"] ["sequent", "proof"] (defScope (top 16)) := ⟨rfl, rfl, rfl, by decide +kernel, rfl, by decide +kernel, by decide +kernel⟩
theorem bd_premises {K : PySem.W.Frag} {f : Addr} {fd : FuncData} (F : FunD K i_premises.name i_premises.qual (defArgs i_premises.st) (defBody i_premises.st) (defScope i_premises.st) [] [] f fd) : Binds K fd i_premises.ps [] := F.bindsN fun _ _ _ _ _ _ us hl => match us, hl with | [_, _], _ => rfl
theorem d_premises : Good T i_premises := ⟨sc_premises, bd_premises, fun {P w K mg base cl F f cdv A outer s H E} C => by
  show GB cl _ (defBody (top 16)) (b_premises (F 4))
  exact (gb_cons (gs_asg (gv 0) (gg_tup rfl (ggs_cons (gg_name sc_premises.nd rfl (by first | exact Or.inl rfl | exact Or.inr rfl)) (ggs_cons (gg_name sc_premises.nd rfl (by first | exact Or.inl rfl | exact Or.inr rfl)) ggs_nil)))) (gb_cons (gs_set (i := 4) sc_premises.nd rfl (by first | exact Or.inl rfl | exact Or.inr rfl) (ge_ix (gv 1) ge_int)) (gb_cons (gs_if (gt_cmp (o_eq C.hu) (gv 4) ge_str) (gb_one (gs_ret (ge_ifExp (gt_cmp (o_in C.hu1) (ge_globT (C.glob 2 rfl) rfl) (gv 2)) (ge_lst ga_nil) ge_non))) gb_nil) (gb_cons (gs_set (i := 5) sc_premises.nd rfl (by first | exact Or.inl rfl | exact Or.inr rfl) (ge_ix (gv 1) ge_int)) (gb_cons (gs_if (gt_cmp (o_eq C.hu) (gv 4) ge_str) (gb_one (gs_ret (ge_ifExp (gw_pt (gw_and (gt_cmp (o_in C.hu1) (gv 5) (gv 2)) (gw_and1 (gt_cmp (o_in C.hu1) (gv 5) (gv 3))))) (ge_lst ga_nil) ge_non))) gb_nil) (gb_cons (gs_if (gt_cmp (o_eq C.hu) (gv 4) ge_str) (gb_one (gs_ret (ge_lst (ga_cons (ge_tup (ga_cons (gv 2) (ga_cons (ge_call (C.call 4 rfl) rfl (ga_cons (gv 3) (ga_cons (gv 5) ga_nil))) ga_nil))) (ga_cons (ge_tup (ga_cons (ge_call (C.call 4 rfl) rfl (ga_cons (gv 2) (ga_cons (gv 5) ga_nil))) (ga_cons (gv 3) ga_nil))) ga_nil))))) gb_nil) (gb_cons (gs_if (gw_pt (gw_or (gt_cmp (o_nin C.hu1) (ge_ix (gv 5) ge_int) (ge_globT (C.glob 1 rfl) rfl)) (gw_or1 (gt_cmp (o_nin C.hu1) (gv 4) (ge_tup (ga_cons (ge_op o_add (ge_ix (gv 5) ge_int) ge_str) (ga_cons (ge_op o_add (ge_ix (gv 5) ge_int) ge_str) ga_nil))))))) (gb_one (gs_ret ge_non)) gb_nil) (gb_cons (gs_if (gt_cmp (o_nin C.hu1) (gv 5) (ge_ifExp (gt_val (ge_endswith (gv 4) ge_str)) (gv 2) (gv 3))) (gb_one (gs_ret ge_non)) gb_nil) (gb_cons (gs_par rfl sc_premises.nd rfl rfl (by decide) rfl rfl (ga_cons (ge_ix (gv 5) ge_int) (ga_cons (ge_ix (gv 5) ge_int) ga_nil)) rfl) (gb_cons (gs_if (gt_cmp (o_eq C.hu) (gv 4) ge_str) (gb_one (gs_ret (ge_lst (ga_cons (ge_tup (ga_cons (ge_call (C.call 4 rfl) rfl (ga_cons (ge_call (C.call 4 rfl) rfl (ga_cons (gv 2) (ga_cons (gv 6) ga_nil))) (ga_cons (gv 7) ga_nil))) (ga_cons (gv 3) ga_nil))) ga_nil)))) gb_nil) (gb_cons (gs_if (gt_cmp (o_eq C.hu) (gv 4) ge_str) (gb_one (gs_ret (ge_lst (ga_cons (ge_tup (ga_cons (ge_call (C.call 4 rfl) rfl (ga_cons (gv 2) (ga_cons (gv 6) ga_nil))) (ga_cons (gv 3) ga_nil))) (ga_cons (ge_tup (ga_cons (ge_call (C.call 4 rfl) rfl (ga_cons (gv 2) (ga_cons (gv 7) ga_nil))) (ga_cons (gv 3) ga_nil))) ga_nil))))) gb_nil) (gb_cons (gs_if (gt_cmp (o_eq C.hu) (gv 4) ge_str) (gb_one (gs_ret (ge_lst (ga_cons (ge_tup (ga_cons (gv 2) (ga_cons (ge_call (C.call 4 rfl) rfl (ga_cons (gv 3) (ga_cons (gv 6) ga_nil))) ga_nil))) (ga_cons (ge_tup (ga_cons (ge_call (C.call 4 rfl) rfl (ga_cons (gv 2) (ga_cons (gv 7) ga_nil))) (ga_cons (gv 3) ga_nil))) ga_nil))))) gb_nil) (gb_cons (gs_if (gt_cmp (o_eq C.hu) (gv 4) ge_str) (gb_one (gs_ret (ge_lst (ga_cons (ge_tup (ga_cons (gv 2) (ga_cons (ge_call (C.call 4 rfl) rfl (ga_cons (gv 3) (ga_cons (gv 6) ga_nil))) ga_nil))) (ga_cons (ge_tup (ga_cons (gv 2) (ga_cons (ge_call (C.call 4 rfl) rfl (ga_cons (gv 3) (ga_cons (gv 7) ga_nil))) ga_nil))) ga_nil))))) gb_nil) (gb_cons (gs_if (gt_cmp (o_eq C.hu) (gv 4) ge_str) (gb_one (gs_ret (ge_lst (ga_cons (ge_tup (ga_cons (gv 2) (ga_cons (ge_call (C.call 4 rfl) rfl (ga_cons (ge_call (C.call 4 rfl) rfl (ga_cons (gv 3) (ga_cons (gv 6) ga_nil))) (ga_cons (gv 7) ga_nil))) ga_nil))) ga_nil)))) gb_nil) (gb_one (gs_ret (ge_lst (ga_cons (ge_tup (ga_cons (ge_call (C.call 4 rfl) rfl (ga_cons (gv 2) (ga_cons (gv 6) ga_nil))) (ga_cons (ge_call (C.call 4 rfl) rfl (ga_cons (gv 3) (ga_cons (gv 7) ga_nil))) ga_nil))) ga_nil))))))))))))))))))⟩
theorem sc_step_fault : FnScope ["sequent", "proof", "number", "cuts", "above", "behind", "other", "part", "found"] ["sequent", "proof", "number", "cuts"] (defScope (top 17)) := ⟨rfl, rfl, rfl, by decide +kernel, rfl, by decide +kernel, by decide +kernel⟩
theorem bd_step_fault {K : PySem.W.Frag} {f : Addr} {fd : FuncData} (F : FunD K i_step_fault.name i_step_fault.qual (defArgs i_step_fault.st) (defBody i_step_fault.st) (defScope i_step_fault.st) [] [] f fd) : Binds K fd i_step_fault.ps [] := F.bindsN fun _ _ _ _ _ _ us hl => match us, hl with | [_, _, _, _], _ => rfl
theorem d_step_fault : Good T i_step_fault := ⟨sc_step_fault, bd_step_fault, fun {P w K mg base cl F f cdv A outer s H E} C => by
  show GB cl _ (defBody (top 17)) (b_step_fault (F 6) (F 7))
  exact (gb_cons (gs_if (gw_pt (gw_and (gt_cmp (o_eq C.hu) (ge_ix (gv 1) ge_int) ge_str) (gw_and1 (gt_not (gt_val (gv 3)))))) (gb_one (gs_ret (ge_tup (ga_cons (ge_tup (ga_cons ge_str (ga_cons (gv 2) ga_nil))) (ga_cons (ge_op o_add (gv 2) ge_int) ga_nil))))) gb_nil) (gb_cons (gs_set (i := 4) sc_step_fault.nd rfl (by first | exact Or.inl rfl | exact Or.inr rfl) (ge_call (C.call 6 rfl) rfl (ga_cons (gv 0) (ga_cons (gv 1) ga_nil)))) (gb_cons (gs_if (gt_isN (gv 4)) (gb_one (gs_ret (ge_tup (ga_cons (ge_tup (ga_cons ge_str (ga_cons (gv 2) ga_nil))) (ga_cons (ge_op o_add (gv 2) ge_int) ga_nil))))) gb_nil) (gb_cons (gs_set (i := 5) sc_step_fault.nd rfl (by first | exact Or.inl rfl | exact Or.inr rfl) (ge_op o_add (gv 2) ge_int)) (gb_cons (gs_for PassesOwn.never rfl (gi_zip rfl rfl (C.free 9 rfl) (gv 4) (ge_sl (gv 1) (gp_some ge_int) gp_none)) (gg_tup rfl (ggs_cons (gg_name sc_step_fault.nd rfl (by first | exact Or.inl rfl | exact Or.inr rfl)) (ggs_cons (gg_name sc_step_fault.nd rfl (by first | exact Or.inl rfl | exact Or.inr rfl)) ggs_nil))) (gb_cons (gs_asg (ge_call (C.call 7 rfl) rfl (ga_cons (gv 6) (ga_cons (gv 7) (ga_cons (gv 5) (ga_cons (gv 3) ga_nil))))) (gg_tup rfl (ggs_cons (gg_name sc_step_fault.nd rfl (by first | exact Or.inl rfl | exact Or.inr rfl)) (ggs_cons (gg_name sc_step_fault.nd rfl (by first | exact Or.inl rfl | exact Or.inr rfl)) ggs_nil)))) (gb_one (gs_if (gt_notN (gv 8)) (gb_one (gs_ret (ge_tup (ga_cons (gv 8) (ga_cons (gv 5) ga_nil))))) gb_nil)))) (gb_one (gs_ret (ge_tup (ga_cons ge_non (ga_cons (gv 5) ga_nil))))))))))⟩
theorem sc_sequent_fault : FnScope ["sequent", "value", "cuts"] ["sequent", "value", "cuts"] (defScope (top 18)) := ⟨rfl, rfl, rfl, by decide +kernel, rfl, by decide +kernel, by decide +kernel⟩
theorem bd_sequent_fault {K : PySem.W.Frag} {f : Addr} {fd : FuncData} (F : FunD K i_sequent_fault.name i_sequent_fault.qual (defArgs i_sequent_fault.st) (defBody i_sequent_fault.st) (defScope i_sequent_fault.st) [] [] f fd) : Binds K fd i_sequent_fault.ps [] := F.bindsN fun _ _ _ _ _ _ us hl => match us, hl with | [_, _, _], _ => rfl
theorem d_sequent_fault : Good T i_sequent_fault := ⟨sc_sequent_fault, bd_sequent_fault, fun {P w K mg base cl F f cdv A outer s H E} C => by
  show GB cl _ (defBody (top 18)) (b_sequent_fault (F 5) (F 7))
  exact (gb_cons (gs_if (gt_not (gt_val (ge_call (C.call 5 rfl) rfl (ga_cons (gv 1) (ga_cons (ge_globT (C.glob 4 rfl) rfl) ga_nil))))) (gb_one (gs_ret (ge_globT (C.glob 5 rfl) rfl))) gb_nil) (gb_one (gs_ret (ge_ix (ge_call (C.call 7 rfl) rfl (ga_cons (gv 0) (ga_cons (gv 1) (ga_cons ge_int (ga_cons (gv 2) ga_nil))))) ge_int))))⟩
theorem sc_has_form_deductions : FnScope ["value", "deep", "told", "above", "part"] ["value", "deep"] (defScope (top 23)) := ⟨rfl, rfl, rfl, by decide +kernel, rfl, by decide +kernel, by decide +kernel⟩
theorem bd_has_form_deductions {K : PySem.W.Frag} {f : Addr} {fd : FuncData} (F : FunD K i_has_form_deductions.name i_has_form_deductions.qual (defArgs i_has_form_deductions.st) (defBody i_has_form_deductions.st) (defScope i_has_form_deductions.st) [] [] f fd) : Binds K fd i_has_form_deductions.ps [] := F.bindsN fun _ _ _ _ _ _ us hl => match us, hl with | [_, _], _ => rfl
theorem d_has_form_deductions : Good T i_has_form_deductions := ⟨sc_has_form_deductions, bd_has_form_deductions, fun {P w K mg base cl F f cdv A outer s H E} C => by
  show GB cl _ (defBody (top 23)) (b_has_form_deductions (F 9) (F 2))
  exact (gb_cons (gs_if (gw_pt (gw_or (gt_not (gt_val (ge_isi (gv 0) rfl (C.free 0 rfl) rfl (C.free 3 rfl)))) (gw_or (gt_cmp (o_eq C.hu) (ge_callB c_len rfl (C.free 4 rfl) (by rfl) (ga_cons (gv 0) ga_nil)) ge_int) (gw_or (gt_not (gt_val (ge_isi (ge_ix (gv 0) ge_int) rfl (C.free 0 rfl) rfl (C.free 5 rfl)))) (gw_or1 (gt_knin (C.dct 1 rfl) rfl (ge_ix (gv 0) ge_int))))))) (gb_one (gs_ret ge_bl)) gb_nil) (gb_cons (gs_asg (ge_kget (C.dct 1 rfl) rfl (ge_ix (gv 0) ge_int)) (gg_tup rfl (ggs_cons (gg_name sc_has_form_deductions.nd rfl (by first | exact Or.inl rfl | exact Or.inr rfl)) (ggs_cons (gg_name sc_has_form_deductions.nd rfl (by first | exact Or.inl rfl | exact Or.inr rfl)) ggs_nil)))) (gb_cons (gs_if (gw_pt (gw_or (gt_cmp (o_eq C.hu) (gv 1) ge_int) (gw_or1 (gt_cmp (o_ne C.hu) (ge_callB c_len rfl (C.free 4 rfl) (by rfl) (ga_cons (gv 0) ga_nil)) (ge_op o_add (ge_op o_add ge_int (gv 2)) (gv 3)))))) (gb_one (gs_ret ge_bl)) gb_nil) (gb_cons (gs_if (gw_pt (gw_and (gt_cmp (o_eq C.hu) (gv 2) ge_int) (gw_and1 (gt_not (gt_val (ge_call (C.call 2 rfl) rfl (ga_cons (ge_ix (gv 0) ge_int) (ga_cons (ge_op o_add (ge_globT (C.glob 3 rfl) rfl) ge_int) ga_nil)))))))) (gb_one (gs_ret ge_bl)) gb_nil) (gb_one (gs_ret (ge_callB (c_all rfl) rfl (C.free 8 rfl) (by rfl) (ga_cons (ge_compS (own := [("part", 4)]) rfl sc_has_form_deductions.nd (gi_seqS (ge_sl (gv 0) (gp_some (ge_op o_add ge_int (gv 2))) gp_none)) (blkOk_by (by show blkC ["value", "deep", "told", "above", "part"] (defScope (top 23)) _ _ = true; decide +kernel)) (cg_name (by decide)) (fun _ _ _ _ _ => pg_name (i := 4) sc_has_form_deductions.nd rfl (Or.inl rfl)) (fun _ _ _ _ _ => gts_nil) (fun _ _ _ _ _ => (ge_call (C.call 9 rfl) rfl (ga_cons (gv 4) (ga_cons (ge_op o_sub (gv 1) ge_int) ga_nil))))) ga_nil))))))))⟩
theorem sc_uppers : FnScope ["value"] ["value"] (defScope (top 25)) := ⟨rfl, rfl, rfl, by decide +kernel, rfl, by decide +kernel, by decide +kernel⟩
theorem bd_uppers {K : PySem.W.Frag} {f : Addr} {fd : FuncData} (F : FunD K i_uppers.name i_uppers.qual (defArgs i_uppers.st) (defBody i_uppers.st) (defScope i_uppers.st) [] [] f fd) : Binds K fd i_uppers.ps [] := F.bindsN fun _ _ _ _ _ _ us hl => match us, hl with | [_], _ => rfl
theorem d_uppers : Good T i_uppers := ⟨sc_uppers, bd_uppers, fun {P w K mg base cl F f cdv A outer s H E} C => by
  show GB cl _ (defBody (top 25)) (b_uppers)
  exact (gb_one (gs_ret (ge_sl (gv 0) (gp_some (ge_op o_add ge_int (ge_ix (ge_kget (C.dct 1 rfl) rfl (ge_ix (gv 0) ge_int)) ge_int))) gp_none)))⟩
theorem sc_result_of : FnScope ["value", "above", "word"] ["value", "above"] (defScope (top 26)) := ⟨rfl, rfl, rfl, by decide +kernel, rfl, by decide +kernel, by decide +kernel⟩
theorem bd_result_of {K : PySem.W.Frag} {f : Addr} {fd : FuncData} (F : FunD K i_result_of.name i_result_of.qual (defArgs i_result_of.st) (defBody i_result_of.st) (defScope i_result_of.st) [] [] f fd) : Binds K fd i_result_of.ps [] := F.bindsN fun _ _ _ _ _ _ us hl => match us, hl with | [_, _], _ => rfl
theorem d_result_of : Good T i_result_of := ⟨sc_result_of, bd_result_of, fun {P w K mg base cl F f cdv A outer s H E} C => by
  show GB cl _ (defBody (top 26)) (b_result_of)
  exact (gb_cons (gs_set (i := 2) sc_result_of.nd rfl (by first | exact Or.inl rfl | exact Or.inr rfl) (ge_ix (gv 0) ge_int)) (gb_cons (gs_if (gt_cmp (o_eq C.hu) (gv 2) ge_str) (gb_one (gs_ret (ge_ix (gv 0) ge_int))) gb_nil) (gb_cons (gs_if (gt_cmp (o_eq C.hu) (gv 2) ge_str) (gb_one (gs_ret (ge_tup (ga_cons ge_str (ga_cons (ge_ix (gv 0) ge_int) (ga_cons (ge_ix (gv 1) ge_int) ga_nil)))))) gb_nil) (gb_cons (gs_if (gt_cmp (o_eq C.hu) (gv 2) ge_str) (gb_one (gs_ret (ge_ifExp (gw_pt (gw_and (gt_cmp (o_eq C.hu) (ge_ix (ge_ix (gv 1) ge_int) ge_int) ge_str) (gw_and1 (gt_cmp (o_eq C.hu) (ge_ix (ge_ix (gv 1) ge_int) ge_int) (ge_ix (gv 1) ge_int))))) (ge_ix (ge_ix (gv 1) ge_int) ge_int) ge_non))) gb_nil) (gb_cons (gs_if (gt_cmp (o_eq C.hu) (gv 2) ge_str) (gb_one (gs_ret (ge_tup (ga_cons ge_str (ga_cons (ge_ix (gv 1) ge_int) (ga_cons (ge_ix (gv 1) ge_int) ga_nil)))))) gb_nil) (gb_cons (gs_if (gt_cmp (o_in C.hu1) (gv 2) (ge_tup (ga_cons ge_str (ga_cons ge_str ga_nil)))) (gb_one (gs_ret (ge_ifExp (gt_cmp (o_eq C.hu) (ge_ix (ge_ix (gv 1) ge_int) ge_int) ge_str) (ge_ix (ge_ix (gv 1) ge_int) (ge_lastDigit rfl (C.free 1 rfl) (gv 2))) ge_non))) gb_nil) (gb_cons (gs_if (gt_cmp (o_eq C.hu) (gv 2) ge_str) (gb_one (gs_ret (ge_tup (ga_cons ge_str (ga_cons (ge_ix (gv 1) ge_int) (ga_cons (ge_ix (gv 0) ge_int) ga_nil)))))) gb_nil) (gb_cons (gs_if (gt_cmp (o_eq C.hu) (gv 2) ge_str) (gb_one (gs_ret (ge_tup (ga_cons ge_str (ga_cons (ge_ix (gv 0) ge_int) (ga_cons (ge_ix (gv 1) ge_int) ga_nil)))))) gb_nil) (gb_cons (gs_if (gt_cmp (o_eq C.hu) (gv 2) ge_str) (gb_one (gs_ret (ge_ifExp (gw_pt (gw_and (gt_cmp (o_eq C.hu) (ge_ix (ge_ix (gv 1) ge_int) ge_int) ge_str) (gw_and1 (gt_cmp (o_eq C.hu) (ge_ix (gv 1) ge_int) (ge_ix (gv 1) ge_int))))) (ge_ix (gv 1) ge_int) ge_non))) gb_nil) (gb_one (gs_ret (ge_ifExp (gt_cmp (o_eq C.hu) (ge_ix (gv 1) ge_int) (ge_globT (C.glob 2 rfl) rfl)) (ge_ix (gv 0) ge_int) ge_non))))))))))))⟩
theorem sc_open_of : FnScope ["value", "above", "opens", "found", "k", "gone", "other"] ["value", "above", "opens"] (defScope (top 27)) := ⟨rfl, rfl, rfl, by decide +kernel, rfl, by decide +kernel, by decide +kernel⟩
theorem bd_open_of {K : PySem.W.Frag} {f : Addr} {fd : FuncData} (F : FunD K i_open_of.name i_open_of.qual (defArgs i_open_of.st) (defBody i_open_of.st) (defScope i_open_of.st) [] [] f fd) : Binds K fd i_open_of.ps [] := F.bindsN fun _ _ _ _ _ _ us hl => match us, hl with | [_, _, _], _ => rfl
theorem d_open_of : Good T i_open_of := ⟨sc_open_of, bd_open_of, fun {P w K mg base cl F f cdv A outer s H E} C => by
  show GB cl _ (defBody (top 27)) (b_open_of (F 3))
  exact (gb_cons (gs_if (gt_cmp (o_eq C.hu) (ge_ix (gv 0) ge_int) ge_str) (gb_one (gs_ret (ge_tup (ga_cons (ge_ix (gv 0) ge_int) ga_nil)))) gb_nil) (gb_cons (gs_set (i := 3) sc_open_of.nd rfl (by first | exact Or.inl rfl | exact Or.inr rfl) (ge_newL ga_nil)) (gb_cons (gs_for PassesOwn.never rfl (gi_rg1 rfl (C.free 10 rfl) (ga_cons (ge_callB c_len rfl (C.free 4 rfl) (by rfl) (ga_cons (gv 2) ga_nil)) ga_nil)) (gg_name sc_open_of.nd rfl (by first | exact Or.inl rfl | exact Or.inr rfl)) (gb_cons (gs_set (i := 5) sc_open_of.nd rfl (by first | exact Or.inl rfl | exact Or.inr rfl) ge_non) (gb_cons (gs_if (gt_cmp (o_eq C.hu) (ge_ix (gv 0) ge_int) ge_str) (gb_one (gs_set (i := 5) sc_open_of.nd rfl (by first | exact Or.inl rfl | exact Or.inr rfl) (ge_ix (gv 0) ge_int))) (gb_one (gs_if (gt_cmp (o_eq C.hu) (ge_ix (gv 0) ge_int) ge_str) (gb_one (gs_set (i := 5) sc_open_of.nd rfl (by first | exact Or.inl rfl | exact Or.inr rfl) (ge_call (C.call 3 rfl) rfl (ga_cons (ge_ix (gv 0) ge_int) ga_nil)))) (gb_one (gs_if (gw_pt (gw_and (gt_cmp (o_eq C.hu) (ge_ix (gv 0) ge_int) ge_str) (gw_and1 (gt_cmp o_gt (gv 4) ge_int)))) (gb_one (gs_set (i := 5) sc_open_of.nd rfl (by first | exact Or.inl rfl | exact Or.inr rfl) (ge_ix (ge_ix (gv 1) ge_int) (gv 4)))) gb_nil))))) (gb_one (gs_expr (ge_metL PySem.F.slot_list_extend PySem.F.type_list_extend m_extend (gv 3) (ga_cons (ge_compS (own := [("other", 6)]) rfl sc_open_of.nd (gi_seqS (ge_ix (gv 2) (gv 4))) (blkOk_by (by show blkC ["value", "above", "opens", "found", "k", "gone", "other"] (defScope (top 27)) _ _ = true; decide +kernel)) (cg_name (by decide)) (fun _ _ _ _ _ => pg_name (i := 6) sc_open_of.nd rfl (Or.inl rfl)) (fun _ _ _ _ _ => (gts_one (gt_cmp (o_ne C.hu) (gv 6) (gv 5)))) (fun _ _ _ _ _ => (gv 6))) ga_nil))))))) (gb_one (gs_ret (ge_callTy c_tuple rfl (C.free 3 rfl) (by rfl) (ga_cons (ge_sortset C.hu2 rfl rfl (C.free 6 rfl) rfl (C.free 7 rfl) (gv 3)) ga_nil)))))))⟩
theorem sc_worked_deductions : FnScope ["value", "number", "above", "opens", "behind", "part", "found", "wrong", "result"] ["value", "number"] (defScope (top 28)) := ⟨rfl, rfl, rfl, by decide +kernel, rfl, by decide +kernel, by decide +kernel⟩
theorem bd_worked_deductions {K : PySem.W.Frag} {f : Addr} {fd : FuncData} (F : FunD K i_worked_deductions.name i_worked_deductions.qual (defArgs i_worked_deductions.st) (defBody i_worked_deductions.st) (defScope i_worked_deductions.st) [] [] f fd) : Binds K fd i_worked_deductions.ps [] := F.bindsN fun _ _ _ _ _ _ us hl => match us, hl with | [_, _], _ => rfl
theorem d_worked_deductions : Good T i_worked_deductions := ⟨sc_worked_deductions, bd_worked_deductions, fun {P w K mg base cl F f cdv A outer s H E} C => by
  show GB cl _ (defBody (top 28)) (b_worked_deductions (F 12) (F 11) (F 10) (F 13))
  exact (gb_cons (gs_par rfl sc_worked_deductions.nd rfl rfl (by decide) rfl rfl (ga_cons (ge_newL ga_nil) (ga_cons (ge_newL ga_nil) ga_nil)) rfl) (gb_cons (gs_set (i := 4) sc_worked_deductions.nd rfl (by first | exact Or.inl rfl | exact Or.inr rfl) (gv 1)) (gb_cons (gs_forS PassesOwn.never rfl (gi_seqS (ge_call (C.call 10 rfl) rfl (ga_cons (gv 0) ga_nil))) (gg_name sc_worked_deductions.nd rfl (by first | exact Or.inl rfl | exact Or.inr rfl)) (gb_cons (gs_asg (ge_call (C.call 13 rfl) rfl (ga_cons (gv 5) (ga_cons (gv 4) ga_nil))) (gg_tup rfl (ggs_cons (gg_name sc_worked_deductions.nd rfl (by first | exact Or.inl rfl | exact Or.inr rfl)) (ggs_cons (gg_name sc_worked_deductions.nd rfl (by first | exact Or.inl rfl | exact Or.inr rfl)) (ggs_cons (gg_name sc_worked_deductions.nd rfl (by first | exact Or.inl rfl | exact Or.inr rfl)) ggs_nil))))) (gb_cons (gs_if (gt_notN (gv 7)) (gb_one (gs_ret (ge_tup (ga_cons ge_non (ga_cons (gv 7) (ga_cons (gv 4) ga_nil)))))) gb_nil) (gb_cons (gs_expr (ge_metL PySem.F.slot_list_append PySem.F.type_list_append m_append (gv 2) (ga_cons (ge_ix (gv 6) ge_int) ga_nil))) (gb_one (gs_expr (ge_metL PySem.F.slot_list_append PySem.F.type_list_append m_append (gv 3) (ga_cons (ge_ix (gv 6) ge_int) ga_nil)))))))) (gb_cons (gs_set (i := 8) sc_worked_deductions.nd rfl (by first | exact Or.inl rfl | exact Or.inr rfl) (ge_call (C.call 11 rfl) rfl (ga_cons (gv 0) (ga_cons (gv 2) ga_nil)))) (gb_cons (gs_if (gt_isN (gv 8)) (gb_one (gs_ret (ge_tup (ga_cons ge_non (ga_cons (ge_tup (ga_cons ge_str (ga_cons (gv 4) ga_nil))) (ga_cons (ge_op o_add (gv 4) ge_int) ga_nil)))))) gb_nil) (gb_one (gs_ret (ge_tup (ga_cons (ge_tup (ga_cons (gv 8) (ga_cons (ge_call (C.call 12 rfl) rfl (ga_cons (gv 0) (ga_cons (gv 2) (ga_cons (gv 3) ga_nil)))) ga_nil))) (ga_cons ge_non (ga_cons (ge_op o_add (gv 4) ge_int) ga_nil)))))))))))⟩
theorem sc_told_by : FnScope ["value"] ["value"] (defScope (top 29)) := ⟨rfl, rfl, rfl, by decide +kernel, rfl, by decide +kernel, by decide +kernel⟩
theorem bd_told_by {K : PySem.W.Frag} {f : Addr} {fd : FuncData} (F : FunD K i_told_by.name i_told_by.qual (defArgs i_told_by.st) (defBody i_told_by.st) (defScope i_told_by.st) [] [] f fd) : Binds K fd i_told_by.ps [] := F.bindsN fun _ _ _ _ _ _ us hl => match us, hl with | [_], _ => rfl
theorem d_told_by : Good T i_told_by := ⟨sc_told_by, bd_told_by, fun {P w K mg base cl F f cdv A outer s H E} C => by
  show GB cl _ (defBody (top 29)) (b_told_by (F 13))
  exact (gb_one (gs_ret (ge_ix (ge_call (C.call 13 rfl) rfl (ga_cons (gv 0) (ga_cons ge_int ga_nil))) ge_int)))⟩
theorem sc_deduction_fault : FnScope ["formulas", "formula", "value", "found", "wrong", "_", "left", "other"] ["formulas", "formula", "value"] (defScope (top 30)) := ⟨rfl, rfl, rfl, by decide +kernel, rfl, by decide +kernel, by decide +kernel⟩
theorem bd_deduction_fault {K : PySem.W.Frag} {f : Addr} {fd : FuncData} (F : FunD K i_deduction_fault.name i_deduction_fault.qual (defArgs i_deduction_fault.st) (defBody i_deduction_fault.st) (defScope i_deduction_fault.st) [] [] f fd) : Binds K fd i_deduction_fault.ps [] := F.bindsN fun _ _ _ _ _ _ us hl => match us, hl with | [_, _, _], _ => rfl
theorem d_deduction_fault : Good T i_deduction_fault := ⟨sc_deduction_fault, bd_deduction_fault, fun {P w K mg base cl F f cdv A outer s H E} C => by
  show GB cl _ (defBody (top 30)) (b_deduction_fault (F 9) (F 13))
  exact (gb_cons (gs_if (gt_not (gt_val (ge_call (C.call 9 rfl) rfl (ga_cons (gv 2) (ga_cons (ge_globT (C.glob 6 rfl) rfl) ga_nil))))) (gb_one (gs_ret (ge_globT (C.glob 7 rfl) rfl))) gb_nil) (gb_cons (gs_asg (ge_call (C.call 13 rfl) rfl (ga_cons (gv 2) (ga_cons ge_int ga_nil))) (gg_tup rfl (ggs_cons (gg_name sc_deduction_fault.nd rfl (by first | exact Or.inl rfl | exact Or.inr rfl)) (ggs_cons (gg_name sc_deduction_fault.nd rfl (by first | exact Or.inl rfl | exact Or.inr rfl)) (ggs_cons (gg_name sc_deduction_fault.nd rfl (by first | exact Or.inl rfl | exact Or.inr rfl)) ggs_nil))))) (gb_cons (gs_if (gt_notN (gv 4)) (gb_one (gs_ret (gv 4))) gb_nil) (gb_cons (gs_if (gt_cmp (o_ne C.hu) (ge_ix (gv 3) ge_int) (gv 1)) (gb_one (gs_ret (ge_tup (ga_cons ge_str (ga_cons ge_int ga_nil))))) gb_nil) (gb_cons (gs_setCompS (own := [("other", 7)]) rfl sc_deduction_fault.nd rfl rfl (sw_true rfl rfl rfl (by decide +kernel)) (gi_seqS (ge_ix (gv 3) ge_int)) (blkOk_by (by show blkC ["formulas", "formula", "value", "found", "wrong", "_", "left", "other"] (defScope (top 30)) _ _ = true; decide +kernel)) (cg_name (by decide)) (fun _ _ _ _ _ => pg_name (i := 7) sc_deduction_fault.nd rfl (Or.inl rfl)) (fun _ _ _ _ _ => (gts_one (gt_cmp (o_nin C.hu1) (gv 7) (gv 0)))) (fun _ _ _ _ _ => (gv 7))) (gb_one (gs_ret (ge_ifExp (gt_cmp o_gt (ge_callB c_len rfl (C.free 4 rfl) (by rfl) (ga_cons (gv 6) ga_nil)) ge_int) (ge_tup (ga_cons ge_str (ga_cons (ge_callB c_len rfl (C.free 4 rfl) (by rfl) (ga_cons (gv 6) ga_nil)) ga_nil))) ge_non))))))))⟩
theorem sc_to_cuts : FnScope ["value", "word", "above", "told", "here", "nothing", "part"] ["value"] (defScope (top 31)) := ⟨rfl, rfl, rfl, by decide +kernel, rfl, by decide +kernel, by decide +kernel⟩
theorem bd_to_cuts {K : PySem.W.Frag} {f : Addr} {fd : FuncData} (F : FunD K i_to_cuts.name i_to_cuts.qual (defArgs i_to_cuts.st) (defBody i_to_cuts.st) (defScope i_to_cuts.st) [] [] f fd) : Binds K fd i_to_cuts.ps [] := F.bindsN fun _ _ _ _ _ _ us hl => match us, hl with | [_], _ => rfl
theorem d_to_cuts : Good T i_to_cuts := ⟨sc_to_cuts, bd_to_cuts, fun {P w K mg base cl F f cdv A outer s H E} C => by
  show GB cl _ (defBody (top 31)) (b_to_cuts (F 3) (F 16) (F 14) (F 10))
  exact (gb_cons (gs_set (i := 1) sc_to_cuts.nd rfl (by first | exact Or.inl rfl | exact Or.inr rfl) (ge_ix (gv 0) ge_int)) (gb_cons (gs_if (gt_cmp (o_eq C.hu) (gv 1) ge_str) (gb_one (gs_ret (ge_tup (ga_cons ge_str (ga_cons (ge_ix (gv 0) ge_int) ga_nil))))) gb_nil) (gb_cons (gs_setCompS (own := [("part", 6)]) rfl sc_to_cuts.nd rfl rfl (sw_true rfl rfl rfl (by decide +kernel)) (gi_seqS (ge_call (C.call 10 rfl) rfl (ga_cons (gv 0) ga_nil))) (blkOk_by (by show blkC ["value", "word", "above", "told", "here", "nothing", "part"] (defScope (top 31)) _ _ = true; decide +kernel)) (cg_name (by decide)) (fun _ _ _ _ _ => pg_name (i := 6) sc_to_cuts.nd rfl (Or.inl rfl)) (fun _ _ _ _ _ => gts_nil) (fun _ _ _ _ _ => (ge_call (C.call 16 rfl) rfl (ga_cons (gv 6) ga_nil)))) (gb_cons (gs_setCompS (own := [("part", 6)]) rfl sc_to_cuts.nd rfl rfl (sw_true rfl rfl rfl (by decide +kernel)) (gi_seqS (ge_call (C.call 10 rfl) rfl (ga_cons (gv 0) ga_nil))) (blkOk_by (by show blkC ["value", "word", "above", "told", "here", "nothing", "part"] (defScope (top 31)) _ _ = true; decide +kernel)) (cg_name (by decide)) (fun _ _ _ _ _ => pg_name (i := 6) sc_to_cuts.nd rfl (Or.inl rfl)) (fun _ _ _ _ _ => gts_nil) (fun _ _ _ _ _ => (ge_ix (ge_call (C.call 14 rfl) rfl (ga_cons (gv 6) ga_nil)) ge_int))) (gb_cons (gs_set (i := 4) sc_to_cuts.nd rfl (by first | exact Or.inl rfl | exact Or.inr rfl) (ge_ix (ge_call (C.call 14 rfl) rfl (ga_cons (gv 0) ga_nil)) ge_int)) (gb_cons (gs_if (gt_cmp (o_eq C.hu) (gv 1) ge_str) (gb_one (gs_ret (ge_tup (ga_cons ge_str (ga_cons (gv 4) (ga_cons (ge_ix (gv 2) ge_int) ga_nil)))))) gb_nil) (gb_cons (gs_if (gt_cmp (o_eq C.hu) (gv 1) ge_str) (gb_one (gs_ret (ge_tup (ga_cons ge_str (ga_cons (ge_ix (gv 3) ge_int) (ga_cons (ge_ix (gv 2) ge_int) (ga_cons (ge_tup (ga_cons ge_str (ga_cons (ge_ix (gv 3) ge_int) (ga_cons (ge_ix (gv 2) ge_int) (ga_cons (ge_tup (ga_cons ge_str (ga_cons (gv 4) ga_nil))) ga_nil))))) ga_nil))))))) gb_nil) (gb_cons (gs_if (gt_cmp (o_eq C.hu) (gv 1) ge_str) (gb_one (gs_ret (ge_tup (ga_cons ge_str (ga_cons (gv 4) (ga_cons (ge_ix (gv 2) ge_int) (ga_cons (ge_ix (gv 2) ge_int) ga_nil))))))) gb_nil) (gb_cons (gs_if (gt_cmp (o_in C.hu1) (gv 1) (ge_tup (ga_cons ge_str (ga_cons ge_str ga_nil)))) (gb_one (gs_ret (ge_tup (ga_cons ge_str (ga_cons (ge_ix (gv 3) ge_int) (ga_cons (ge_ix (gv 2) ge_int) (ga_cons (ge_tup (ga_cons ge_str (ga_cons (ge_ix (gv 3) ge_int) (ga_cons (ge_tup (ga_cons ge_str (ga_cons (gv 4) ga_nil))) ga_nil)))) ga_nil))))))) gb_nil) (gb_cons (gs_if (gt_cmp (o_in C.hu1) (gv 1) (ge_tup (ga_cons ge_str (ga_cons ge_str ga_nil)))) (gb_one (gs_ret (ge_tup (ga_cons ge_str (ga_cons (gv 4) (ga_cons (ge_ix (gv 2) ge_int) ga_nil)))))) gb_nil) (gb_cons (gs_if (gt_cmp (o_eq C.hu) (gv 1) ge_str) (gb_one (gs_ret (ge_tup (ga_cons ge_str (ga_cons (ge_ix (gv 3) ge_int) (ga_cons (ge_ix (gv 2) ge_int) (ga_cons (ge_tup (ga_cons ge_str (ga_cons (ge_ix (gv 3) ge_int) (ga_cons (ge_ix (gv 2) ge_int) (ga_cons (ge_ix (gv 2) ge_int) ga_nil))))) ga_nil))))))) gb_nil) (gb_cons (gs_set (i := 5) sc_to_cuts.nd rfl (by first | exact Or.inl rfl | exact Or.inr rfl) (ge_tup (ga_cons ge_str (ga_cons (ge_globT (C.glob 2 rfl) rfl) (ga_cons (ge_ix (gv 2) ge_int) (ga_cons (ge_tup (ga_cons ge_str ga_nil)) ga_nil)))))) (gb_cons (gs_if (gt_cmp (o_eq C.hu) (gv 1) ge_str) (gb_one (gs_ret (gv 5))) gb_nil) (gb_one (gs_ret (ge_tup (ga_cons ge_str (ga_cons (ge_call (C.call 3 rfl) rfl (ga_cons (gv 4) ga_nil)) (ga_cons (ge_tup (ga_cons ge_str (ga_cons (ge_call (C.call 3 rfl) rfl (ga_cons (gv 4) ga_nil)) (ga_cons (ge_tup (ga_cons ge_str (ga_cons (gv 4) ga_nil))) ga_nil)))) (ga_cons (gv 5) ga_nil))))))))))))))))))))⟩
theorem sc_size : FnScope ["value", "part"] ["value"] (defScope (top 32)) := ⟨rfl, rfl, rfl, by decide +kernel, rfl, by decide +kernel, by decide +kernel⟩
theorem bd_size {K : PySem.W.Frag} {f : Addr} {fd : FuncData} (F : FunD K i_size.name i_size.qual (defArgs i_size.st) (defBody i_size.st) (defScope i_size.st) [] [] f fd) : Binds K fd i_size.ps [] := F.bindsN fun _ _ _ _ _ _ us hl => match us, hl with | [_], _ => rfl
theorem d_size : Good T i_size := ⟨sc_size, bd_size, fun {P w K mg base cl F f cdv A outer s H E} C => by
  show GB cl _ (defBody (top 32)) (b_size (F 17) (F 10))
  exact (gb_one (gs_ret (ge_op o_add ge_int (ge_callB (c_sum rfl) rfl (C.free 11 rfl) (by rfl) (ga_cons (ge_compS (own := [("part", 1)]) rfl sc_size.nd (gi_seqS (ge_call (C.call 10 rfl) rfl (ga_cons (gv 0) ga_nil))) (blkOk_by (by show blkC ["value", "part"] (defScope (top 32)) _ _ = true; decide +kernel)) (cg_name (by decide)) (fun _ _ _ _ _ => pg_name (i := 1) sc_size.nd rfl (Or.inl rfl)) (fun _ _ _ _ _ => gts_nil) (fun _ _ _ _ _ => (ge_call (C.call 17 rfl) rfl (ga_cons (gv 1) ga_nil)))) ga_nil)))))⟩
theorem sc_is_plain : FnScope ["value", "part"] ["value"] (defScope (top 33)) := ⟨rfl, rfl, rfl, by decide +kernel, rfl, by decide +kernel, by decide +kernel⟩
theorem bd_is_plain {K : PySem.W.Frag} {f : Addr} {fd : FuncData} (F : FunD K i_is_plain.name i_is_plain.qual (defArgs i_is_plain.st) (defBody i_is_plain.st) (defScope i_is_plain.st) [] [] f fd) : Binds K fd i_is_plain.ps [] := F.bindsN fun _ _ _ _ _ _ us hl => match us, hl with | [_], _ => rfl
theorem d_is_plain : Good T i_is_plain := ⟨sc_is_plain, bd_is_plain, fun {P w K mg base cl F f cdv A outer s H E} C => by
  show GB cl _ (defBody (top 33)) (b_is_plain (F 18) (F 10))
  exact (gb_one (gs_ret (ge_and (ge_cmp (o_ne C.hu) (ge_ix (gv 0) ge_int) ge_str) (ge_one (ge_callB (c_all rfl) rfl (C.free 8 rfl) (by rfl) (ga_cons (ge_compS (own := [("part", 1)]) rfl sc_is_plain.nd (gi_seqS (ge_call (C.call 10 rfl) rfl (ga_cons (gv 0) ga_nil))) (blkOk_by (by show blkC ["value", "part"] (defScope (top 33)) _ _ = true; decide +kernel)) (cg_name (by decide)) (fun _ _ _ _ _ => pg_name (i := 1) sc_is_plain.nd rfl (Or.inl rfl)) (fun _ _ _ _ _ => gts_nil) (fun _ _ _ _ _ => (ge_call (C.call 18 rfl) rfl (ga_cons (gv 1) ga_nil)))) ga_nil))))))⟩
theorem sc_denied : FnScope ["formula", "made"] ["formula", "made"] (defScope (top 35)) := ⟨rfl, rfl, rfl, by decide +kernel, rfl, by decide +kernel, by decide +kernel⟩
theorem bd_denied {K : PySem.W.Frag} {f : Addr} {fd : FuncData} (F : FunD K i_denied.name i_denied.qual (defArgs i_denied.st) (defBody i_denied.st) (defScope i_denied.st) [] [] f fd) : Binds K fd i_denied.ps [] := F.bindsN fun _ _ _ _ _ _ us hl => match us, hl with | [_, _], _ => rfl
theorem d_denied : Good T i_denied := ⟨sc_denied, bd_denied, fun {P w K mg base cl F f cdv A outer s H E} C => by
  show GB cl _ (defBody (top 35)) (b_denied (F 3))
  exact (gb_one (gs_ret (ge_tup (ga_cons ge_str (ga_cons (ge_call (C.call 3 rfl) rfl (ga_cons (gv 0) ga_nil)) (ga_cons (gv 1) ga_nil))))))⟩
theorem sc_clash_doubles : FnScope ["formula", "made"] ["formula", "made"] (defScope (top 36)) := ⟨rfl, rfl, rfl, by decide +kernel, rfl, by decide +kernel, by decide +kernel⟩
theorem bd_clash_doubles {K : PySem.W.Frag} {f : Addr} {fd : FuncData} (F : FunD K i_clash_doubles.name i_clash_doubles.qual (defArgs i_clash_doubles.st) (defBody i_clash_doubles.st) (defScope i_clash_doubles.st) [] [] f fd) : Binds K fd i_clash_doubles.ps [] := F.bindsN fun _ _ _ _ _ _ us hl => match us, hl with | [_, _], _ => rfl
theorem d_clash_doubles : Good T i_clash_doubles := ⟨sc_clash_doubles, bd_clash_doubles, fun {P w K mg base cl F f cdv A outer s H E} C => by
  show GB cl _ (defBody (top 36)) (b_clash_doubles (F 3))
  exact (gb_one (gs_ret (ge_tup (ga_cons ge_str (ga_cons (ge_tup (ga_cons ge_str (ga_cons (ge_call (C.call 3 rfl) rfl (ga_cons (gv 0) ga_nil)) ga_nil))) (ga_cons (gv 1) ga_nil))))))⟩
theorem sc_taken : FnScope ["twice", "formula", "rest"] ["twice", "formula", "rest"] (defScope (top 37)) := ⟨rfl, rfl, rfl, by decide +kernel, rfl, by decide +kernel, by decide +kernel⟩
theorem bd_taken {K : PySem.W.Frag} {f : Addr} {fd : FuncData} (F : FunD K i_taken.name i_taken.qual (defArgs i_taken.st) (defBody i_taken.st) (defScope i_taken.st) [] [] f fd) : Binds K fd i_taken.ps [] := F.bindsN fun _ _ _ _ _ _ us hl => match us, hl with | [_, _, _], _ => rfl
theorem d_taken : Good T i_taken := ⟨sc_taken, bd_taken, fun {P w K mg base cl F f cdv A outer s H E} C => by
  show GB cl _ (defBody (top 37)) (b_taken)
  exact (gb_one (gs_ret (ge_tup (ga_cons ge_str (ga_cons (gv 0) (ga_cons (ge_tup (ga_cons ge_str (ga_cons (gv 1) (ga_cons (gv 2) ga_nil)))) ga_nil))))))⟩
theorem sc_doubled : FnScope ["value", "word", "here", "above", "told", "end", "kept", "led", "pair", "ways", "part"] ["value"] (defScope (top 38)) := ⟨rfl, rfl, rfl, by decide +kernel, rfl, by decide +kernel, by decide +kernel⟩
theorem bd_doubled {K : PySem.W.Frag} {f : Addr} {fd : FuncData} (F : FunD K i_doubled.name i_doubled.qual (defArgs i_doubled.st) (defBody i_doubled.st) (defScope i_doubled.st) [] [] f fd) : Binds K fd i_doubled.ps [] := F.bindsN fun _ _ _ _ _ _ us hl => match us, hl with | [_], _ => rfl
theorem d_doubled : Good T i_doubled := ⟨sc_doubled, bd_doubled, fun {P w K mg base cl F f cdv A outer s H E} C => by
  show GB cl _ (defBody (top 38)) (b_doubled (F 20) (F 3) (F 19) (F 22) (F 21) (F 14) (F 10))
  exact (gb_cons (gs_set (i := 1) sc_doubled.nd rfl (by first | exact Or.inl rfl | exact Or.inr rfl) (ge_ix (gv 0) ge_int)) (gb_cons (gs_set (i := 2) sc_doubled.nd rfl (by first | exact Or.inl rfl | exact Or.inr rfl) (ge_ix (ge_call (C.call 14 rfl) rfl (ga_cons (gv 0) ga_nil)) ge_int)) (gb_cons (gs_if (gt_cmp (o_eq C.hu) (gv 1) ge_str) (gb_one (gs_ret (ge_call (C.call 19 rfl) rfl (ga_cons (gv 2) (ga_cons (ge_call (C.call 20 rfl) rfl (ga_cons (gv 2) (ga_cons (gv 0) ga_nil))) ga_nil))))) gb_nil) (gb_cons (gs_setCompS (own := [("part", 10)]) rfl sc_doubled.nd rfl rfl (sw_true rfl rfl rfl (by decide +kernel)) (gi_seqS (ge_call (C.call 10 rfl) rfl (ga_cons (gv 0) ga_nil))) (blkOk_by (by show blkC ["value", "word", "here", "above", "told", "end", "kept", "led", "pair", "ways", "part"] (defScope (top 38)) _ _ = true; decide +kernel)) (cg_name (by decide)) (fun _ _ _ _ _ => pg_name (i := 10) sc_doubled.nd rfl (Or.inl rfl)) (fun _ _ _ _ _ => gts_nil) (fun _ _ _ _ _ => (ge_call (C.call 22 rfl) rfl (ga_cons (gv 10) ga_nil)))) (gb_cons (gs_setCompS (own := [("part", 10)]) rfl sc_doubled.nd rfl rfl (sw_true rfl rfl rfl (by decide +kernel)) (gi_seqS (ge_call (C.call 10 rfl) rfl (ga_cons (gv 0) ga_nil))) (blkOk_by (by show blkC ["value", "word", "here", "above", "told", "end", "kept", "led", "pair", "ways", "part"] (defScope (top 38)) _ _ = true; decide +kernel)) (cg_name (by decide)) (fun _ _ _ _ _ => pg_name (i := 10) sc_doubled.nd rfl (Or.inl rfl)) (fun _ _ _ _ _ => gts_nil) (fun _ _ _ _ _ => (ge_ix (ge_call (C.call 14 rfl) rfl (ga_cons (gv 10) ga_nil)) ge_int))) (gb_cons (gs_if (gt_cmp (o_eq C.hu) (gv 1) ge_str) (gb_cons (gs_set (i := 5) sc_doubled.nd rfl (by first | exact Or.inl rfl | exact Or.inr rfl) (ge_ix (gv 2) ge_int)) (gb_cons (gs_set (i := 6) sc_doubled.nd rfl (by first | exact Or.inl rfl | exact Or.inr rfl) (ge_tup (ga_cons ge_str (ga_cons (gv 5) (ga_cons (ge_call (C.call 20 rfl) rfl (ga_cons (gv 2) (ga_cons (ge_tup (ga_cons ge_str (ga_cons (ge_ix (gv 2) ge_int) (ga_cons (ge_tup (ga_cons ge_str (ga_cons (gv 5) ga_nil))) ga_nil)))) ga_nil))) ga_nil))))) (gb_one (gs_ret (ge_call (C.call 19 rfl) rfl (ga_cons (gv 2) (ga_cons (ge_call (C.call 20 rfl) rfl (ga_cons (gv 2) (ga_cons (ge_tup (ga_cons ge_str (ga_cons (ge_ix (gv 2) ge_int) (ga_cons (ge_tup (ga_cons ge_str (ga_cons (gv 5) (ga_cons (ge_tup (ga_cons ge_str (ga_cons (ge_ix (gv 3) ge_int) (ga_cons (gv 6) ga_nil)))) ga_nil)))) ga_nil)))) ga_nil))) ga_nil))))))) gb_nil) (gb_cons (gs_if (gt_cmp (o_eq C.hu) (gv 1) ge_str) (gb_cons (gs_set (i := 7) sc_doubled.nd rfl (by first | exact Or.inl rfl | exact Or.inr rfl) (ge_tup (ga_cons ge_str (ga_cons (ge_tup (ga_cons ge_str (ga_cons (ge_ix (gv 4) ge_int) ga_nil))) (ga_cons (ge_tup (ga_cons ge_str (ga_cons (ge_ix (gv 4) ge_int) ga_nil))) ga_nil))))) (gb_one (gs_ret (ge_call (C.call 19 rfl) rfl (ga_cons (gv 2) (ga_cons (ge_call (C.call 21 rfl) rfl (ga_cons (ge_ix (gv 3) ge_int) (ga_cons (ge_ix (gv 4) ge_int) (ga_cons (ge_call (C.call 21 rfl) rfl (ga_cons (ge_ix (gv 3) ge_int) (ga_cons (ge_ix (gv 4) ge_int) (ga_cons (ge_call (C.call 20 rfl) rfl (ga_cons (gv 2) (ga_cons (gv 7) ga_nil))) ga_nil)))) ga_nil)))) ga_nil)))))) gb_nil) (gb_cons (gs_if (gt_cmp (o_eq C.hu) (gv 1) ge_str) (gb_cons (gs_set (i := 8) sc_doubled.nd rfl (by first | exact Or.inl rfl | exact Or.inr rfl) (ge_tup (ga_cons ge_str (ga_cons (ge_tup (ga_cons ge_str (ga_cons (ge_ix (gv 4) ge_int) ga_nil))) (ga_cons (ge_tup (ga_cons ge_str (ga_cons (ge_ix (gv 4) ge_int) ga_nil))) ga_nil))))) (gb_one (gs_ret (ge_call (C.call 19 rfl) rfl (ga_cons (gv 2) (ga_cons (ge_call (C.call 21 rfl) rfl (ga_cons (ge_ix (gv 3) ge_int) (ga_cons (ge_ix (gv 4) ge_int) (ga_cons (ge_call (C.call 21 rfl) rfl (ga_cons (ge_ix (gv 3) ge_int) (ga_cons (ge_ix (gv 4) ge_int) (ga_cons (ge_call (C.call 20 rfl) rfl (ga_cons (gv 2) (ga_cons (gv 8) ga_nil))) ga_nil)))) ga_nil)))) ga_nil)))))) gb_nil) (gb_cons (gs_if (gt_cmp (o_in C.hu1) (gv 1) (ge_tup (ga_cons ge_str (ga_cons ge_str ga_nil)))) (gb_one (gs_ret (ge_call (C.call 19 rfl) rfl (ga_cons (gv 2) (ga_cons (ge_call (C.call 21 rfl) rfl (ga_cons (ge_ix (gv 3) ge_int) (ga_cons (ge_ix (gv 4) ge_int) (ga_cons (ge_call (C.call 20 rfl) rfl (ga_cons (gv 2) (ga_cons (ge_tup (ga_cons (gv 1) (ga_cons (ge_tup (ga_cons ge_str (ga_cons (ge_ix (gv 4) ge_int) ga_nil))) ga_nil))) ga_nil))) ga_nil)))) ga_nil))))) gb_nil) (gb_cons (gs_if (gt_cmp (o_in C.hu1) (gv 1) (ge_tup (ga_cons ge_str (ga_cons ge_str ga_nil)))) (gb_one (gs_ret (ge_call (C.call 19 rfl) rfl (ga_cons (gv 2) (ga_cons (ge_call (C.call 21 rfl) rfl (ga_cons (ge_ix (gv 3) ge_int) (ga_cons (ge_ix (gv 4) ge_int) (ga_cons (ge_call (C.call 20 rfl) rfl (ga_cons (gv 2) (ga_cons (ge_tup (ga_cons (gv 1) (ga_cons (ge_ix (gv 0) ge_int) (ga_cons (ge_tup (ga_cons ge_str (ga_cons (ge_ix (gv 4) ge_int) ga_nil))) ga_nil)))) ga_nil))) ga_nil)))) ga_nil))))) gb_nil) (gb_cons (gs_if (gt_cmp (o_eq C.hu) (gv 1) ge_str) (gb_cons (gs_setCompS (own := [("part", 10)]) rfl sc_doubled.nd rfl rfl (sw_true rfl rfl rfl (by decide +kernel)) (gi_seqS (ge_sl (gv 3) (gp_some ge_int) gp_none)) (blkOk_by (by show blkC ["value", "word", "here", "above", "told", "end", "kept", "led", "pair", "ways", "part"] (defScope (top 38)) _ _ = true; decide +kernel)) (cg_name (by decide)) (fun _ _ _ _ _ => pg_name (i := 10) sc_doubled.nd rfl (Or.inl rfl)) (fun _ _ _ _ _ => gts_nil) (fun _ _ _ _ _ => (ge_tup (ga_cons ge_str (ga_cons (gv 10) (ga_cons (ge_tup (ga_cons ge_str (ga_cons (ge_call (C.call 3 rfl) rfl (ga_cons (gv 2) ga_nil)) ga_nil))) ga_nil)))))) (gb_one (gs_ret (ge_call (C.call 19 rfl) rfl (ga_cons (gv 2) (ga_cons (ge_call (C.call 21 rfl) rfl (ga_cons (ge_ix (gv 3) ge_int) (ga_cons (ge_ix (gv 4) ge_int) (ga_cons (ge_tup (ga_cons ge_str (ga_cons (ge_tup (ga_cons ge_str (ga_cons (ge_ix (gv 4) ge_int) ga_nil))) (ga_cons (ge_ix (gv 9) ge_int) (ga_cons (ge_ix (gv 9) ge_int) ga_nil))))) ga_nil)))) ga_nil)))))) gb_nil) (gb_one (gs_ret (ge_call (C.call 19 rfl) rfl (ga_cons (gv 2) (ga_cons (ge_tup (ga_cons ge_str (ga_cons (ge_ix (gv 3) ge_int) (ga_cons (ge_tup (ga_cons ge_str (ga_cons (ge_globT (C.glob 2 rfl) rfl) (ga_cons (ge_tup (ga_cons ge_str (ga_cons (ge_globT (C.glob 2 rfl) rfl) ga_nil))) ga_nil)))) ga_nil)))) ga_nil))))))))))))))))⟩
theorem sc_twice : FnScope ["formula"] ["formula"] (defScope (top 39)) := ⟨rfl, rfl, rfl, by decide +kernel, rfl, by decide +kernel, by decide +kernel⟩
theorem bd_twice {K : PySem.W.Frag} {f : Addr} {fd : FuncData} (F : FunD K i_twice.name i_twice.qual (defArgs i_twice.st) (defBody i_twice.st) (defScope i_twice.st) [] [] f fd) : Binds K fd i_twice.ps [] := F.bindsN fun _ _ _ _ _ _ us hl => match us, hl with | [_], _ => rfl
theorem d_twice : Good T i_twice := ⟨sc_twice, bd_twice, fun {P w K mg base cl F f cdv A outer s H E} C => by
  show GB cl _ (defBody (top 39)) (b_twice (F 3))
  exact (gb_one (gs_ret (ge_call (C.call 3 rfl) rfl (ga_cons (ge_call (C.call 3 rfl) rfl (ga_cons (gv 0) ga_nil)) ga_nil))))⟩
theorem sc_put_in_shortening : FnScope ["value", "formula", "made", "word", "choice", "ways", "told", "k", "part"] ["value", "formula", "made"] (defScope (top 41)) := ⟨rfl, rfl, rfl, by decide +kernel, rfl, by decide +kernel, by decide +kernel⟩
theorem bd_put_in_shortening {K : PySem.W.Frag} {f : Addr} {fd : FuncData} (F : FunD K i_put_in_shortening.name i_put_in_shortening.qual (defArgs i_put_in_shortening.st) (defBody i_put_in_shortening.st) (defScope i_put_in_shortening.st) [] [] f fd) : Binds K fd i_put_in_shortening.ps [] := F.bindsN fun _ _ _ _ _ _ us hl => match us, hl with | [_, _, _], _ => rfl
theorem d_put_in_shortening : Good T i_put_in_shortening := ⟨sc_put_in_shortening, bd_put_in_shortening, fun {P w K mg base cl F f cdv A outer s H E} C => by
  show GB cl _ (defBody (top 41)) (b_put_in_shortening (F 3) (F 24) (F 14))
  exact (gb_cons (gs_set (i := 3) sc_put_in_shortening.nd rfl (by first | exact Or.inl rfl | exact Or.inr rfl) (ge_ix (gv 0) ge_int)) (gb_cons (gs_if (gt_cmp (o_eq C.hu) (gv 3) ge_str) (gb_one (gs_ret (ge_ifExp (gt_cmp (o_eq C.hu) (ge_ix (gv 0) ge_int) (gv 1)) (gv 2) (gv 0)))) gb_nil) (gb_cons (gs_if (gw_pt (gw_and (gt_cmp (o_eq C.hu) (gv 3) ge_str) (gw_and1 (gt_cmp (o_eq C.hu) (ge_ix (gv 0) ge_int) (gv 1))))) (gb_one (gs_ret (gv 0))) gb_nil) (gb_cons (gs_if (gw_pt (gw_and (gt_cmp (o_eq C.hu) (gv 3) ge_str) (gw_and1 (gt_cmp (o_eq C.hu) (ge_call (C.call 3 rfl) rfl (ga_cons (ge_ix (gv 0) ge_int) ga_nil)) (gv 1))))) (gb_one (gs_ret (gv 0))) gb_nil) (gb_cons (gs_if (gt_cmp (o_eq C.hu) (gv 3) ge_str) (gb_cons (gs_set (i := 4) sc_put_in_shortening.nd rfl (by first | exact Or.inl rfl | exact Or.inr rfl) (ge_ix (ge_call (C.call 14 rfl) rfl (ga_cons (ge_ix (gv 0) ge_int) ga_nil)) ge_int)) (gb_cons (gs_setCompS (own := [("k", 7)]) rfl sc_put_in_shortening.nd rfl rfl (sw_true rfl rfl rfl (by decide +kernel)) (gi_seqS (ge_tup (ga_cons ge_int (ga_cons ge_int ga_nil)))) (blkOk_by (by show blkC ["value", "formula", "made", "word", "choice", "ways", "told", "k", "part"] (defScope (top 41)) _ _ = true; decide +kernel)) (cg_name (by decide)) (fun _ _ _ _ _ => pg_name (i := 7) sc_put_in_shortening.nd rfl (Or.inl rfl)) (fun _ _ _ _ _ => gts_nil) (fun _ _ _ _ _ => (ge_ifExp (gt_cmp (o_eq C.hu) (ge_ix (gv 4) (gv 7)) (gv 1)) (ge_ix (gv 0) (ge_op o_add (gv 7) ge_int)) (ge_call (C.call 24 rfl) rfl (ga_cons (ge_ix (gv 0) (ge_op o_add (gv 7) ge_int)) (ga_cons (gv 1) (ga_cons (gv 2) ga_nil))))))) (gb_one (gs_ret (ge_tup (ga_cons ge_str (ga_cons (ge_call (C.call 24 rfl) rfl (ga_cons (ge_ix (gv 0) ge_int) (ga_cons (gv 1) (ga_cons (gv 2) ga_nil)))) (ga_cons (ge_ix (gv 5) ge_int) (ga_cons (ge_ix (gv 5) ge_int) ga_nil))))))))) gb_nil) (gb_cons (gs_set (i := 6) sc_put_in_shortening.nd rfl (by first | exact Or.inl rfl | exact Or.inr rfl) (ge_op o_add ge_int (ge_ix (ge_kget (C.dct 1 rfl) rfl (gv 3)) ge_int))) (gb_one (gs_ret (ge_op o_add (ge_sl (gv 0) gp_none (gp_some (gv 6))) (ge_callTy c_tuple rfl (C.free 3 rfl) (by rfl) (ga_cons (ge_compS (own := [("part", 8)]) rfl sc_put_in_shortening.nd (gi_seqS (ge_sl (gv 0) (gp_some (gv 6)) gp_none)) (blkOk_by (by show blkC ["value", "formula", "made", "word", "choice", "ways", "told", "k", "part"] (defScope (top 41)) _ _ = true; decide +kernel)) (cg_name (by decide)) (fun _ _ _ _ _ => pg_name (i := 8) sc_put_in_shortening.nd rfl (Or.inl rfl)) (fun _ _ _ _ _ => gts_nil) (fun _ _ _ _ _ => (ge_call (C.call 24 rfl) rfl (ga_cons (gv 8) (ga_cons (gv 1) (ga_cons (gv 2) ga_nil)))))) ga_nil)))))))))))⟩
theorem sc_shorter : FnScope ["value", "word", "k"] ["value"] (defScope (top 42)) := ⟨rfl, rfl, rfl, by decide +kernel, rfl, by decide +kernel, by decide +kernel⟩
theorem bd_shorter {K : PySem.W.Frag} {f : Addr} {fd : FuncData} (F : FunD K i_shorter.name i_shorter.qual (defArgs i_shorter.st) (defBody i_shorter.st) (defScope i_shorter.st) [] [] f fd) : Binds K fd i_shorter.ps [] := F.bindsN fun _ _ _ _ _ _ us hl => match us, hl with | [_], _ => rfl
theorem d_shorter : Good T i_shorter := ⟨sc_shorter, bd_shorter, fun {P w K mg base cl F f cdv A outer s H E} C => by
  show GB cl _ (defBody (top 42)) (b_shorter (F 24) (F 14))
  exact (gb_cons (gs_set (i := 1) sc_shorter.nd rfl (by first | exact Or.inl rfl | exact Or.inr rfl) (ge_ix (gv 0) ge_int)) (gb_cons (gs_if (gw_pt (gw_and (gt_cmp (o_eq C.hu) (gv 1) ge_str) (gw_and1 (gt_cmp (o_eq C.hu) (ge_ix (ge_ix (gv 0) ge_int) ge_int) ge_str)))) (gb_one (gs_ret (ge_call (C.call 24 rfl) rfl (ga_cons (ge_ix (ge_ix (gv 0) ge_int) ge_int) (ga_cons (ge_ix (ge_ix (gv 0) ge_int) ge_int) (ga_cons (ge_ix (gv 0) ge_int) ga_nil)))))) gb_nil) (gb_cons (gs_if (gw_pt (gw_and (gt_cmp (o_in C.hu1) (gv 1) (ge_tup (ga_cons ge_str (ga_cons ge_str ga_nil)))) (gw_and1 (gt_cmp (o_eq C.hu) (ge_ix (ge_ix (gv 0) ge_int) ge_int) ge_str)))) (gb_one (gs_ret (ge_ix (ge_ix (gv 0) ge_int) (ge_lastDigit rfl (C.free 1 rfl) (gv 1))))) gb_nil) (gb_cons (gs_if (gw_pt (gw_and (gt_cmp (o_eq C.hu) (gv 1) ge_str) (gw_and1 (gt_cmp (o_in C.hu1) (ge_ix (ge_ix (gv 0) ge_int) ge_int) (ge_tup (ga_cons ge_str (ga_cons ge_str ga_nil))))))) (gb_cons (gs_set (i := 2) sc_shorter.nd rfl (by first | exact Or.inl rfl | exact Or.inr rfl) (ge_lastDigit rfl (C.free 1 rfl) (ge_ix (ge_ix (gv 0) ge_int) ge_int))) (gb_one (gs_ret (ge_call (C.call 24 rfl) rfl (ga_cons (ge_ix (gv 0) (ge_op o_add ge_int (gv 2))) (ga_cons (ge_ix (ge_ix (ge_call (C.call 14 rfl) rfl (ga_cons (ge_ix (gv 0) ge_int) ga_nil)) ge_int) (gv 2)) (ga_cons (ge_ix (ge_ix (gv 0) ge_int) ge_int) ga_nil))))))) gb_nil) (gb_one (gs_ret ge_non))))))⟩
theorem sc_roundabouts : FnScope ["value", "part"] ["value"] (defScope (top 43)) := ⟨rfl, rfl, rfl, by decide +kernel, rfl, by decide +kernel, by decide +kernel⟩
theorem bd_roundabouts {K : PySem.W.Frag} {f : Addr} {fd : FuncData} (F : FunD K i_roundabouts.name i_roundabouts.qual (defArgs i_roundabouts.st) (defBody i_roundabouts.st) (defScope i_roundabouts.st) [] [] f fd) : Binds K fd i_roundabouts.ps [] := F.bindsN fun _ _ _ _ _ _ us hl => match us, hl with | [_], _ => rfl
theorem d_roundabouts : Good T i_roundabouts := ⟨sc_roundabouts, bd_roundabouts, fun {P w K mg base cl F f cdv A outer s H E} C => by
  show GB cl _ (defBody (top 43)) (b_roundabouts (F 26) (F 25) (F 10))
  exact (gb_one (gs_ret (ge_op o_add (ge_callTy c_int rfl (C.free 1 rfl) (by rfl) (ga_cons (ge_notN (ge_call (C.call 25 rfl) rfl (ga_cons (gv 0) ga_nil))) ga_nil)) (ge_callB (c_sum rfl) rfl (C.free 11 rfl) (by rfl) (ga_cons (ge_compS (own := [("part", 1)]) rfl sc_roundabouts.nd (gi_seqS (ge_call (C.call 10 rfl) rfl (ga_cons (gv 0) ga_nil))) (blkOk_by (by show blkC ["value", "part"] (defScope (top 43)) _ _ = true; decide +kernel)) (cg_name (by decide)) (fun _ _ _ _ _ => pg_name (i := 1) sc_roundabouts.nd rfl (Or.inl rfl)) (fun _ _ _ _ _ => gts_nil) (fun _ _ _ _ _ => (ge_call (C.call 26 rfl) rfl (ga_cons (gv 1) ga_nil)))) ga_nil)))))⟩
theorem sc_once : FnScope ["value", "found", "told", "k", "part"] ["value"] (defScope (top 44)) := ⟨rfl, rfl, rfl, by decide +kernel, rfl, by decide +kernel, by decide +kernel⟩
theorem bd_once {K : PySem.W.Frag} {f : Addr} {fd : FuncData} (F : FunD K i_once.name i_once.qual (defArgs i_once.st) (defBody i_once.st) (defScope i_once.st) [] [] f fd) : Binds K fd i_once.ps [] := F.bindsN fun _ _ _ _ _ _ us hl => match us, hl with | [_], _ => rfl
theorem d_once : Good T i_once := ⟨sc_once, bd_once, fun {P w K mg base cl F f cdv A outer s H E} C => by
  show GB cl _ (defBody (top 44)) (b_once (F 27) (F 25))
  exact (gb_cons (gs_set (i := 1) sc_once.nd rfl (by first | exact Or.inl rfl | exact Or.inr rfl) (ge_call (C.call 25 rfl) rfl (ga_cons (gv 0) ga_nil))) (gb_cons (gs_if (gt_notN (gv 1)) (gb_one (gs_ret (gv 1))) gb_nil) (gb_cons (gs_set (i := 2) sc_once.nd rfl (by first | exact Or.inl rfl | exact Or.inr rfl) (ge_op o_add ge_int (ge_ix (ge_kget (C.dct 1 rfl) rfl (ge_ix (gv 0) ge_int)) ge_int))) (gb_cons (gs_for PassesOwn.never rfl (gi_rg2 rfl (C.free 10 rfl) (ga_cons (gv 2) (ga_cons (ge_callB c_len rfl (C.free 4 rfl) (by rfl) (ga_cons (gv 0) ga_nil)) ga_nil))) (gg_name sc_once.nd rfl (by first | exact Or.inl rfl | exact Or.inr rfl)) (gb_cons (gs_set (i := 4) sc_once.nd rfl (by first | exact Or.inl rfl | exact Or.inr rfl) (ge_call (C.call 27 rfl) rfl (ga_cons (ge_ix (gv 0) (gv 3)) ga_nil))) (gb_one (gs_if (gt_notN (gv 4)) (gb_one (gs_ret (ge_op o_add (ge_op o_add (ge_sl (gv 0) gp_none (gp_some (gv 3))) (ge_tup (ga_cons (gv 4) ga_nil))) (ge_sl (gv 0) (gp_some (ge_op o_add (gv 3) ge_int)) gp_none)))) gb_nil)))) (gb_one (gs_ret ge_non))))))⟩
theorem sc_shortened : FnScope ["value", "most", "_", "found"] ["value", "most"] (defScope (top 45)) := ⟨rfl, rfl, rfl, by decide +kernel, rfl, by decide +kernel, by decide +kernel⟩
theorem bd_shortened {K : PySem.W.Frag} {f : Addr} {fd : FuncData} (F : FunD K i_shortened.name i_shortened.qual (defArgs i_shortened.st) (defBody i_shortened.st) (defScope i_shortened.st) [] [] f fd) : Binds K fd i_shortened.ps [] := F.bindsN fun _ _ _ _ _ _ us hl => match us, hl with | [_, _], _ => rfl
theorem d_shortened : Good T i_shortened := ⟨sc_shortened, bd_shortened, fun {P w K mg base cl F f cdv A outer s H E} C => by
  show GB cl _ (defBody (top 45)) (b_shortened (F 27))
  exact (gb_cons (gs_for PassesOwn.never rfl (gi_rg1 rfl (C.free 10 rfl) (ga_cons (gv 1) ga_nil)) (gg_name sc_shortened.nd rfl (by first | exact Or.inl rfl | exact Or.inr rfl)) (gb_cons (gs_set (i := 3) sc_shortened.nd rfl (by first | exact Or.inl rfl | exact Or.inr rfl) (ge_call (C.call 27 rfl) rfl (ga_cons (gv 0) ga_nil))) (gb_cons (gs_if (gt_isN (gv 3)) (gb_one (gs_ret (gv 0))) gb_nil) (gb_one (gs_set (i := 0) sc_shortened.nd rfl (by first | exact Or.inl rfl | exact Or.inr rfl) (gv 3)))))) (gb_one (gs_ret (gv 0))))⟩
theorem sc__law_pool : FnScope ["script", "salt", "cell"] ["script"] (defScope (top 47)) := ⟨rfl, rfl, rfl, by decide +kernel, rfl, by decide +kernel, by decide +kernel⟩
theorem bd__law_pool {K : PySem.W.Frag} {f : Addr} {fd : FuncData} (F : FunD K i__law_pool.name i__law_pool.qual (defArgs i__law_pool.st) (defBody i__law_pool.st) (defScope i__law_pool.st) [] [] f fd) : Binds K fd i__law_pool.ps [] := F.bindsN fun _ _ _ _ _ _ us hl => match us, hl with | [_], _ => rfl
theorem d__law_pool : Good T i__law_pool := ⟨sc__law_pool, bd__law_pool, fun {P w K mg base cl F f cdv A outer s H E} C => by
  show GB cl _ (defBody (top 47)) (b__law_pool)
  exact (gb_cons (gs_set (i := 1) sc__law_pool.nd rfl (by first | exact Or.inl rfl | exact Or.inr rfl) ge_int) (gb_cons (gs_forS PassesOwn.never rfl (gi_seqS (ge_sl (gv 0) gp_none (gp_some ge_int))) (gg_name sc__law_pool.nd rfl (by first | exact Or.inl rfl | exact Or.inr rfl)) (gb_one (gs_set (i := 1) sc__law_pool.nd rfl (by first | exact Or.inl rfl | exact Or.inr rfl) (ge_op o_mod (ge_callTy c_int rfl (C.free 1 rfl) (by rfl) (ga_cons (ge_op o_add (ge_op o_mul (gv 1) ge_int) (gv 2)) ga_nil)) ge_int)))) (gb_one (gs_ret (ge_newL (ga_cons (ge_callTy c_list rfl (C.free 12 rfl) (by rfl) (ga_cons (gv 0) ga_nil)) (ga_cons ge_int (ga_cons ge_int (ga_cons ge_int (ga_cons (gv 1) ga_nil))))))))))⟩
theorem sc__law_spread : FnScope ["cell", "blended", "whole_sum", "k"] ["cell"] (defScope (top 48)) := ⟨rfl, rfl, rfl, by decide +kernel, rfl, by decide +kernel, by decide +kernel⟩
theorem bd__law_spread {K : PySem.W.Frag} {f : Addr} {fd : FuncData} (F : FunD K i__law_spread.name i__law_spread.qual (defArgs i__law_spread.st) (defBody i__law_spread.st) (defScope i__law_spread.st) [] [] f fd) : Binds K fd i__law_spread.ps [] := F.bindsN fun _ _ _ _ _ _ us hl => match us, hl with | [_], _ => rfl
theorem d__law_spread : Good T i__law_spread := ⟨sc__law_spread, bd__law_spread, fun {P w K mg base cl F f cdv A outer s H E} C => by
  show GB cl _ (defBody (top 48)) (b__law_spread)
  exact (gb_cons (gs_set (i := 1) sc__law_spread.nd rfl (by first | exact Or.inl rfl | exact Or.inr rfl) (ge_op o_mod (ge_callTy c_int rfl (C.free 1 rfl) (by rfl) (ga_cons (gv 0) ga_nil)) ge_int)) (gb_cons (gs_set (i := 2) sc__law_spread.nd rfl (by first | exact Or.inl rfl | exact Or.inr rfl) ge_int) (gb_cons (gs_for PassesOwn.never rfl (gi_rg1 rfl (C.free 10 rfl) (ga_cons ge_int ga_nil)) (gg_name sc__law_spread.nd rfl (by first | exact Or.inl rfl | exact Or.inr rfl)) (gb_cons (gs_set (i := 1) sc__law_spread.nd rfl (by first | exact Or.inl rfl | exact Or.inr rfl) (ge_op o_mod (ge_callTy c_int rfl (C.free 1 rfl) (by rfl) (ga_cons (ge_op o_add (ge_op o_add (ge_op o_mul (gv 1) ge_int) ge_int) (gv 3)) ga_nil)) ge_int)) (gb_one (gs_set (i := 2) sc__law_spread.nd rfl (by first | exact Or.inl rfl | exact Or.inr rfl) (ge_op o_add (ge_op o_mul (gv 2) ge_int) (gv 1)))))) (gb_one (gs_ret (gv 2))))))⟩
theorem sc__law_draw : FnScope ["pool", "many", "cell", "blended", "value"] ["pool", "many"] (defScope (top 49)) := ⟨rfl, rfl, rfl, by decide +kernel, rfl, by decide +kernel, by decide +kernel⟩
theorem bd__law_draw {K : PySem.W.Frag} {f : Addr} {fd : FuncData} (F : FunD K i__law_draw.name i__law_draw.qual (defArgs i__law_draw.st) (defBody i__law_draw.st) (defScope i__law_draw.st) [] [] f fd) : Binds K fd i__law_draw.ps [] := F.bindsN fun _ _ _ _ _ _ us hl => match us, hl with | [_, _], _ => rfl
theorem d__law_draw : Good T i__law_draw := ⟨sc__law_draw, bd__law_draw, fun {P w K mg base cl F f cdv A outer s H E} C => by
  show GB cl _ (defBody (top 49)) (b__law_draw (F 30))
  exact (gb_cons (gs_if (gw_pt (gw_and (gt_cmp o_le (ge_ix (gv 0) ge_int) ge_int) (gw_and1 (gt_cmp o_lt (ge_ix (gv 0) ge_int) (ge_callB c_len rfl (C.free 4 rfl) (by rfl) (ga_cons (ge_ix (gv 0) ge_int) ga_nil)))))) (gb_cons (gs_set (i := 2) sc__law_draw.nd rfl (by first | exact Or.inl rfl | exact Or.inr rfl) (ge_ix (ge_ix (gv 0) ge_int) (ge_ix (gv 0) ge_int))) (gb_cons (gs_asg (ge_op o_add (ge_ix (gv 0) ge_int) ge_int) (gg_subL (gv 0) ge_int)) (gb_cons (gs_asg (gv 2) (gg_subL (gv 0) ge_int)) (gb_one (gs_if (gt_cmp o_lt (gv 2) ge_int) (gb_one (gs_asg (ge_call (C.call 30 rfl) rfl (ga_cons (gv 2) ga_nil)) (gg_subL (gv 0) ge_int))) gb_nil))))) gb_nil) (gb_cons (gs_asg (ge_op o_add (ge_ix (gv 0) ge_int) ge_int) (gg_subL (gv 0) ge_int)) (gb_cons (gs_if (gt_cmp o_le (ge_ix (gv 0) ge_int) ge_int) (gb_cons (gs_set (i := 3) sc__law_draw.nd rfl (by first | exact Or.inl rfl | exact Or.inr rfl) (ge_op o_mod (ge_callTy c_int rfl (C.free 1 rfl) (by rfl) (ga_cons (ge_op o_add (ge_op o_add (ge_op o_mul (ge_ix (gv 0) ge_int) ge_int) (ge_op o_mul (ge_ix (gv 0) ge_int) ge_int)) ge_int) ga_nil)) ge_int)) (gb_cons (gs_set (i := 3) sc__law_draw.nd rfl (by first | exact Or.inl rfl | exact Or.inr rfl) (ge_op o_mod (ge_callTy c_int rfl (C.free 1 rfl) (by rfl) (ga_cons (ge_op o_add (ge_op o_mul (gv 3) ge_int) (ge_ix (gv 0) ge_int)) ga_nil)) ge_int)) (gb_one (gs_ret (ge_op o_mod (ge_op o_fdiv (gv 3) ge_int) (gv 1)))))) gb_nil) (gb_cons (gs_set (i := 4) sc__law_draw.nd rfl (by first | exact Or.inl rfl | exact Or.inr rfl) (ge_op o_mod (ge_callTy c_int rfl (C.free 1 rfl) (by rfl) (ga_cons (ge_ix (gv 0) ge_int) ga_nil)) (gv 1))) (gb_cons (gs_asg (ge_op o_fdiv (ge_ix (gv 0) ge_int) (gv 1)) (gg_subL (gv 0) ge_int)) (gb_one (gs_ret (gv 4))))))))⟩
theorem sc__law_little : FnScope ["pool", "deep", "letters", "word", "one"] ["pool", "deep", "letters"] (defScope (top 50)) := ⟨rfl, rfl, rfl, by decide +kernel, rfl, by decide +kernel, by decide +kernel⟩
theorem bd__law_little {K : PySem.W.Frag} {f : Addr} {fd : FuncData} (F : FunD K i__law_little.name i__law_little.qual (defArgs i__law_little.st) (defBody i__law_little.st) (defScope i__law_little.st) [] [] f fd) : Binds K fd i__law_little.ps [] := F.bindsN fun _ _ _ _ _ _ us hl => match us, hl with | [_, _, _], _ => rfl
theorem d__law_little : Good T i__law_little := ⟨sc__law_little, bd__law_little, fun {P w K mg base cl F f cdv A outer s H E} C => by
  show GB cl _ (defBody (top 50)) (b__law_little (F 31) (F 32))
  exact (gb_cons (gs_if (gw_pt (gw_or (gt_cmp (o_eq C.hu) (gv 1) ge_int) (gw_or1 (gt_cmp (o_eq C.hu) (ge_call (C.call 31 rfl) rfl (ga_cons (gv 0) (ga_cons ge_int ga_nil))) ge_int)))) (gb_one (gs_ret (ge_ifExp (gt_cmp o_gt (ge_call (C.call 31 rfl) rfl (ga_cons (gv 0) (ga_cons ge_int ga_nil))) ge_int) (ge_tup (ga_cons ge_str (ga_cons (ge_call (C.call 31 rfl) rfl (ga_cons (gv 0) (ga_cons (gv 2) ga_nil))) ga_nil))) (ge_tup (ga_cons ge_str ga_nil))))) gb_nil) (gb_cons (gs_set (i := 3) sc__law_little.nd rfl (by first | exact Or.inl rfl | exact Or.inr rfl) (ge_ix (ge_tup (ga_cons ge_str (ga_cons ge_str (ga_cons ge_str (ga_cons ge_str ga_nil))))) (ge_call (C.call 31 rfl) rfl (ga_cons (gv 0) (ga_cons ge_int ga_nil))))) (gb_cons (gs_set (i := 4) sc__law_little.nd rfl (by first | exact Or.inl rfl | exact Or.inr rfl) (ge_call (C.call 32 rfl) rfl (ga_cons (gv 0) (ga_cons (ge_op o_sub (gv 1) ge_int) (ga_cons (gv 2) ga_nil))))) (gb_one (gs_ret (ge_tup (ga_cons (gv 3) (ga_cons (gv 4) (ga_cons (ge_call (C.call 32 rfl) rfl (ga_cons (gv 0) (ga_cons (ge_op o_sub (gv 1) ge_int) (ga_cons (gv 2) ga_nil)))) ga_nil)))))))))⟩
theorem sc__law_pick : FnScope ["pool", "items"] ["pool", "items"] (defScope (top 51)) := ⟨rfl, rfl, rfl, by decide +kernel, rfl, by decide +kernel, by decide +kernel⟩
theorem bd__law_pick {K : PySem.W.Frag} {f : Addr} {fd : FuncData} (F : FunD K i__law_pick.name i__law_pick.qual (defArgs i__law_pick.st) (defBody i__law_pick.st) (defScope i__law_pick.st) [] [] f fd) : Binds K fd i__law_pick.ps [] := F.bindsN fun _ _ _ _ _ _ us hl => match us, hl with | [_, _], _ => rfl
theorem d__law_pick : Good T i__law_pick := ⟨sc__law_pick, bd__law_pick, fun {P w K mg base cl F f cdv A outer s H E} C => by
  show GB cl _ (defBody (top 51)) (b__law_pick (F 31))
  exact (gb_one (gs_ret (ge_ix (gv 1) (ge_call (C.call 31 rfl) rfl (ga_cons (gv 0) (ga_cons (ge_callB c_len rfl (C.free 4 rfl) (by rfl) (ga_cons (gv 1) ga_nil)) ga_nil))))))⟩
theorem sc__law_deny : FnScope ["a"] ["a"] (defScope (top 52)) := ⟨rfl, rfl, rfl, by decide +kernel, rfl, by decide +kernel, by decide +kernel⟩
theorem bd__law_deny {K : PySem.W.Frag} {f : Addr} {fd : FuncData} (F : FunD K i__law_deny.name i__law_deny.qual (defArgs i__law_deny.st) (defBody i__law_deny.st) (defScope i__law_deny.st) [] [] f fd) : Binds K fd i__law_deny.ps [] := F.bindsN fun _ _ _ _ _ _ us hl => match us, hl with | [_], _ => rfl
theorem d__law_deny : Good T i__law_deny := ⟨sc__law_deny, bd__law_deny, fun {P w K mg base cl F f cdv A outer s H E} C => by
  show GB cl _ (defBody (top 52)) (b__law_deny)
  exact (gb_one (gs_ret (ge_tup (ga_cons ge_str (ga_cons (gv 0) (ga_cons (ge_tup (ga_cons ge_str ga_nil)) ga_nil))))))⟩
theorem sc_law : FnScope ["script", "pool", "a", "b", "c", "row", "told", "opened", "closed", "left", "again", "short", "other", "both", "either", "denied_v", "part", "k", "one"] ["script"] (defScope (top 53)) := ⟨rfl, rfl, rfl, by decide +kernel, rfl, by decide +kernel, by decide +kernel⟩
theorem bd_law {K : PySem.W.Frag} {f : Addr} {fd : FuncData} (F : FunD K i_law.name i_law.qual (defArgs i_law.st) (defBody i_law.st) (defScope i_law.st) [] [] f fd) : Binds K fd i_law.ps [] := F.bindsN fun _ _ _ _ _ _ us hl => match us, hl with | [_], _ => rfl
theorem d_law : Good T i_law := ⟨sc_law, bd_law, fun {P w K mg base cl F f cdv A outer s H E} C => by
  show GB cl _ (defBody (top 53)) (b_law (F 34) (F 32) (F 33) (F 29) (F 15) (F 22) (F 18) (F 26) (F 8) (F 28) (F 17) (F 16) (F 14) (F 23))
  exact (gb_cons (gs_set (i := 1) sc_law.nd rfl (by first | exact Or.inl rfl | exact Or.inr rfl) (ge_call (C.call 29 rfl) rfl (ga_cons (gv 0) ga_nil))) (gb_cons (gs_asg (ge_comp (own := [("k", 17)]) rfl sc_law.nd (gi_rg1 rfl (C.free 10 rfl) (ga_cons ge_int ga_nil)) (blkOk_by (by show blkC ["script", "pool", "a", "b", "c", "row", "told", "opened", "closed", "left", "again", "short", "other", "both", "either", "denied_v", "part", "k", "one"] (defScope (top 53)) _ _ = true; decide +kernel)) (cg_name (by decide)) (fun _ _ _ _ _ => pg_name (i := 17) sc_law.nd rfl (Or.inl rfl)) (fun _ _ _ _ _ => gts_nil) (fun _ _ _ _ _ => (ge_call (C.call 32 rfl) rfl (ga_cons (gv 1) (ga_cons ge_int (ga_cons ge_int ga_nil)))))) (gg_lst rfl (ggs_cons (gg_name sc_law.nd rfl (by first | exact Or.inl rfl | exact Or.inr rfl)) (ggs_cons (gg_name sc_law.nd rfl (by first | exact Or.inl rfl | exact Or.inr rfl)) (ggs_cons (gg_name sc_law.nd rfl (by first | exact Or.inl rfl | exact Or.inr rfl)) ggs_nil))))) (gb_cons (gs_set (i := 5) sc_law.nd rfl (by first | exact Or.inl rfl | exact Or.inr rfl) (ge_call (C.call 33 rfl) rfl (ga_cons (gv 1) (ga_cons (ge_lst (ga_cons (ge_tup (ga_cons ge_str (ga_cons (gv 3) ga_nil))) (ga_cons (ge_tup (ga_cons ge_str (ga_cons (gv 4) (ga_cons (ge_tup (ga_cons ge_str (ga_cons (gv 3) ga_nil))) ga_nil)))) (ga_cons (ge_tup (ga_cons ge_str (ga_cons (ge_tup (ga_cons ge_str (ga_cons (gv 2) ga_nil))) (ga_cons (ge_tup (ga_cons ge_str (ga_cons (gv 3) ga_nil))) ga_nil)))) (ga_cons (ge_tup (ga_cons ge_str (ga_cons (gv 4) (ga_cons (ge_tup (ga_cons ge_str (ga_cons (gv 3) ga_nil))) ga_nil)))) (ga_cons (ge_tup (ga_cons ge_str (ga_cons (ge_tup (ga_cons ge_str (ga_cons (ge_tup (ga_cons ge_str (ga_cons (gv 3) (ga_cons (gv 2) ga_nil)))) ga_nil))) (ga_cons (ge_tup (ga_cons ge_str (ga_cons (gv 3) ga_nil))) ga_nil)))) (ga_cons (ge_tup (ga_cons ge_str (ga_cons (gv 4) (ga_cons (ge_tup (ga_cons ge_str (ga_cons (ge_tup (ga_cons ge_str (ga_cons (ge_call (C.call 34 rfl) rfl (ga_cons (gv 3) ga_nil)) ga_nil))) (ga_cons (ge_tup (ga_cons ge_str (ga_cons (gv 3) ga_nil))) ga_nil)))) ga_nil)))) (ga_cons (ge_tup (ga_cons ge_str (ga_cons (gv 4) (ga_cons (ge_tup (ga_cons ge_str (ga_cons (ge_tup (ga_cons ge_str (ga_cons (ge_call (C.call 34 rfl) rfl (ga_cons (gv 3) ga_nil)) ga_nil))) (ga_cons (ge_tup (ga_cons ge_str (ga_cons (gv 3) ga_nil))) ga_nil)))) ga_nil)))) ga_nil)))))))) ga_nil)))) (gb_cons (gs_asg (ge_call (C.call 14 rfl) rfl (ga_cons (gv 5) ga_nil)) (gg_tup rfl (ggs_cons (gg_name sc_law.nd rfl (by first | exact Or.inl rfl | exact Or.inr rfl)) (ggs_cons (gg_name sc_law.nd rfl (by first | exact Or.inl rfl | exact Or.inr rfl)) ggs_nil)))) (gb_cons (gs_if (gw_pt (gw_or (gt_notN (ge_call (C.call 15 rfl) rfl (ga_cons (gv 7) (ga_cons (gv 6) (ga_cons (gv 5) ga_nil))))) (gw_or1 (gt_notN (ge_call (C.call 15 rfl) rfl (ga_cons (ge_op o_add (gv 7) (ge_tup (ga_cons (gv 4) (ga_cons (gv 2) ga_nil)))) (ga_cons (gv 6) (ga_cons (gv 5) ga_nil)))))))) (gb_one (gs_ret ge_bl)) gb_nil) (gb_cons (gs_set (i := 8) sc_law.nd rfl (by first | exact Or.inl rfl | exact Or.inr rfl) (ge_tup (ga_cons ge_str (ga_cons (gv 3) (ga_cons (gv 5) ga_nil))))) (gb_cons (gs_set (i := 9) sc_law.nd rfl (by first | exact Or.inl rfl | exact Or.inr rfl) (ge_callTy c_tuple rfl (C.free 3 rfl) (by rfl) (ga_cons (ge_compS (own := [("one", 18)]) rfl sc_law.nd (gi_seqS (gv 7)) (blkOk_by (by show blkC ["script", "pool", "a", "b", "c", "row", "told", "opened", "closed", "left", "again", "short", "other", "both", "either", "denied_v", "part", "k", "one"] (defScope (top 53)) _ _ = true; decide +kernel)) (cg_name (by decide)) (fun _ _ _ _ _ => pg_name (i := 18) sc_law.nd rfl (Or.inl rfl)) (fun _ _ _ _ _ => (gts_one (gt_cmp (o_ne C.hu) (gv 18) (gv 3)))) (fun _ _ _ _ _ => (gv 18))) ga_nil))) (gb_cons (gs_if (gw_pt (gw_or (gt_notN (ge_call (C.call 15 rfl) rfl (ga_cons (gv 9) (ga_cons (ge_tup (ga_cons ge_str (ga_cons (gv 3) (ga_cons (gv 6) ga_nil)))) (ga_cons (gv 8) ga_nil))))) (gw_or (gt_cmp (o_ne C.hu) (ge_call (C.call 17 rfl) rfl (ga_cons (gv 8) ga_nil)) (ge_op o_add (ge_call (C.call 17 rfl) rfl (ga_cons (gv 5) ga_nil)) ge_int)) (gw_or1 (gt_cmp (o_ne C.hu) (ge_call (C.call 14 rfl) rfl (ga_cons (gv 8) ga_nil)) (ge_tup (ga_cons (ge_tup (ga_cons ge_str (ga_cons (gv 3) (ga_cons (gv 6) ga_nil)))) (ga_cons (gv 9) ga_nil)))))))) (gb_one (gs_ret ge_bl)) gb_nil) (gb_cons (gs_set (i := 10) sc_law.nd rfl (by first | exact Or.inl rfl | exact Or.inr rfl) (ge_tup (ga_cons ge_str (ga_cons (gv 8) (ga_cons (ge_tup (ga_cons ge_str (ga_cons (gv 3) ga_nil))) ga_nil))))) (gb_cons (gs_if (gw_pt (gw_or (gt_notN (ge_call (C.call 15 rfl) rfl (ga_cons (ge_callTy c_tuple rfl (C.free 3 rfl) (by rfl) (ga_cons (ge_sortset C.hu2 rfl rfl (C.free 6 rfl) rfl (C.free 7 rfl) (ge_op o_add (gv 9) (ge_tup (ga_cons (gv 3) ga_nil)))) ga_nil)) (ga_cons (gv 6) (ga_cons (gv 10) ga_nil))))) (gw_or1 (gt_cmp o_lt (ge_call (C.call 26 rfl) rfl (ga_cons (gv 10) ga_nil)) ge_int)))) (gb_one (gs_ret ge_bl)) gb_nil) (gb_cons (gs_set (i := 11) sc_law.nd rfl (by first | exact Or.inl rfl | exact Or.inr rfl) (ge_call (C.call 28 rfl) rfl (ga_cons (gv 10) (ga_cons ge_int ga_nil)))) (gb_cons (gs_if (gw_pt (gw_or (gt_notN (ge_call (C.call 15 rfl) rfl (ga_cons (ge_op o_add (gv 7) (ge_tup (ga_cons (gv 3) ga_nil))) (ga_cons (gv 6) (ga_cons (gv 11) ga_nil))))) (gw_or (gt_cmp o_ge (ge_call (C.call 17 rfl) rfl (ga_cons (gv 11) ga_nil)) (ge_call (C.call 17 rfl) rfl (ga_cons (gv 10) ga_nil))) (gw_or1 (gt_cmp (o_ne C.hu) (ge_call (C.call 26 rfl) rfl (ga_cons (ge_call (C.call 28 rfl) rfl (ga_cons (gv 10) (ga_cons ge_int ga_nil))) ga_nil)) ge_int))))) (gb_one (gs_ret ge_bl)) gb_nil) (gb_cons (gs_set (i := 12) sc_law.nd rfl (by first | exact Or.inl rfl | exact Or.inr rfl) (ge_tup (ga_cons ge_str (ga_cons (gv 4) ga_nil)))) (gb_cons (gs_set (i := 13) sc_law.nd rfl (by first | exact Or.inl rfl | exact Or.inr rfl) (ge_tup (ga_cons ge_str (ga_cons (gv 5) (ga_cons (gv 12) ga_nil))))) (gb_cons (gs_if (gw_pt (gw_or (gt_cmp (o_ne C.hu) (ge_call (C.call 14 rfl) rfl (ga_cons (gv 13) ga_nil)) (ge_tup (ga_cons (ge_tup (ga_cons ge_str (ga_cons (gv 6) (ga_cons (gv 4) ga_nil)))) (ga_cons (ge_callTy c_tuple rfl (C.free 3 rfl) (by rfl) (ga_cons (ge_sortset C.hu2 rfl rfl (C.free 6 rfl) rfl (C.free 7 rfl) (ge_op o_add (gv 7) (ge_tup (ga_cons (gv 4) ga_nil)))) ga_nil)) ga_nil)))) (gw_or (gt_cmp (o_ne C.hu) (ge_ix (ge_call (C.call 14 rfl) rfl (ga_cons (ge_tup (ga_cons ge_str (ga_cons (gv 13) ga_nil))) ga_nil)) ge_int) (gv 6)) (gw_or1 (gt_cmp (o_ne C.hu) (ge_ix (ge_call (C.call 14 rfl) rfl (ga_cons (ge_tup (ga_cons ge_str (ga_cons (gv 13) ga_nil))) ga_nil)) ge_int) (gv 4)))))) (gb_one (gs_ret ge_bl)) gb_nil) (gb_cons (gs_set (i := 14) sc_law.nd rfl (by first | exact Or.inl rfl | exact Or.inr rfl) (ge_ifExp (gt_cmp (o_eq C.hu) (gv 6) (gv 4)) (ge_tup (ga_cons ge_str (ga_cons (ge_tup (ga_cons ge_str (ga_cons (gv 4) (ga_cons (gv 5) ga_nil)))) (ga_cons (ge_tup (ga_cons ge_str (ga_cons (gv 6) ga_nil))) (ga_cons (ge_tup (ga_cons ge_str (ga_cons (gv 6) ga_nil))) ga_nil))))) (ge_tup (ga_cons ge_str (ga_cons (gv 4) (ga_cons (gv 5) ga_nil)))))) (gb_cons (gs_if (gt_notN (ge_call (C.call 15 rfl) rfl (ga_cons (gv 7) (ga_cons (ge_ifExp (gt_cmp (o_eq C.hu) (gv 6) (gv 4)) (gv 6) (ge_tup (ga_cons ge_str (ga_cons (gv 4) (ga_cons (gv 6) ga_nil))))) (ga_cons (gv 14) ga_nil))))) (gb_one (gs_ret ge_bl)) gb_nil) (gb_cons (gs_set (i := 15) sc_law.nd rfl (by first | exact Or.inl rfl | exact Or.inr rfl) (ge_call (C.call 22 rfl) rfl (ga_cons (gv 5) ga_nil))) (gb_cons (gs_if (gw_pt (gw_or (gt_cmp o_notB (ge_call (C.call 18 rfl) rfl (ga_cons (gv 15) ga_nil)) ge_bl) (gw_or (gt_notN (ge_call (C.call 15 rfl) rfl (ga_cons (gv 7) (ga_cons (ge_call (C.call 23 rfl) rfl (ga_cons (gv 6) ga_nil)) (ga_cons (gv 15) ga_nil))))) (gw_or1 (gt_cmp (o_ne C.hu) (ge_call (C.call 18 rfl) rfl (ga_cons (gv 5) ga_nil)) (ge_cmp (o_ne C.hu) (ge_ix (gv 5) ge_int) ge_str)))))) (gb_one (gs_ret ge_bl)) gb_nil) (gb_cons (gs_forS PassesOwn.never rfl (gi_seqS (gv 7)) (gg_name sc_law.nd rfl (by first | exact Or.inl rfl | exact Or.inr rfl)) (gb_one (gs_if (gt_cmp (o_ne C.hu) (ge_call (C.call 15 rfl) rfl (ga_cons (ge_callTy c_tuple rfl (C.free 3 rfl) (by rfl) (ga_cons (ge_compS (own := [("one", 18)]) rfl sc_law.nd (gi_seqS (gv 7)) (blkOk_by (by show blkC ["script", "pool", "a", "b", "c", "row", "told", "opened", "closed", "left", "again", "short", "other", "both", "either", "denied_v", "part", "k", "one"] (defScope (top 53)) _ _ = true; decide +kernel)) (cg_name (by decide)) (fun _ _ _ _ _ => pg_name (i := 18) sc_law.nd rfl (Or.inl rfl)) (fun _ _ _ _ _ => (gts_one (gt_cmp (o_ne C.hu) (gv 18) (gv 16)))) (fun _ _ _ _ _ => (gv 18))) ga_nil)) (ga_cons (gv 6) (ga_cons (gv 5) ga_nil)))) (ge_tup (ga_cons ge_str (ga_cons ge_int ga_nil)))) (gb_one (gs_ret ge_bl)) gb_nil))) (gb_one (gs_ret (ge_and (ge_cmp (o_eq C.hu) (ge_call (C.call 15 rfl) rfl (ga_cons (gv 7) (ga_cons (ge_call (C.call 34 rfl) rfl (ga_cons (gv 6) ga_nil)) (ga_cons (gv 5) ga_nil)))) (ge_tup (ga_cons ge_str (ga_cons ge_int ga_nil)))) (ge_one (ge_isN (ge_call (C.call 8 rfl) rfl (ga_cons (ge_tup (ga_cons (ge_callTy c_tuple rfl (C.free 3 rfl) (by rfl) (ga_cons (ge_callB (c_sort C.hu2) rfl (C.free 6 rfl) (by rfl) (ga_cons (gv 7) ga_nil)) ga_nil)) (ga_cons (ge_tup (ga_cons (gv 6) ga_nil)) ga_nil))) (ga_cons (ge_call (C.call 16 rfl) rfl (ga_cons (gv 5) ga_nil)) (ga_cons ge_bl ga_nil)))))))))))))))))))))))))))))⟩
theorem good : ∀ (i : Nat) (I : FnI), fns[i]? = some I → Good T I := by
  intro i I h
  have m : I ∈ fns := List.mem_of_getElem? h
  simp only [fns, List.mem_cons, List.not_mem_nil, or_false] at m
  rcases m with rfl | rfl | rfl | rfl | rfl | rfl | rfl | rfl | rfl | rfl | rfl | rfl | rfl | rfl | rfl | rfl | rfl | rfl | rfl | rfl | rfl | rfl | rfl | rfl | rfl | rfl | rfl | rfl | rfl | rfl | rfl | rfl | rfl | rfl | rfl | rfl
  · exact d_is_whole
  · exact d_is_from
  · exact d_has_shape
  · exact d_contrary
  · exact d_with_one
  · exact d_has_form_sequents
  · exact d_premises
  · exact d_step_fault
  · exact d_sequent_fault
  · exact d_has_form_deductions
  · exact d_uppers
  · exact d_result_of
  · exact d_open_of
  · exact d_worked_deductions
  · exact d_told_by
  · exact d_deduction_fault
  · exact d_to_cuts
  · exact d_size
  · exact d_is_plain
  · exact d_denied
  · exact d_clash_doubles
  · exact d_taken
  · exact d_doubled
  · exact d_twice
  · exact d_put_in_shortening
  · exact d_shorter
  · exact d_roundabouts
  · exact d_once
  · exact d_shortened
  · exact d__law_pool
  · exact d__law_spread
  · exact d__law_draw
  · exact d__law_little
  · exact d__law_pick
  · exact d__law_deny
  · exact d_law
theorem tabs_ok : T.okB fns = true := by decide +kernel
end Law

set_option Elab.async false
set_option linter.all false
set_option maxRecDepth 100000
set_option maxHeartbeats 0
namespace Law
open PySem PySem.Spec L2 G
abbrev rw0 : PySem.W.OpenLaw := PySem.Challenge.rw_everyproof_k80_whole_assumptions_let_go
abbrev hk : PySem.W.Hook := He.hookX 4 T.fas (fns.map FnI.dd) T.ts [] T.ex
def ob (s : PySem.W.SharedT) : He.AlX := He.obsX 4 T.fas (fns.map FnI.dd) T.ts [] T.ex (HandSHeadRun.getT s)
theorem ob_eq (s : PySem.W.SharedT) : ob s = hk.obs s.abs := He.obsX_eq (HandSHeadRun.getT_eq s)
def loose : List PySem.Str := (["LETTERS", "DEEPEST", "PAIRS", "FALSE", "is_whole", "is_from", "has_shape", "contrary", "FORM_sequents", "DEEPEST_PROOF_sequents", "SIZES_sequents", "with_one", "has_form", "has_form_sequents", "premises", "step_fault", "sequent_fault", "FORM_deductions", "DEEPEST_PROOF_deductions", "SIZES_deductions", "has_form_deductions", "uppers", "result_of", "open_of", "worked", "told_by", "deduction_fault", "to_cuts", "size", "is_plain"] : List PySem.Str) ++ (["denied", "clash", "taken", "doubled", "twice", "put_in", "shorter", "roundabouts", "once", "shortened", "_law_pool", "_law_spread", "_law_draw", "_law_little", "_law_pick", "_law_deny"] : List PySem.Str)
def lev : Nat := 115
theorem run (w : World) : HandSHeadRun.RunEq (PySem.W.OpenLaw.row rw0) (PySem.W.view (PySem.W.OpenLaw.row rw0).prog [53]) hk ob 2000 loose w := by
  refine PySem.W.byRow2 "special-get-raises" (P := fun w => HandSHeadRun.RunEq (PySem.W.OpenLaw.row rw0) (PySem.W.view (PySem.W.OpenLaw.row rw0).prog [53]) hk ob 2000 loose w) (fun w os => ?_) (fun w os => ?_) w
  · kernel_rfl
  · kernel_rfl
theorem law_facts {P : Program} {w : World} {K : PySem.W.Frag} {h : Heap} {mg : Str → Option Value} {f : Addr} (k : Nat) (X : K.In h) (N : h.Ns mainGlobals mg) (hf : mg ("law" : Str) = some (.ref f)) (c : He.SaysX T.fas (fns.map FnI.dd) T.ts [] T.ex w h K) :
    ∃ fd : FuncData, (∀ (s : Shared) (v : Value), BindsTo s fd ⟨[v], []⟩ [("script", v)]) ∧ ∀ base : Heap, FnOk P w K mg base CX0 (2 * k) f fd ["script"] (spG (clK T K) K w 1 (Fk fns k 35)) := by
  have S := said_of X N c
  obtain ⟨fd, F⟩ := S.fn 35 i_law rfl
  have e := hf.symm.trans (S.glo ("law", 1) (List.mem_of_getElem? (i := 35) rfl))
  have e2 : f = He.fAd K i_law.at_ := by cases e; rfl
  have b := FunD.bindsA (ps := ["script"]) F fun _ _ _ _ _ _ us hl => match us, hl with | [_], _ => rfl
  exact ⟨fd, fun s v => b s [v] rfl, fun base => e2 ▸ levels S tabs_ok good k 35 i_law fd rfl F⟩
end Law
section
open PySem PySem.W PySem.Calls PyProof.Rows
theorem law_head (law_true : ∀ ns : List Int, ns.length ≤ 63 → ∃ M, G.Fk Law.fns Law.lev 35 [.rol (ns.map G.D.int)] [] = some (.bl true, M)) : PySem.Challenge.rw_everyproof_k80_whole_assumptions_let_go.Holds := by
  w_on; o_law
  refine HandSHeadRun.head_any (r := OpenLaw.row Law.rw0) (q := view (OpenLaw.row Law.rw0).prog [53]) (H := Law.hk) (ob := Law.ob) (M := 2000) (loose := Law.loose) (d := HandSHeadRun.topDef (OpenLaw.row Law.rw0).prog 53) (kwd := []) Law.ob_eq
    (by kernel_rfl) (fun s => by kernel_rfl) Law.run (by kernel_rfl) (by kernel_rfl) (by kernel_rfl) (by rfl) (by first | assumption | decide +kernel) (by decide +kernel) ⟨rfl, rfl, rfl, rfl, rfl, by decide +kernel⟩ ?hw ?hc
  case hw => w_witness2
  case hc =>
    refine L2.walk_ofE (l := Law.rw0) (n := 63) (k := 2 * Law.lev) (x := "script") (CX := L2.CX0) rfl (by decide) (by kernel_rfl) ⟨rfl, by decide, by decide⟩ ?F (fun _ _ _ _ z => z)
    intro w mg fa h Y N hmg0
    obtain ⟨K, KX, c⟩ := Y
    have hmg : mg ("law" : PySem.Str) = some (.ref fa) := by
      have e : (HandSHeadRun.topDef (OpenLaw.row Law.rw0).prog 53).name = ("law" : PySem.Str) := by kernel_rfl
      rw [← e]
      exact hmg0
    obtain ⟨fd, hb, hF⟩ := Law.law_facts (P := (Law.rw0).prog) (w := w) Law.lev KX N hmg c
    exact ⟨K, fd, _, KX, hb, fun H a ns hl hO hS => G.sp_law hO hS (law_true ns hl), fun base _ _ => hF base⟩
end

set_option Elab.async false
set_option linter.all false
set_option maxRecDepth 100000
/-! What the meanings come to: rules for simp. -/
namespace G
open PySem PySem.Spec

/-! ### texts -/
@[simp] theorem ofString_inj (a b : String) : (Str.ofString a = Str.ofString b) ↔ a = b := by
  rw [Str.ofString_eq_toList, Str.ofString_eq_toList]
  constructor
  · intro h
    injection h with h
    have h2 := Array.toList_inj.mpr h
    simp only at h2
    have inj : ∀ l m : List Char, l.map Char.toNat = m.map Char.toNat → l = m := by
      intro l
      induction l with
      | nil => intro m h; cases m <;> simp at h ⊢
      | cons c l ih =>
        intro m h
        cases m with
        | nil => simp at h
        | cons d m =>
          simp only [List.map_cons, List.cons.injEq] at h
          have e : c = d := Char.ext (UInt32.toNat_inj.mp h.1)
          rw [e, ih m h.2]
    exact String.toList_inj.mp (inj _ _ h2)
  · intro h
    rw [h]
@[simp] theorem ofString_add (a b : String) : (Str.ofString a ++ Str.ofString b : Str) = Str.ofString (a ++ b) := by
  rw [Str.ofString_eq_toList, Str.ofString_eq_toList, Str.ofString_eq_toList]
  show (⟨_ ++ _⟩ : Str) = _
  simp
@[simp] theorem ofString_len (a : String) : (Str.ofString a).length = a.length := by
  rw [Str.ofString_eq_toList]
  show (Array.size _) = _
  rw [List.size_toArray, List.length_map, String.length_toList]
instance : DecidableEq D := fun a b => if h : D.beq a b = true then .isTrue (D.eq_of_beq a b h) else .isFalse fun e => h (e ▸ D.beq_self a)
theorem D.beq_decide (a b : D) : D.beq a b = decide (a = b) := by
  cases h : D.beq a b with
  | true => exact (decide_eq_true (D.eq_of_beq a b h)).symm
  | false => exact (decide_eq_false fun e => by rw [e, D.beq_self] at h; cases h).symm

/-! ### data without truth values -/
mutual
def D.dat : D → Bool
  | .non => true
  | .int _ => true
  | .str x => PyData.strOk x
  | .tup ds => D.dats ds
  | .lst ds => D.dats ds
  | .bl _ => false
  | .rol _ => false
  | .ref _ => false
  | .fn _ => false
def D.dats : List D → Bool
  | [] => true
  | d :: ds => D.dat d && D.dats ds
end
mutual
def D.dep : D → Nat
  | .tup ds => D.deps ds + 1
  | .lst ds => D.deps ds + 1
  | .rol ds => D.deps ds + 1
  | .non => 0
  | .int _ => 0
  | .str _ => 0
  | .bl _ => 0
  | .ref _ => 0
  | .fn _ => 0
def D.deps : List D → Nat
  | [] => 0
  | d :: ds => max (D.dep d) (D.deps ds)
end
mutual
theorem D.dat_py : ∀ d : D, d.dat = true → ∃ p, d.py = some p ∧ p.canLay0 = true ∧ p.depth = d.dep
  | .non, _ => ⟨_, rfl, rfl, rfl⟩
  | .int _, _ => ⟨_, rfl, rfl, rfl⟩
  | .str x, h => ⟨_, rfl, by rw [D.dat] at h; rw [PyData.canLay0]; exact h, rfl⟩
  | .tup ds, h => by
    obtain ⟨ps, h1, h2, h3⟩ := D.dats_py ds (by rw [D.dat] at h; exact h)
    exact ⟨.tuple ps, by rw [D.py, h1], by rw [PyData.canLay0]; exact h2, by rw [PyData.depth, D.dep, h3]⟩
  | .lst ds, h => by
    obtain ⟨ps, h1, h2, h3⟩ := D.dats_py ds (by rw [D.dat] at h; exact h)
    exact ⟨.list ps, by rw [D.py, h1], by rw [PyData.canLay0]; exact h2, by rw [PyData.depth, D.dep, h3]⟩
  | .bl _, h | .rol _, h | .ref _, h | .fn _, h => by simp [D.dat] at h
theorem D.dats_py : ∀ ds : List D, D.dats ds = true → ∃ ps, D.pys ds = some ps ∧ PyData.canLayAll0 ps = true ∧ PyData.depthAll ps = D.deps ds
  | [], _ => ⟨[], rfl, rfl, rfl⟩
  | d :: ds, h => by
    rw [D.dats, Bool.and_eq_true] at h
    obtain ⟨p, h1, h2, h3⟩ := D.dat_py d h.1
    obtain ⟨ps, k1, k2, k3⟩ := D.dats_py ds h.2
    exact ⟨p :: ps, by rw [D.pys, h1, k1], by rw [PyData.canLayAll0, h2, k2]; rfl, by rw [PyData.depthAll, D.deps, h3, k3]⟩
end
mutual
theorem D.py_eqv : ∀ (d e : D) {p q : PyData}, d.dat = true → e.dat = true → d.py = some p → e.py = some q → PyData.eqv p q = D.beq d e
  | .non, e, p, q, _, h, h1, h2 => by
    cases h1
    cases e with
    | tup es =>
      obtain ⟨qs, b1, _, _⟩ := D.dats_py es (by rw [D.dat] at h; exact h)
      rw [D.py, b1] at h2
      cases h2
      simp [PyData.eqv, D.beq]
    | lst es =>
      obtain ⟨qs, b1, _, _⟩ := D.dats_py es (by rw [D.dat] at h; exact h)
      rw [D.py, b1] at h2
      cases h2
      simp [PyData.eqv, D.beq]
    | non => cases h2; simp [PyData.eqv, D.beq]
    | int _ => cases h2; simp only [PyData.eqv, D.beq] <;> rfl
    | str _ => cases h2; simp only [PyData.eqv, D.beq] <;> rfl
    | _ => simp [D.dat] at h
  | .int i, e, p, q, _, h, h1, h2 => by
    cases h1
    cases e with
    | tup es =>
      obtain ⟨qs, b1, _, _⟩ := D.dats_py es (by rw [D.dat] at h; exact h)
      rw [D.py, b1] at h2
      cases h2
      simp [PyData.eqv, D.beq]
    | lst es =>
      obtain ⟨qs, b1, _, _⟩ := D.dats_py es (by rw [D.dat] at h; exact h)
      rw [D.py, b1] at h2
      cases h2
      simp [PyData.eqv, D.beq]
    | non => cases h2; simp [PyData.eqv, D.beq]
    | int _ => cases h2; simp only [PyData.eqv, D.beq] <;> rfl
    | str _ => cases h2; simp only [PyData.eqv, D.beq] <;> rfl
    | _ => simp [D.dat] at h
  | .str i, e, p, q, _, h, h1, h2 => by
    cases h1
    cases e with
    | tup es =>
      obtain ⟨qs, b1, _, _⟩ := D.dats_py es (by rw [D.dat] at h; exact h)
      rw [D.py, b1] at h2
      cases h2
      simp [PyData.eqv, D.beq]
    | lst es =>
      obtain ⟨qs, b1, _, _⟩ := D.dats_py es (by rw [D.dat] at h; exact h)
      rw [D.py, b1] at h2
      cases h2
      simp [PyData.eqv, D.beq]
    | non => cases h2; simp [PyData.eqv, D.beq]
    | int _ => cases h2; simp only [PyData.eqv, D.beq] <;> rfl
    | str _ => cases h2; simp only [PyData.eqv, D.beq] <;> rfl
    | _ => simp [D.dat] at h
  | .tup ds, e, p, q, g, h, h1, h2 => by
    obtain ⟨ps, a1, _, _⟩ := D.dats_py ds (by rw [D.dat] at g; exact g)
    rw [D.py, a1] at h1
    cases h1
    cases e with
    | tup es =>
      obtain ⟨qs, b1, _, _⟩ := D.dats_py es (by rw [D.dat] at h; exact h)
      rw [D.py, b1] at h2
      cases h2
      rw [PyData.eqv, D.beq]
      exact D.pys_eqv ds es (by rw [D.dat] at g; exact g) (by rw [D.dat] at h; exact h) a1 b1
    | lst es =>
      obtain ⟨qs, b1, _, _⟩ := D.dats_py es (by rw [D.dat] at h; exact h)
      rw [D.py, b1] at h2
      cases h2
      simp [PyData.eqv, D.beq]
    | non => cases h2; simp [PyData.eqv, D.beq]
    | int _ => cases h2; simp [PyData.eqv, D.beq]
    | str _ => cases h2; simp [PyData.eqv, D.beq]
    | _ => simp [D.dat] at h
  | .lst ds, e, p, q, g, h, h1, h2 => by
    obtain ⟨ps, a1, _, _⟩ := D.dats_py ds (by rw [D.dat] at g; exact g)
    rw [D.py, a1] at h1
    cases h1
    cases e with
    | lst es =>
      obtain ⟨qs, b1, _, _⟩ := D.dats_py es (by rw [D.dat] at h; exact h)
      rw [D.py, b1] at h2
      cases h2
      rw [PyData.eqv, D.beq]
      exact D.pys_eqv ds es (by rw [D.dat] at g; exact g) (by rw [D.dat] at h; exact h) a1 b1
    | tup es =>
      obtain ⟨qs, b1, _, _⟩ := D.dats_py es (by rw [D.dat] at h; exact h)
      rw [D.py, b1] at h2
      cases h2
      simp [PyData.eqv, D.beq]
    | non => cases h2; simp [PyData.eqv, D.beq]
    | int _ => cases h2; simp [PyData.eqv, D.beq]
    | str _ => cases h2; simp [PyData.eqv, D.beq]
    | _ => simp [D.dat] at h
  | .bl _, _, _, _, g, _, _, _ | .rol _, _, _, _, g, _, _, _ | .ref _, _, _, _, g, _, _, _ | .fn _, _, _, _, g, _, _, _ => by simp [D.dat] at g
theorem D.pys_eqv : ∀ (ds es : List D) {ps qs : List PyData}, D.dats ds = true → D.dats es = true → D.pys ds = some ps → D.pys es = some qs → PyData.eqvAll ps qs = D.beqs ds es
  | [], [], _, _, _, _, h1, h2 => by cases h1; cases h2; simp [PyData.eqvAll, D.beqs]
  | [], e :: es, _, _, _, h, h1, h2 => by
    obtain ⟨qs, b1, _, _⟩ := D.dats_py (e :: es) h
    rw [b1] at h2
    cases h1; cases h2
    rw [D.pys] at b1
    split at b1
    · cases b1; simp [PyData.eqvAll, D.beqs]
    · cases b1
  | d :: ds, [], _, _, g, _, h1, h2 => by
    obtain ⟨qs, b1, _, _⟩ := D.dats_py (d :: ds) g
    rw [b1] at h1
    cases h1; cases h2
    rw [D.pys] at b1
    split at b1
    · cases b1; simp [PyData.eqvAll, D.beqs]
    · cases b1
  | d :: ds, e :: es, _, _, g, h, h1, h2 => by
    rw [D.dats, Bool.and_eq_true] at g h
    obtain ⟨p, a1, _, _⟩ := D.dat_py d g.1
    obtain ⟨ps, a2, _, _⟩ := D.dats_py ds g.2
    obtain ⟨q, b1, _, _⟩ := D.dat_py e h.1
    obtain ⟨qs, b2, _, _⟩ := D.dats_py es h.2
    rw [D.pys, a1, a2] at h1
    rw [D.pys, b1, b2] at h2
    cases h1; cases h2
    rw [PyData.eqvAll, D.beqs, D.py_eqv d e g.1 h.1 a1 b1, D.pys_eqv ds es g.2 h.2 a2 b2]
end

theorem D.seq_dats {M : Mo} {d : D} {es : List D} {t : Bool} (h : (d = .tup es ∧ t = true) ∨ (d = .lst es ∧ t = false)) : seqOf M d = some (t, es) := by
  rcases h with ⟨rfl, rfl⟩ | ⟨rfl, rfl⟩ <;> rfl
theorem D.dat_noref {M : Mo} {d : D} (h : d.dat = true) : pyOf M d = d.py := by
  cases d <;> first | rfl | simp [D.dat] at h
theorem D.shaped {d : D} {p : PyData} (h : d.dat = true) (e : d.py = some p) (hd : d.dep ≤ 64) : SeqAt.shaped p = true := by
  obtain ⟨q, e1, e2, e3⟩ := D.dat_py d h
  rw [e1] at e
  cases e
  unfold SeqAt.shaped
  rw [e2, e3]
  simpa using hd
theorem ev_eq {d e : D} {M : Mo} (h1 : d.dat = true) (h2 : e.dat = true) (h3 : d.dep ≤ 64) (h4 : e.dep ≤ 64) : eqF [d, e] M = some (.bl (decide (d = e)), M) := by
  obtain ⟨p, e1, _, _⟩ := D.dat_py d h1
  obtain ⟨q, e2, _, _⟩ := D.dat_py e h2
  unfold eqF
  simp only [D.dat_noref h1, D.dat_noref h2, e1, e2, D.shaped h1 e1 h3, D.shaped h2 e2 h4, Bool.and_self, if_true, D.py_eqv d e h1 h2 e1 e2, D.beq_decide]
theorem ev_ne {d e : D} {M : Mo} (h1 : d.dat = true) (h2 : e.dat = true) (h3 : d.dep ≤ 64) (h4 : e.dep ≤ 64) : neF [d, e] M = some (.bl (!decide (d = e)), M) := by
  obtain ⟨p, e1, _, _⟩ := D.dat_py d h1
  obtain ⟨q, e2, _, _⟩ := D.dat_py e h2
  unfold neF
  simp only [D.dat_noref h1, D.dat_noref h2, e1, e2, D.shaped h1 e1 h3, D.shaped h2 e2 h4, Bool.and_self, if_true, D.py_eqv d e h1 h2 e1 e2, D.beq_decide]
theorem any_eqv {d : D} {p : PyData} (h1 : d.dat = true) (e1 : d.py = some p) : ∀ {es : List D} {ps : List PyData}, D.dats es = true → D.pys es = some ps → (ps.any fun z => PyData.eqv z p) = decide (d ∈ es)
  | [], _, _, e => by cases e; simp
  | e :: es, _, h, k => by
    rw [D.dats, Bool.and_eq_true] at h
    obtain ⟨q, a1, _, _⟩ := D.dat_py e h.1
    obtain ⟨qs, a2, _, _⟩ := D.dats_py es h.2
    rw [D.pys, a1, a2] at k
    cases k
    rw [List.any_cons, any_eqv h1 e1 h.2 a2, D.py_eqv e d h.1 h1 a1 e1, D.beq_decide]
    by_cases c : e = d
    · subst c; simp
    · have c2 : ¬ d = e := fun z => c z.symm
      simp [c, c2]
theorem ev_inCore {neg : Bool} {d c : D} {es : List D} {t : Bool} {M : Mo} (hs : seqOf M c = some (t, es)) (h1 : d.dat = true) (h2 : D.dats es = true) (h3 : d.dep ≤ 64) (h4 : D.deps es ≤ 63) : inCore neg [d, c] M = some (.bl (if neg then !decide (d ∈ es) else decide (d ∈ es)), M) := by
  obtain ⟨p, e1, _, _⟩ := D.dat_py d h1
  obtain ⟨ps, e2, k2, k3⟩ := D.dats_py es h2
  have sh : SeqAt.shaped (.list ps) = true := by
    unfold SeqAt.shaped
    rw [PyData.canLay0, k2, PyData.depth, k3]
    simp
    omega
  unfold inCore
  simp only [D.dat_noref h1, hs, e1, e2, D.shaped h1 e1 h3, sh, Bool.and_self, if_true, any_eqv h1 e1 h2 e2]
theorem ev_inT {d : D} {es : List D} {M : Mo} (h1 : d.dat = true) (h2 : D.dats es = true) (h3 : d.dep ≤ 64) (h4 : D.deps es ≤ 63) : inF [d, .tup es] M = some (.bl (decide (d ∈ es)), M) := by
  rw [inF, ev_inCore rfl h1 h2 h3 h4] <;> rfl
theorem ev_inL {d : D} {es : List D} {M : Mo} (h1 : d.dat = true) (h2 : D.dats es = true) (h3 : d.dep ≤ 64) (h4 : D.deps es ≤ 63) : inF [d, .lst es] M = some (.bl (decide (d ∈ es)), M) := by
  rw [inF, ev_inCore rfl h1 h2 h3 h4] <;> rfl
theorem ev_ninT {d : D} {es : List D} {M : Mo} (h1 : d.dat = true) (h2 : D.dats es = true) (h3 : d.dep ≤ 64) (h4 : D.deps es ≤ 63) : ninF [d, .tup es] M = some (.bl (!decide (d ∈ es)), M) := by
  rw [ninF, ev_inCore rfl h1 h2 h3 h4] <;> rfl
theorem ev_ninL {d : D} {es : List D} {M : Mo} (h1 : d.dat = true) (h2 : D.dats es = true) (h3 : d.dep ≤ 64) (h4 : D.deps es ≤ 63) : ninF [d, .lst es] M = some (.bl (!decide (d ∈ es)), M) := by
  rw [ninF, ev_inCore rfl h1 h2 h3 h4] <;> rfl

/-! ### places -/
theorem atI_nat {es : List D} {i : Nat} {e : D} (h : es[i]? = some e) : L2.atI es (i : Int) = some e := by
  have hl := (List.getElem?_eq_some_iff.mp h).1
  unfold L2.atI L2.ixN
  rw [if_pos (Int.natCast_nonneg i), if_pos (by omega)]
  simpa using h
theorem ev_at {c : D} {es : List D} {t : Bool} {i : Nat} {e : D} {M : Mo} (hs : seqOf M c = some (t, es)) (h : es[i]? = some e) : atF [c, .int (i : Int)] M = some (e, M) := by
  unfold atF
  simp only [hs, atI_nat h]
@[simp] theorem ev_at0 (a : D) (r : List D) (M : Mo) : atF [.tup (a :: r), .int 0] M = some (a, M) := ev_at (i := 0) (t := true) rfl rfl
@[simp] theorem ev_at1 (a b : D) (r : List D) (M : Mo) : atF [.tup (a :: b :: r), .int 1] M = some (b, M) := ev_at (i := 1) (t := true) rfl rfl
@[simp] theorem ev_at2 (a b c : D) (r : List D) (M : Mo) : atF [.tup (a :: b :: c :: r), .int 2] M = some (c, M) := ev_at (i := 2) (t := true) rfl rfl
@[simp] theorem ev_at3 (a b c d : D) (r : List D) (M : Mo) : atF [.tup (a :: b :: c :: d :: r), .int 3] M = some (d, M) := ev_at (i := 3) (t := true) rfl rfl
@[simp] theorem ev_atl0 (a : D) (r : List D) (M : Mo) : atF [.lst (a :: r), .int 0] M = some (a, M) := ev_at (i := 0) (t := false) rfl rfl
@[simp] theorem ev_atl1 (a b : D) (r : List D) (M : Mo) : atF [.lst (a :: b :: r), .int 1] M = some (b, M) := ev_at (i := 1) (t := false) rfl rfl
/-! ### the store at the exit -/
@[simp] theorem exit_same (M : Mo) (d : D) : exitF M d M = (d, M) := by
  unfold exitF
  rw [if_pos (Nat.le_refl _)]
theorem exit_cut {M E : Mo} {d : D} (h : d.closed M.length = true) : exitF M d (M ++ E) = (d, M) := by
  unfold exitF
  by_cases hl : (M ++ E).length ≤ M.length
  · rw [if_pos hl]
    rw [List.length_append] at hl
    have : E = [] := List.eq_nil_of_length_eq_zero (by omega)
    rw [this, List.append_nil]
  · rw [if_neg hl, if_pos (okT_self _ M E), if_pos h, List.take_left]

/-! ### the operators -/
@[simp] theorem line_eq : sizeLine = 16777216 := sizeLine_eq
theorem str_shaped (a : String) : SeqAt.shaped (.str (Str.ofString a)) = true := by
  unfold SeqAt.shaped
  rw [Bool.and_eq_true]
  refine ⟨?_, by simp [PyData.depth]⟩
  rw [PyData.canLay0, PyData.strOk, Str.ofString_eq_toList]
  rw [Array.all_eq_true_iff_forall_mem]
  intro n hn
  simp only [List.mem_toArray, List.mem_map] at hn
  obtain ⟨c, _, rfl⟩ := hn
  have hv := c.valid
  simp only [decide_eq_true_eq]
  show c.val.toNat < 1114112
  rcases hv with h | ⟨_, h⟩
  · exact Nat.lt_trans h (by decide)
  · exact h
@[simp] theorem lit_ok (a : String) : PyData.strOk (Str.ofString a) = true := by
  have h := str_shaped a
  unfold SeqAt.shaped at h
  rw [Bool.and_eq_true, PyData.canLay0] at h
  exact h.1
@[simp] theorem ev_eq_str (a b : String) (M : Mo) : eqF [.str (Str.ofString a), .str (Str.ofString b)] M = some (.bl (decide (a = b)), M) := by
  rw [ev_eq (by rw [D.dat]; exact lit_ok a) (by rw [D.dat]; exact lit_ok b) (by simp [D.dep]) (by simp [D.dep])]
  simp
@[simp] theorem ev_eq_int (a b : Int) (M : Mo) : eqF [.int a, .int b] M = some (.bl (decide (a = b)), M) := by
  rw [ev_eq rfl rfl (by simp [D.dep]) (by simp [D.dep])]
  simp
@[simp] theorem ev_add_int (a b : Int) (M : Mo) : addF [.int a, .int b] M = some (.int (a + b), M) := rfl
@[simp] theorem ev_add_str (a b : String) (M : Mo) : addF [.str (Str.ofString a), .str (Str.ofString b)] M = if a.length + b.length ≤ sizeLine then some (.str (Str.ofString (a ++ b)), M) else none := by
  show (if _ then some (D.str (Str.ofString a ++ Str.ofString b), M) else none) = _
  rw [ofString_add, ofString_len, ofString_len]
@[simp] theorem ev_add_tup (a b : List D) (M : Mo) : addF [.tup a, .tup b] M = if a.length + b.length ≤ sizeLine then some (.tup (a ++ b), M) else none := rfl
@[simp] theorem ev_add_lst (a b : List D) (M : Mo) : addF [.lst a, .lst b] M = if a.length + b.length ≤ sizeLine then some (.lst (a ++ b), M) else none := rfl
@[simp] theorem ev_sub (a b : Int) (M : Mo) : subF [.int a, .int b] M = some (.int (a - b), M) := rfl
@[simp] theorem ev_lt (a b : Int) (M : Mo) : ltF [.int a, .int b] M = some (.bl (decide (a < b)), M) := rfl
@[simp] theorem ev_isB (a b : Bool) (M : Mo) : isBF [.bl a, .bl b] M = some (.bl (decide (a = b)), M) := rfl
@[simp] theorem ev_notB (a b : Bool) (M : Mo) : notBF [.bl a, .bl b] M = some (.bl (!decide (a = b)), M) := rfl
@[simp] theorem ev_le (a b : Int) (M : Mo) : leF [.int a, .int b] M = some (.bl (decide (a ≤ b)), M) := rfl
@[simp] theorem ev_gt (a b : Int) (M : Mo) : gtF [.int a, .int b] M = some (.bl (decide (b < a)), M) := rfl
@[simp] theorem ev_ge (a b : Int) (M : Mo) : geF [.int a, .int b] M = some (.bl (decide (b ≤ a)), M) := rfl
@[simp] theorem ev_max (a b : Int) (M : Mo) : max2F [.int a, .int b] M = some (.int (if b > a then b else a), M) := rfl
@[simp] theorem ev_min (a b : Int) (M : Mo) : min2F [.int a, .int b] M = some (.int (if b < a then b else a), M) := rfl
@[simp] theorem ev_int (i : Int) (M : Mo) : intF [.int i] M = some (.int i, M) := rfl
@[simp] theorem ev_intb (b : Bool) (M : Mo) : intF [.bl b] M = some (.int (if b then 1 else 0), M) := rfl
@[simp] theorem ev_neg (i : Int) (M : Mo) : negF [.int i] M = some (.int (-i), M) := rfl
@[simp] theorem ev_isN (M : Mo) : isNF [.non] M = some (.bl true, M) := rfl
@[simp] theorem ev_isN_tup (ds : List D) (M : Mo) : isNF [.tup ds] M = some (.bl false, M) := rfl
@[simp] theorem ev_notN (M : Mo) : notNF [.non] M = some (.bl false, M) := rfl
@[simp] theorem ev_notN_tup (ds : List D) (M : Mo) : notNF [.tup ds] M = some (.bl true, M) := rfl
@[simp] theorem ev_len_tup (ds : List D) (M : Mo) : lenF [.tup ds] M = some (.int ds.length, M) := rfl
@[simp] theorem ev_len_lst (ds : List D) (M : Mo) : lenF [.lst ds] M = some (.int ds.length, M) := rfl
@[simp] theorem ev_tup_tup (ds : List D) (M : Mo) : tupleF [.tup ds] M = some (.tup ds, M) := rfl
@[simp] theorem ev_tup_lst (ds : List D) (M : Mo) : tupleF [.lst ds] M = some (.tup ds, M) := rfl
@[simp] theorem ev_list_tup (ds : List D) (M : Mo) : listF [.tup ds] M = some (.lst ds, M) := rfl
@[simp] theorem ev_list_lst (ds : List D) (M : Mo) : listF [.lst ds] M = some (.lst ds, M) := rfl
@[simp] theorem ev_list_rol (ds : List D) (M : Mo) : listF [.rol ds] M = some (.lst ds, M) := rfl
@[simp] theorem ev_rev_lst (ds : List D) (M : Mo) : revF [.lst ds] M = some (.lst ds.reverse, M) := rfl
@[simp] theorem ev_mod (a b : Int) (M : Mo) : modF [.int a, .int b] M = if 0 < b then some (.int (a % b), M) else none := by
  show (if decide (0 < b) = true then _ else none) = _
  simp only [decide_eq_true_eq]
@[simp] theorem ev_fdiv (a b : Int) (M : Mo) : fdivF [.int a, .int b] M = if 0 < b ∧ b < 1073741824 then some (.int (a / b), M) else none := by
  show (if (decide (0 < b) && decide (b < 1073741824)) = true then _ else none) = _
  simp only [Bool.and_eq_true, decide_eq_true_eq]

/-! ### the meanings, opened at a place -/
@[simp] theorem mVar_e (i : Nat) (lo : Lo) (M : Mo) : mVar i lo M = (match lo[i]? with | some (some d) => some (d, M) | _ => none) := rfl
@[simp] theorem mC_e (d : D) (lo : Lo) (M : Mo) : mC d lo M = some (d, M) := rfl
@[simp] theorem mNil_e  (lo : Lo) (M : Mo) : mNil lo M = some ([], M) := rfl
@[simp] theorem mCons_e (m : ME) (ms : MA) (lo : Lo) (M : Mo) : mCons m ms lo M = (match m lo M with
  | some (d, M1) => match ms lo M1 with
    | some (ds, M2) => some (d :: ds, M2)
    | none => none
  | none => none) := rfl
@[simp] theorem mCall_e (f : F1) (ms : MA) (lo : Lo) (M : Mo) : mCall f ms lo M = (match ms lo M with
  | some (ds, M1) => f ds M1
  | none => none) := rfl
@[simp] theorem mOne_e (m : ME) (lo : Lo) (M : Mo) : mOne m lo M = (mCons m mNil) lo M := rfl
@[simp] theorem mTwo_e (m n : ME) (lo : Lo) (M : Mo) : mTwo m n lo M = (mCons m (mCons n mNil)) lo M := rfl
@[simp] theorem mBin_e (f : F1) (ma mb : ME) (lo : Lo) (M : Mo) : mBin f ma mb lo M = (mCall f (mTwo ma mb)) lo M := rfl
@[simp] theorem mUn_e (f : F1) (m : ME) (lo : Lo) (M : Mo) : mUn f m lo M = (mCall f (mOne m)) lo M := rfl
@[simp] theorem mTup_e (ms : MA) (lo : Lo) (M : Mo) : mTup ms lo M = (match ms lo M with
  | some (ds, M1) => if ds.length ≤ sizeLine then some (.tup ds, M1) else none
  | none => none) := rfl
@[simp] theorem mLst_e (ms : MA) (lo : Lo) (M : Mo) : mLst ms lo M = (match ms lo M with
  | some (ds, M1) => if ds.length ≤ sizeLine then some (.lst ds, M1) else none
  | none => none) := rfl
@[simp] theorem mNewL_e (ms : MA) (lo : Lo) (M : Mo) : mNewL ms lo M = (match ms lo M with
  | some (ds, M1) => if ds.length ≤ sizeLine then some (.ref M1.length, M1 ++ [.lst ds]) else none
  | none => none) := rfl
@[simp] theorem tru_e (m : ME) (lo : Lo) (M : Mo) : tru m lo M = (match m lo M with | some (.bl b, M1) => some (b, M1) | _ => none) := rfl
@[simp] theorem tNotM_e (m : MT) (lo : Lo) (M : Mo) : tNotM m lo M = (match m lo M with | some (b, M1) => some (!b, M1) | none => none) := rfl
@[simp] theorem tAndM_e (m n : MT) (lo : Lo) (M : Mo) : tAndM m n lo M = (match m lo M with | some (true, M1) => n lo M1 | some (false, M1) => some (false, M1) | none => none) := rfl
@[simp] theorem tOrM_e (m n : MT) (lo : Lo) (M : Mo) : tOrM m n lo M = (match m lo M with | some (true, M1) => some (true, M1) | some (false, M1) => n lo M1 | none => none) := rfl
@[simp] theorem mNotE_e (m : ME) (lo : Lo) (M : Mo) : mNotE m lo M = (match m lo M with | some (.bl b, M1) => some (.bl (!b), M1) | _ => none) := rfl
@[simp] theorem mAndE_e (m n : ME) (lo : Lo) (M : Mo) : mAndE m n lo M = (match m lo M with | some (.bl true, M1) => n lo M1 | some (.bl false, M1) => some (.bl false, M1) | _ => none) := rfl
@[simp] theorem mOrE_e (m n : ME) (lo : Lo) (M : Mo) : mOrE m n lo M = (match m lo M with | some (.bl true, M1) => some (.bl true, M1) | some (.bl false, M1) => n lo M1 | _ => none) := rfl
@[simp] theorem mIf_e (c : MT) (m n : ME) (lo : Lo) (M : Mo) : mIf c m n lo M = (match c lo M with | some (true, M1) => m lo M1 | some (false, M1) => n lo M1 | none => none) := rfl
@[simp] theorem sNext_e  (lo : Lo) (M : Mo) : sNext lo M = some (.nx lo M) := rfl
@[simp] theorem sSeq_e (m n : MS) (lo : Lo) (M : Mo) : sSeq m n lo M = (match m lo M with | some (.nx lo1 M1) => n lo1 M1 | r => r) := rfl
@[simp] theorem sBreak_e  (lo : Lo) (M : Mo) : sBreak lo M = some (.bk lo M) := rfl
@[simp] theorem sCont_e  (lo : Lo) (M : Mo) : sCont lo M = some (.ct lo M) := rfl
@[simp] theorem sDrop_e (m : ME) (lo : Lo) (M : Mo) : sDrop m lo M = (match m lo M with | some (_, M1) => some (.nx lo M1) | none => none) := rfl
@[simp] theorem sRet_e (m : ME) (lo : Lo) (M : Mo) : sRet m lo M = (match m lo M with | some (d, M1) => some (.rt d M1) | none => none) := rfl
@[simp] theorem sRetN_e  (lo : Lo) (M : Mo) : sRetN lo M = some (.rt .non M) := rfl
@[simp] theorem sIf_e (c : MT) (m n : MS) (lo : Lo) (M : Mo) : sIf c m n lo M = (match c lo M with | some (true, M1) => m lo M1 | some (false, M1) => n lo M1 | none => none) := rfl
@[simp] theorem sNever_e  (lo : Lo) (M : Mo) : sNever lo M = none := rfl
@[simp] theorem gName_e (i : Nat) (d : D) (lo : Lo) (M : Mo) : gName i d lo M = some (lo.set i (some d), M) := rfl
@[simp] theorem gsNil_e  (ds : List D) (lo : Lo) (M : Mo) : gsNil ds lo M = (match ds with | [] => some (lo, M) | _ => none) := rfl
@[simp] theorem gsCons_e (g : MG) (gs : MGs) (ds : List D) (lo : Lo) (M : Mo) : gsCons g gs ds lo M = (match ds with | d :: r => (match g d lo M with | some (lo1, M1) => gs r lo1 M1 | none => none) | [] => none) := rfl
@[simp] theorem gTup_e (n : Nat) (g : MGs) (d : D) (lo : Lo) (M : Mo) : gTup n g d lo M = (match d with
  | .tup ds => if ds.length = n then g ds lo M else none
  | _ => none) := rfl
@[simp] theorem sSet_e (m : ME) (g : MG) (lo : Lo) (M : Mo) : sSet m g lo M = (match m lo M with
  | some (d, M1) => match g d lo M1 with
    | some (lo2, M2) => some (.nx lo2 M2)
    | none => none
  | none => none) := rfl
@[simp] theorem sPar_e (i j : Nat) (ma mb : ME) (lo : Lo) (M : Mo) : sPar i j ma mb lo M = (match mTwo ma mb lo M with
  | some ([d, e], M1) => some (.nx ((lo.set i (some d)).set j (some e)) M1)
  | _ => none) := rfl
@[simp] theorem sPar3_e (i j l : Nat) (ma mb mc : ME) (lo : Lo) (M : Mo) : sPar3 i j l ma mb mc lo M = (match mCons ma (mTwo mb mc) lo M with
  | some ([d, e, f], M1) => some (.nx (((lo.set i (some d)).set j (some e)).set l (some f)) M1)
  | _ => none) := rfl
@[simp] theorem mCallN_e (np : Nat) (f : F1) (ms : MA) (lo : Lo) (M : Mo) : mCallN np f ms lo M = (match ms lo M with
  | some (ds, M1) => if ds.length = np then f ds M1 else none
  | none => none) := rfl
@[simp] theorem mMake_e (c np : Nat) (f : F1) (ms : MA) (lo : Lo) (M : Mo) : mMake c np f ms lo M = (match ms lo M with
  | some (ds, M1) => if ds.length + 1 = np then (match f (.ref M1.length :: ds) (M1 ++ [.ins c []]) with
    | some (.non, M2) => some (.ref M1.length, M2)
    | _ => none) else none
  | none => none) := rfl
@[simp] theorem mMethO_e (c : Nat) (m : Str) (np : Nat) (f : F1) (mo : ME) (ms : MA) (lo : Lo) (M : Mo) : mMethO c m np f mo ms lo M = (match mo lo M with
  | some (.ref n, M1) => match M1[n]? with
    | some (.ins c' fs) => if c' = c ∧ fs.lookup m = none then (match ms lo M1 with
      | some (ds, M2) => if ds.length + 1 = np then f (.ref n :: ds) M2 else none
      | none => none) else none
    | _ => none
  | _ => none) := rfl
@[simp] theorem mFld_e (c : Nat) (mo : ME) (g : Str) (lo : Lo) (M : Mo) : mFld c mo g lo M = (match mo lo M with
  | some (.ref n, M1) => match M1[n]? with
    | some (.ins c' fs) => if c' = c then (match fs.lookup g with
      | some d => some (d, M1)
      | none => none) else none
    | _ => none
  | _ => none) := rfl
@[simp] theorem sFldM_e (c : Nat) (mo mv : ME) (g : Str) (lo : Lo) (M : Mo) : sFldM c mo mv g lo M = (match mv lo M with
  | some (d, M1) => match mo lo M1 with
    | some (.ref n, M2) => match M2[n]? with
      | some (.ins c' fs) => if c' = c ∧ fs.length < 1000 then some (.nx lo (M2.set n (.ins c (putD g d fs)))) else none
      | _ => none
    | _ => none
  | none => none) := rfl
@[simp] theorem mMetL_e (f : F1) (mo : ME) (ms : MA) (lo : Lo) (M : Mo) : mMetL f mo ms lo M = (match mo lo M with
  | some (d, M1) => if isLst M1 d = true then (match ms lo M1 with | some (ds, M2) => f (d :: ds) M2 | none => none) else none
  | none => none) := rfl
@[simp] theorem gSub_e (mo mi : ME) (f : D → D → D → Mo → Option Mo) (v : D) (lo : Lo) (M : Mo) : gSub mo mi f v lo M = (match mo lo M with
  | some (o, M1) => match mi lo M1 with
    | some (i, M2) => match f o i v M2 with
      | some M3 => some (lo, M3)
      | none => none
    | none => none
  | none => none) := rfl
@[simp] theorem sFor_e (mi : MA) (g : MG) (body : MS) (lo : Lo) (M : Mo) : sFor mi g body lo M = (match mi lo M with
  | some (ds, M1) => forLoop g body ds lo M1
  | none => none) := rfl
@[simp] theorem iSeqM_e (m : ME) (lo : Lo) (M : Mo) : iSeqM m lo M = (match m lo M with
  | some (.tup ds, M1) => some (ds, M1)
  | some (.lst ds, M1) => some (ds, M1)
  | _ => none) := rfl
@[simp] theorem iZipM_e (ma mb : ME) (lo : Lo) (M : Mo) : iZipM ma mb lo M = (match mTwo ma mb lo M with
  | some ([da, db], M1) => match kindOf da, kindOf db with
    | some (_, xs), some (_, ys) => some (zipD xs ys, M1)
    | _, _ => none
  | _ => none) := rfl
@[simp] theorem iRg1M_e (ms : MA) (lo : Lo) (M : Mo) : iRg1M ms lo M = (match ms lo M with | some ([.int n], M1) => if decide (-(2 ^ 62) ≤ n) && decide (n < 2 ^ 62) then some (rgD 0 n, M1) else none | _ => none) := rfl
@[simp] theorem iRg2M_e (ms : MA) (lo : Lo) (M : Mo) : iRg2M ms lo M = (match ms lo M with | some ([.int a, .int b], M1) => if decide (-(2 ^ 62) ≤ a) && decide (a < 2 ^ 62) && decide (-(2 ^ 62) ≤ b) && decide (b < 2 ^ 62) then some (rgD a b, M1) else none | _ => none) := rfl
@[simp] theorem mComp_e (mi : MA) (g : MG) (c : MT) (m : ME) (vs : List Nat) (lo : Lo) (M : Mo) : mComp mi g c m vs lo M = (match mi lo M with
  | some (ds, M1) => if ds.length ≤ sizeLine then (match compLoop g c m vs ds lo M1 with
    | some (es, M2) => some (.lst es, M2)
    | none => none) else none
  | none => none) := rfl
@[simp] theorem tTrue_e  (lo : Lo) (M : Mo) : tTrue lo M = some (true, M) := rfl
@[simp] theorem pNone_e  (lo : Lo) (M : Mo) : pNone lo M = some (none, M) := rfl
@[simp] theorem pSome_e (m : ME) (lo : Lo) (M : Mo) : pSome m lo M = (match m lo M with | some (.int i, M1) => some (some i, M1) | _ => none) := rfl
@[simp] theorem mSl_e (m : ME) (lo hi : MP) (l : Lo) (M : Mo) : mSl m lo hi l M = (match m l M with
  | some (d, M1) => match lo l M1 with
    | some (a, M2) => match hi l M2 with
      | some (b, M3) => match d with
        | .str z => if z.length ≤ sizeLine then some (.str (L2.cutS z a b), M3) else none
        | _ => match seqOf M3 d with
          | some (true, es) => some (.tup (cutD es a b), M3)
          | some (false, es) => some (.lst (cutD es a b), M3)
          | none => none
      | none => none
    | none => none
  | none => none) := rfl
@[simp] theorem mMetS_e (f : Str → Str → D) (mo ma : ME) (lo : Lo) (M : Mo) : mMetS f mo ma lo M = (match mo lo M with
  | some (.str a, M1) => match ma lo M1 with
    | some (.str b, M2) => some (f a b, M2)
    | _ => none
  | _ => none) := rfl
@[simp] theorem mChain_e (f g : F1) (ma mb mc : ME) (lo : Lo) (M : Mo) : mChain f g ma mb mc lo M = (match mTwo ma mb lo M with
  | some ([d, e], M1) => match f [d, e] M1 with
    | some (.bl true, M2) => (match mc lo M2 with
      | some (h, M3) => (match g [e, h] M3 with
        | some (.bl b, M4) => some (.bl b, M4)
        | _ => none)
      | none => none)
    | some (.bl false, M2) => some (.bl false, M2)
    | _ => none
  | _ => none) := rfl
@[simp] theorem sForS_e (m : ME) (g : MG) (body : MS) (lo : Lo) (M : Mo) : sForS m g body lo M = (match m lo M with
  | some (.tup ds, M1) => forLoop g body ds lo M1
  | some (.lst ds, M1) => forLoop g body ds lo M1
  | some (.ref n, M1) => match M1[n]? with
    | some (.lst ds) => forLoopR n ds g body ds lo M1
    | _ => none
  | _ => none) := rfl
@[simp] theorem mCompS_e (mi : ME) (g : MG) (c : MT) (m : ME) (vs : List Nat) (lo : Lo) (M : Mo) : mCompS mi g c m vs lo M = (match mi lo M with
  | some (.tup ds, M1) => if ds.length ≤ sizeLine then (match compLoop g c m vs ds lo M1 with
    | some (es, M2) => some (.lst es, M2)
    | none => none) else none
  | some (.lst ds, M1) => if ds.length ≤ sizeLine then (match compLoop g c m vs ds lo M1 with
    | some (es, M2) => some (.lst es, M2)
    | none => none) else none
  | some (.ref n, M1) => match M1[n]? with
    | some (.lst ds) => if ds.length ≤ sizeLine then (match compLoopR n ds g c m vs ds lo M1 with
      | some (es, M2) => some (.lst es, M2)
      | none => none) else none
    | _ => none
  | _ => none) := rfl
@[simp] theorem mCompM_e (mi : MA) (g : MG) (c : MT) (m : ME) (vs : List Nat) (lo : Lo) (M : Mo) : mCompM mi g c m vs lo M = (match mi lo M with
  | some (ds, M1) => if ds.length ≤ sizeLine then (match compLoop g c m vs ds lo M1 with
    | some (es, M2) => some (.ref M2.length, M2 ++ [.lst es])
    | none => none) else none
  | none => none) := rfl
@[simp] theorem mIsi_e (T : String) (m : ME) (lo : Lo) (M : Mo) : mIsi T m lo M = (match m lo M with
  | some (d, M1) => match tyOf M1 d with
    | some t => some (.bl (isOf t T), M1)
    | none => none
  | none => none) := rfl
@[simp] theorem sAug_e (i : Nat) (m : ME) (lo : Lo) (M : Mo) : sAug i m lo M = (match lo[i]? with
  | some (some (.int a)) => match m lo M with
    | some (.int b, M1) => some (.nx (lo.set i (some (.int (a + b)))) M1)
    | _ => none
  | _ => none) := rfl
@[simp] theorem mKGet_e (kvs : List (Str × D)) (m : ME) (lo : Lo) (M : Mo) : mKGet kvs m lo M = (match m lo M with
  | some (.str z, M1) => match kvs.lookup z with
    | some d => some (d, M1)
    | none => none
  | _ => none) := rfl
@[simp] theorem mKIn_e (neg : Bool) (kvs : List (Str × D)) (m : ME) (lo : Lo) (M : Mo) : mKIn neg kvs m lo M = (match m lo M with
  | some (.str z, M1) => match kvs.lookup z with
    | some _ => some (.bl (!neg), M1)
    | none => none
  | _ => none) := rfl
@[simp] theorem mCallL_e (i : Nat) (x : Str) (np : Nat) (f : F1) (ms : MA) (lo : Lo) (M : Mo) : mCallL i x np f ms lo M = (match lo[i]? with
  | some (some (.fn y)) => if y = x then mCallN np f ms lo M else none
  | _ => none) := rfl
@[simp] theorem mTupRg_e (m : ME) (lo : Lo) (M : Mo) : mTupRg m lo M = (match m lo M with
  | some (.int n, M1) => if decide (0 ≤ n) && decide (n ≤ 1000) then some (.tup (rgD 0 n), M1) else none
  | _ => none) := rfl
@[simp] theorem mLstRg_e (m : ME) (lo : Lo) (M : Mo) : mLstRg m lo M = (match m lo M with
  | some (.int n, M1) => if decide (0 ≤ n) && decide (n ≤ 1000) then some (.lst (rgD 0 n), M1) else none
  | _ => none) := rfl
@[simp] theorem mLstRgM_e (m : ME) (lo : Lo) (M : Mo) : mLstRgM m lo M = (match m lo M with
  | some (.int n, M1) => if decide (0 ≤ n) && decide (n ≤ 1000) then some (.ref M1.length, M1 ++ [.lst (rgD 0 n)]) else none
  | _ => none) := rfl
@[simp] theorem gLstG_e (n : Nat) (g : MGs) (d : D) (lo : Lo) (M : Mo) : gLstG n g d lo M = (match d with
  | .lst ds => if ds.length = n then g ds lo M else none
  | _ => none) := rfl
@[simp] theorem mNewD_e (lo : Lo) (M : Mo) : mNewD lo M = some (.ref M.length, M ++ [.dct []]) := rfl
@[simp] theorem mNewDn_e (lo : Lo) (M : Mo) : mNewDn lo M = some (.ref M.length, M ++ [.dcn []]) := rfl
@[simp] theorem mDGet_e (mo mi : ME) (lo : Lo) (M : Mo) : mDGet mo mi lo M = (match mo lo M with
  | some (.ref n, M1) => match M1[n]? with
    | some (.dct _) => (match mi lo M1 with
      | some (k, M2) => dGetF [.ref n, k] M2
      | none => none)
    | _ => none
  | _ => none) := rfl
@[simp] theorem sDPutM_e (mo mi mv : ME) (lo : Lo) (M : Mo) : sDPutM mo mi mv lo M = (match mv lo M with
  | some (v, M1) => match mo lo M1 with
    | some (o, M2) => match mi lo M2 with
      | some (k, M3) => match dPutM o k v M3 with
        | some M4 => some (.nx lo M4)
        | none => none
      | none => none
    | none => none
  | none => none) := rfl
@[simp] theorem sDnPut_e (mo mi mv : ME) (lo : Lo) (M : Mo) : sDnPut mo mi mv lo M = (match mv lo M with
  | some (v, M1) => match mo lo M1 with
    | some (o, M2) => match mi lo M2 with
      | some (k, M3) => match dnPut o k v M3 with
        | some M4 => some (.nx lo M4)
        | none => none
      | none => none
    | none => none
  | none => none) := rfl
@[simp] theorem mLastDigit_e (m : ME) (lo : Lo) (M : Mo) : mLastDigit m lo M = (match m lo M with
  | some (.str z, M1) => match lastDigit z with
    | some i => if z.length ≤ sizeLine then some (.int i, M1) else none
    | none => none
  | _ => none) := rfl
@[simp] theorem tyOf_non (M : Mo) : tyOf M .non = some "NoneType" := rfl
@[simp] theorem tyOf_bl (M : Mo) (b : Bool) : tyOf M (.bl b) = some "bool" := rfl
@[simp] theorem tyOf_int (M : Mo) (i : Int) : tyOf M (.int i) = some "int" := rfl
@[simp] theorem tyOf_str (M : Mo) (x : Str) : tyOf M (.str x) = some "str" := rfl
@[simp] theorem tyOf_tup (M : Mo) (ds : List D) : tyOf M (.tup ds) = some "tuple" := rfl
@[simp] theorem tyOf_lst (M : Mo) (ds : List D) : tyOf M (.lst ds) = some "list" := rfl
@[simp] theorem isOf_tt : isOf "tuple" "tuple" = true := rfl
@[simp] theorem isOf_ss : isOf "str" "str" = true := rfl
@[simp] theorem isOf_ii : isOf "int" "int" = true := rfl
@[simp] theorem isOf_ib : isOf "int" "bool" = false := rfl
@[simp] theorem ev_isN_int (i : Int) (M : Mo) : isNF [.int i] M = some (.bl false, M) := rfl
@[simp] theorem ev_notN_int (i : Int) (M : Mo) : notNF [.int i] M = some (.bl true, M) := rfl
@[simp] theorem ev_dict (n : Nat) (M : Mo) : dictF [.ref n] M = (match M[n]? with
    | some (.dct kvs) => some (.ref M.length, M ++ [.dct kvs])
    | _ => none) := rfl
@[simp] theorem ofString_beq (a b : String) : (Str.ofString a == Str.ofString b) = decide (a = b) := by
  by_cases h : a = b
  · subst h; simp
  · have : ¬ Str.ofString a = Str.ofString b := by simpa using h
    simp [h, this]
theorem cut_from {es : List D} {i : Nat} (h : i ≤ es.length) : cutD es (some (i : Int)) none = es.drop i := by
  unfold cutD
  rw [HT.sIx_none, HT.sIx_nat, Nat.min_eq_left h, List.take_of_length_le (by simp)]
theorem cut_to {es : List D} {i : Nat} (h : i ≤ es.length) : cutD es none (some (i : Int)) = es.take i := by
  unfold cutD
  rw [HT.sIx_none, HT.sIx_nat, Nat.min_eq_left h]
  simp
@[simp] theorem cut_from1 (a : D) (r : List D) : cutD (a :: r) (some 1) none = r := cut_from (i := 1) (by simp)
@[simp] theorem cut_from2 (a b : D) (r : List D) : cutD (a :: b :: r) (some 2) none = r := cut_from (i := 2) (by simp)
@[simp] theorem ev_ne_str (a b : String) (M : Mo) : neF [.str (Str.ofString a), .str (Str.ofString b)] M = some (.bl (!decide (a = b)), M) := by
  rw [ev_ne (by rw [D.dat]; exact lit_ok a) (by rw [D.dat]; exact lit_ok b) (by simp [D.dep]) (by simp [D.dep])]
  simp
@[simp] theorem ev_ne_int (a b : Int) (M : Mo) : neF [.int a, .int b] M = some (.bl (!decide (a = b)), M) := by
  rw [ev_ne rfl rfl (by simp [D.dep]) (by simp [D.dep])]
  simp
end G

set_option Elab.async false
set_option linter.all false
set_option maxRecDepth 100000
/-! Loops and comprehensions over typed rows. -/
namespace G
open PySem PySem.Spec

/-- one turn of a loop -/
def runB (g : MG) (body : MS) (d : D) : MS := fun lo M => match g d lo M with | some (lo1, M1) => body lo1 M1 | none => none
@[simp] theorem runB_e (g : MG) (body : MS) (d : D) (lo : Lo) (M : Mo) : runB g body d lo M = (match g d lo M with | some (lo1, M1) => body lo1 M1 | none => none) := rfl
@[simp] theorem for_nil (g : MG) (body : MS) (lo : Lo) (M : Mo) : forLoop g body [] lo M = some (.nx lo M) := rfl
theorem for_cons (g : MG) (body : MS) (d : D) (ds : List D) (lo : Lo) (M : Mo) : forLoop g body (d :: ds) lo M = (match runB g body d lo M with
    | some (.nx lo2 M2) => forLoop g body ds lo2 M2
    | some (.ct lo2 M2) => forLoop g body ds lo2 M2
    | some (.bk lo2 M2) => some (.nx lo2 M2)
    | some (.rt d M2) => some (.rt d M2)
    | none => none) := by
  rw [forLoop, runB_e]
  cases g d lo M with
  | none => rfl
  | some p => rfl
theorem for_inv {α β : Type} {g : MG} {body : MS} {ei : α → D} {step : β → α → β} {R : β → Lo → Mo → Prop} : ∀ (xs : List α) (b : β) (lo : Lo) (M : Mo), (∀ b x lo M, x ∈ xs → R b lo M → ∃ lo' M', runB g body (ei x) lo M = some (.nx lo' M') ∧ R (step b x) lo' M') →
    R b lo M → ∃ lo' M', forLoop g body (xs.map ei) lo M = some (.nx lo' M') ∧ R (xs.foldl step b) lo' M'
  | [], b, lo, M, _, r => ⟨lo, M, rfl, r⟩
  | x :: xs, b, lo, M, h, r => by
    obtain ⟨lo1, M1, e, r1⟩ := h b x lo M List.mem_cons_self r
    obtain ⟨lo2, M2, e2, r2⟩ := for_inv xs (step b x) lo1 M1 (fun b y lo M hy => h b y lo M (List.mem_cons_of_mem _ hy)) r1
    refine ⟨lo2, M2, ?_, r2⟩
    rw [List.map_cons, for_cons, e]
    exact e2
/-- the first item of which p is true is handed back -/
theorem for_find {α : Type} {g : MG} {body : MS} {ei : α → D} {p : α → Bool} {res : α → D} {R : Lo → Prop} {M : Mo} : ∀ (xs : List α) (lo : Lo), (∀ x ∈ xs, ∀ lo, R lo → (p x = true → runB g body (ei x) lo M = some (.rt (res x) M)) ∧ (p x = false → ∃ lo', runB g body (ei x) lo M = some (.nx lo' M) ∧ R lo')) → R lo →
    (∀ x, xs.find? p = some x → forLoop g body (xs.map ei) lo M = some (.rt (res x) M)) ∧ (xs.find? p = none → ∃ lo', forLoop g body (xs.map ei) lo M = some (.nx lo' M) ∧ R lo')
  | [], lo, _, r => ⟨fun x h => by simp at h, fun _ => ⟨lo, rfl, r⟩⟩
  | x :: xs, lo, h, r => by
    obtain ⟨h1, h2⟩ := h x List.mem_cons_self lo r
    cases hp : p x with
    | true =>
      refine ⟨fun y hy => ?_, fun hn => by simp [hp] at hn⟩
      simp [hp] at hy
      subst hy
      rw [List.map_cons, for_cons, h1 hp]
    | false =>
      obtain ⟨lo1, e, r1⟩ := h2 hp
      obtain ⟨k1, k2⟩ := for_find xs lo1 (fun y hy => h y (List.mem_cons_of_mem _ hy)) r1
      refine ⟨fun y hy => ?_, fun hn => ?_⟩
      · simp [hp] at hy
        rw [List.map_cons, for_cons, e]
        exact k1 y hy
      · simp only [List.find?_cons, hp] at hn
        obtain ⟨lo2, e2, r2⟩ := k2 hn
        refine ⟨lo2, ?_, r2⟩
        rw [List.map_cons, for_cons, e]
        exact e2
theorem comp_typed {α β : Type} {g : MG} {c : MT} {m : ME} {vs : List Nat} {lo : Lo} {M : Mo} {ei : α → D} {eo : β → D} {p : α → Bool} {f : α → β} : ∀ (xs : List α), (∀ x ∈ xs, ∃ lo1, g (ei x) (wipeD lo vs) M = some (lo1, M) ∧ c lo1 M = some (p x, M) ∧ (p x = true → m lo1 M = some (eo (f x), M))) →
    compLoop g c m vs (xs.map ei) lo M = some (((xs.filter p).map f).map eo, M)
  | [], _ => rfl
  | x :: xs, h => by
    obtain ⟨lo1, e1, e2, e3⟩ := h x List.mem_cons_self
    have ih := comp_typed xs fun y hy => h y (List.mem_cons_of_mem _ hy)
    rw [List.map_cons, compLoop, e1]
    simp only [e2]
    cases hp : p x with
    | true => simp only [e3 hp, ih, List.filter_cons, hp, if_true, List.map_cons]
    | false => simp only [ih, List.filter_cons, hp, Bool.false_eq_true, if_false]
theorem comp_map {α β : Type} {g : MG} {m : ME} {vs : List Nat} {lo : Lo} {M : Mo} {ei : α → D} {eo : β → D} {f : α → β} (xs : List α) (h : ∀ x ∈ xs, ∃ lo1, g (ei x) (wipeD lo vs) M = some (lo1, M) ∧ m lo1 M = some (eo (f x), M)) :
    compLoop g tTrue m vs (xs.map ei) lo M = some ((xs.map f).map eo, M) := by
  have := comp_typed (c := tTrue) (p := fun _ => true) (f := f) (eo := eo) xs fun x hx => by
    obtain ⟨lo1, e1, e2⟩ := h x hx
    exact ⟨lo1, e1, rfl, fun _ => e2⟩
  rwa [List.filter_eq_self.mpr (fun _ _ => rfl)] at this
/-- the same, R knowing what is left -/
theorem for_inv2 {α β : Type} {g : MG} {body : MS} {ei : α → D} {step : β → α → β} {R : List α → β → Lo → Mo → Prop} (h : ∀ b x xs lo M, R (x :: xs) b lo M → ∃ lo' M', runB g body (ei x) lo M = some (.nx lo' M') ∧ R xs (step b x) lo' M') :
    ∀ (xs : List α) (b : β) (lo : Lo) (M : Mo), R xs b lo M → ∃ lo' M', forLoop g body (xs.map ei) lo M = some (.nx lo' M') ∧ R [] (xs.foldl step b) lo' M'
  | [], b, lo, M, r => ⟨lo, M, rfl, r⟩
  | x :: xs, b, lo, M, r => by
    obtain ⟨lo1, M1, e, r1⟩ := h b x xs lo M r
    obtain ⟨lo2, M2, e2, r2⟩ := for_inv2 h xs (step b x) lo1 M1 r1
    refine ⟨lo2, M2, ?_, r2⟩
    rw [List.map_cons, for_cons, e]
    exact e2
end G

set_option Elab.async false
set_option linter.all false
set_option maxRecDepth 100000
/-! Formulas: what formulas.py computes. -/
namespace Law
open PySem PySem.Spec G

inductive Op where
  | imp
  | and
  | or
deriving DecidableEq
def Op.w : Op → Str
  | .imp => "if"
  | .and => "and"
  | .or => "or"
def Op.ap : Op → Bool → Bool → Bool
  | .imp, a, b => !a || b
  | .and, a, b => a && b
  | .or, a, b => a || b
inductive Fm where
  | lt (n : Nat)
  | fls
  | bin (o : Op) (a b : Fm)
deriving DecidableEq
def enc : Fm → D
  | .lt n => .tup [.str "letter", .int n]
  | .fls => .tup [.str "false"]
  | .bin o a b => .tup [.str o.w, enc a, enc b]
def Fm.dp : Fm → Nat
  | .lt _ => 1
  | .fls => 1
  | .bin _ a b => max a.dp b.dp + 1
/-- the letters are of the first four -/
def Fm.ok : Fm → Bool
  | .lt n => decide (n < 4)
  | .fls => true
  | .bin _ a b => a.ok && b.ok
def Fm.val (r : List Bool) : Fm → Bool
  | .lt n => r.getD n false
  | .fls => false
  | .bin o a b => o.ap (a.val r) (b.val r)
def b2i (b : Bool) : Int := if b then 1 else 0
abbrev I (b : Bool) : D := .int (b2i b)
def rowD (r : List Bool) : D := .tup (r.map I)
theorem Op.w_dat (o : Op) : PyData.strOk o.w = true := by cases o <;> decide +kernel
theorem letter_dat : PyData.strOk ("letter" : Str) = true := by decide +kernel
theorem false_dat : PyData.strOk ("false" : Str) = true := by decide +kernel
@[simp] theorem enc_dat : ∀ f : Fm, (enc f).dat = true
  | .lt n => by simp [enc, D.dat, D.dats, letter_dat]
  | .fls => by simp [enc, D.dat, D.dats, false_dat]
  | .bin o a b => by simp [enc, D.dat, D.dats, Op.w_dat, enc_dat a, enc_dat b]
@[simp] theorem enc_dep : ∀ f : Fm, (enc f).dep = f.dp
  | .lt n => by simp [enc, D.dep, D.deps, Fm.dp]
  | .fls => by simp [enc, D.dep, D.deps, Fm.dp]
  | .bin o a b => by simp [enc, D.dep, D.deps, Fm.dp, enc_dep a, enc_dep b]
@[simp] theorem Op.w_inj (o p : Op) : o.w = p.w ↔ o = p := by cases o <;> cases p <;> simp [Op.w]
@[simp] theorem enc_inj : ∀ f g : Fm, enc f = enc g ↔ f = g
  | .lt n, .lt m => by simp [enc]; omega
  | .fls, .fls => by simp
  | .bin o a b, .bin p c d => by simp [enc, enc_inj a c, enc_inj b d]
  | .lt _, .fls | .fls, .lt _ => by simp [enc]
  | .lt _, .bin _ _ _ | .bin _ _ _, .lt _ => by simp [enc]
  | .fls, .bin _ _ _ | .bin _ _ _, .fls => by simp [enc]

theorem ev_joined (o : Op) (x y : Bool) (M : Mo) : fnF 3 b_joined_value [.str o.w, I x, I y] M = some (I (o.ap x y), M) := by
  cases o <;> cases x <;> cases y <;> simp [fnF, b_joined_value, Op.w, Op.ap, b2i]
/-- fv of the formulas that q allows -/
def SVal (fv : F1) (q : Fm → Prop) : Prop := ∀ f r M, q f → f.ok = true → r.length = 4 → fv [enc f, rowD r] M = some (I (f.val r), M)
theorem ev_value {fj fv : F1} (hj : ∀ o x y M, fj [.str (Op.w o), I x, I y] M = some (I (o.ap x y), M)) {q : Fm → Prop} (hv : SVal fv q) (f : Fm) (r : List Bool) (M : Mo) (hf : f.ok = true) (hr : r.length = 4) (hq : ∀ o a b, f = .bin o a b → q a ∧ q b) :
    fnF 2 (b_value_of fj fv) [enc f, rowD r] M = some (I (f.val r), M) := by
  cases f with
  | lt n =>
    have hn : n < 4 := by simpa [Fm.ok] using hf
    have e : (r.map I)[n]? = some (I (r.getD n false)) := by
      rw [List.getElem?_map, List.getD_eq_getElem?_getD]
      rw [List.getElem?_eq_getElem (by omega)]
      rfl
    have h := ev_at (c := .tup (r.map I)) (t := true) (M := M) rfl e
    simp [fnF, b_value_of, enc, rowD, h, Fm.val]
  | fls => simp [fnF, b_value_of, enc, rowD, Fm.val, b2i]
  | bin o a b =>
    obtain ⟨qa, qb⟩ := hq o a b rfl
    simp only [Fm.ok, Bool.and_eq_true] at hf
    have h1 := fun M => hv a r M qa hf.1 hr
    have h2 := fun M => hv b r M qb hf.2 hr
    have j := hj o (a.val r) (b.val r)
    cases o <;> simp only [Op.w] at j <;> simp [fnF, b_value_of, enc, h1, h2, j, Fm.val, Op.w]

/-! ### letters -/
def Fm.ls : Fm → List Int
  | .lt n => [n]
  | .fls => []
  | .bin _ a b => sortI (dedupI (a.ls ++ b.ls))
theorem mem_sortI {x : Int} {ns : List Int} : x ∈ sortI ns ↔ x ∈ ns := (sortBy_perm _ ns).mem_iff
theorem sortI_sorted (ns : List Int) : (sortI ns).Pairwise (fun a b => a ≤ b) := (sortBy_sorted (fun a b => by simp; omega) (fun a b c h1 h2 => by simp at h1 h2 ⊢; omega) ns).imp fun h => by simpa using h
theorem sortI_nodup {ns : List Int} (h : ns.Nodup) : (sortI ns).Nodup := (sortBy_perm _ ns).nodup_iff.mpr h
theorem sortI_strict {ns : List Int} (h : ns.Nodup) : (sortI ns).Pairwise (fun a b => a < b) := by
  have h1 := sortI_sorted ns
  have h2 := sortI_nodup h
  exact (h1.and h2).imp fun ⟨a, b⟩ => by omega
theorem Fm.ls_mem : ∀ {f : Fm} {x : Int}, f.ok = true → x ∈ f.ls → 0 ≤ x ∧ x < 4
  | .lt n, x, h, m => by
    simp [Fm.ls] at m
    simp [Fm.ok] at h
    omega
  | .fls, x, _, m => by simp [Fm.ls] at m
  | .bin _ a b, x, h, m => by
    rw [Fm.ls, mem_sortI, mem_dedupI, List.mem_append] at m
    simp only [Fm.ok, Bool.and_eq_true] at h
    exact m.elim (Fm.ls_mem h.1) (Fm.ls_mem h.2)
theorem Fm.ls_nodup : ∀ f : Fm, f.ls.Nodup
  | .lt n => by simp [Fm.ls]
  | .fls => by simp [Fm.ls]
  | .bin _ a b => by rw [Fm.ls]; exact sortI_nodup (dedupI_nodup _)
theorem Fm.ls_sorted : ∀ f : Fm, f.ls.Pairwise (fun a b => a < b)
  | .lt n => by simp [Fm.ls]
  | .fls => by simp [Fm.ls]
  | .bin _ a b => by rw [Fm.ls]; exact sortI_strict (dedupI_nodup _)
theorem Fm.ls_len {f : Fm} (h : f.ok = true) : f.ls.length ≤ 4 := by
  have e := L2.nat_nodup_len (f.ls.map Int.toNat) [0, 1, 2, 3] (by
    refine List.pairwise_map.mpr ((Fm.ls_nodup f).imp_of_mem fun {a b} ha hb hne e => ?_)
    have h1 := Fm.ls_mem h ha
    have h2 := Fm.ls_mem h hb
    omega) fun x hx => by
    obtain ⟨y, hy, rfl⟩ := List.mem_map.mp hx
    have := Fm.ls_mem h hy
    have : y = 0 ∨ y = 1 ∨ y = 2 ∨ y = 3 := by omega
    rcases this with rfl | rfl | rfl | rfl <;> simp
  simpa using e
@[simp] theorem intsOf_map (ns : List Int) : intsOf (ns.map D.int) = some ns := by
  induction ns with
  | nil => rfl
  | cons n ns ih => simp [intsOf, ih]
theorem ev_sortset_int {ns : List Int} {M : Mo} (h : ns.length < 64) : sortSetF [.lst (ns.map D.int)] M = some (.lst ((sortI (dedupI ns)).map D.int), M) := by
  show (if (ns.map D.int).length < 64 then _ else _) = _
  rw [List.length_map, if_pos h, intsOf_map]
def SLet (fl : F1) (q : Fm → Prop) : Prop := ∀ f M, q f → f.ok = true → fl [enc f] M = some (.lst (f.ls.map D.int), M)
theorem ev_letters {fl : F1} {q : Fm → Prop} (hl : SLet fl q) (f : Fm) (M : Mo) (hf : f.ok = true) (hq : ∀ o a b, f = .bin o a b → q a ∧ q b) : fnF 1 (b_letters_in fl) [enc f] M = some (.lst (f.ls.map D.int), M) := by
  cases f with
  | lt n => simp [fnF, b_letters_in, enc, Fm.ls]
  | fls => simp [fnF, b_letters_in, enc, Fm.ls]
  | bin o a b =>
    obtain ⟨qa, qb⟩ := hq o a b rfl
    simp only [Fm.ok, Bool.and_eq_true] at hf
    have h1 := fun M => hl a M qa hf.1
    have h2 := fun M => hl b M qb hf.2
    have l1 := Fm.ls_len hf.1
    have l2 := Fm.ls_len hf.2
    have hs := ev_sortset_int (ns := a.ls ++ b.ls) (M := M) (by rw [List.length_append]; omega)
    rw [List.map_append] at hs
    have hc : a.ls.length + b.ls.length ≤ 16777216 := by omega
    cases o <;> simp [fnF, b_letters_in, enc, h1, h2, Fm.ls, Op.w, hs, hc]

/-! ### rows -/
def sub4 (a b c d : Bool) : List Int := (if a then [0] else []) ++ (if b then [1] else []) ++ (if c then [2] else []) ++ (if d then [3] else [])
theorem ls_sub4 {f : Fm} (h : f.ok = true) : f.ls = sub4 (decide ((0 : Int) ∈ f.ls)) (decide ((1 : Int) ∈ f.ls)) (decide ((2 : Int) ∈ f.ls)) (decide ((3 : Int) ∈ f.ls)) := by
  have hs := Fm.ls_sorted f
  have hm : ∀ x ∈ f.ls, 0 ≤ x ∧ x < 4 := fun x hx => Fm.ls_mem h hx
  generalize f.ls = l at hs hm ⊢
  have s4 : (sub4 (decide ((0 : Int) ∈ l)) (decide ((1 : Int) ∈ l)) (decide ((2 : Int) ∈ l)) (decide ((3 : Int) ∈ l))).Pairwise (fun a b => a < b) := by
    generalize decide ((0 : Int) ∈ l) = a, decide ((1 : Int) ∈ l) = b, decide ((2 : Int) ∈ l) = c, decide ((3 : Int) ∈ l) = d
    revert a b c d
    decide
  have mem : ∀ x, x ∈ sub4 (decide ((0 : Int) ∈ l)) (decide ((1 : Int) ∈ l)) (decide ((2 : Int) ∈ l)) (decide ((3 : Int) ∈ l)) ↔ x ∈ l := by
    intro x
    unfold sub4
    constructor
    · intro hx
      simp only [List.mem_append] at hx
      rcases hx with ((hx | hx) | hx) | hx <;> (split at hx <;> simp at hx; subst hx; simp_all)
    · intro hx
      obtain ⟨h1, h2⟩ := hm x hx
      have : x = 0 ∨ x = 1 ∨ x = 2 ∨ x = 3 := by omega
      rcases this with rfl | rfl | rfl | rfl <;> simp [hx]
  have n1 : l.Nodup := hs.imp fun h e => by omega
  have n2 := s4.imp (S := fun a b => a ≠ b) fun h e => by omega
  exact ((List.perm_ext_iff_of_nodup n1 n2).mpr fun x => (mem x).symm).eq_of_pairwise (fun a b _ _ h1 h2 => by omega) hs s4
def bits (n : Nat) : List Bool := [n / 8 % 2 == 1, n / 4 % 2 == 1, n / 2 % 2 == 1, n % 2 == 1]
def allRows : List (List Bool) := (List.range 16).map bits
/-- the rows that are 1 at the letters ls alone -/
def rowsOf (ls : List Int) : List (List Bool) := allRows.filter fun r => (List.range 4).all fun k => !r.getD k false || decide ((k : Int) ∈ ls)
theorem ev_rows_body (a b c d : Bool) (M : Mo) : b_rows_of [some (.lst ((sub4 a b c d).map D.int)), none, none, none] M = some (.rt (.lst ((rowsOf (sub4 a b c d)).map rowD)) M) := by
  cases a <;> cases b <;> cases c <;> cases d <;> kernel_rfl
theorem ev_rows {f : Fm} (h : f.ok = true) (M : Mo) : fnF 4 b_rows_of [.lst (f.ls.map D.int)] M = some (.lst ((rowsOf f.ls).map rowD), M) := by
  have e := ev_rows_body (decide ((0 : Int) ∈ f.ls)) (decide ((1 : Int) ∈ f.ls)) (decide ((2 : Int) ∈ f.ls)) (decide ((3 : Int) ∈ f.ls)) M
  rw [← ls_sub4 h] at e
  simp [fnF, e]

theorem rows_len {ls : List Int} {r : List Bool} (h : r ∈ rowsOf ls) : r.length = 4 := by
  obtain ⟨n, _, rfl⟩ := List.mem_map.mp (List.mem_filter.mp h).1
  rfl
def againstF (f : Fm) : Option (List Bool) := (rowsOf f.ls).find? fun r => !f.val r
theorem ev_against {fl fr fv : F1} {f : Fm} {M : Mo} (hl : fl [enc f] M = some (.lst (f.ls.map D.int), M)) (hr : fr [.lst (f.ls.map D.int)] M = some (.lst ((rowsOf f.ls).map rowD), M)) (hv : ∀ r, r.length = 4 → fv [enc f, rowD r] M = some (I (f.val r), M)) :
    fnF 2 (b_against_formulas fl fr fv) [enc f] M = some (match againstF f with | some r => rowD r | none => .non, M) := by
  obtain ⟨h1, h2⟩ := for_find (g := gName 1) (body := sIf (tru (mBin eqF (mCallN 2 fv (mCons (mVar 0) (mCons (mVar 1) mNil))) (mC (.int 0)))) (sRet (mVar 1)) sNext) (ei := rowD) (p := fun r => !f.val r) (res := rowD) (R := fun lo => ∃ x, lo = [some (enc f), x]) (M := M) (rowsOf f.ls) [some (enc f), none]
    (fun r hr lo ⟨x, hlo⟩ => by
      subst hlo
      have := hv r (rows_len hr)
      cases hx : f.val r <;> simp [this, hx, b2i]) ⟨none, rfl⟩
  unfold againstF
  cases hf : (rowsOf f.ls).find? (fun r => !f.val r) with
  | some r => simp [fnF, b_against_formulas, hl, hr, h1 r hf]
  | none =>
    obtain ⟨lo', e, _⟩ := h2 hf
    simp [fnF, b_against_formulas, hl, hr, e]
/-- true in all rows -/
def taut (f : Fm) : Bool := allRows.all f.val
def keepIn (ls : List Int) (r : List Bool) : List Bool := [r.getD 0 false && decide ((0 : Int) ∈ ls), r.getD 1 false && decide ((1 : Int) ∈ ls), r.getD 2 false && decide ((2 : Int) ∈ ls), r.getD 3 false && decide ((3 : Int) ∈ ls)]
theorem keepIn_mem (ls : List Int) (r : List Bool) : keepIn ls r ∈ rowsOf ls := by
  unfold rowsOf keepIn
  rw [List.mem_filter]
  constructor
  · generalize (r.getD 0 false && decide ((0 : Int) ∈ ls)) = a, (r.getD 1 false && decide ((1 : Int) ∈ ls)) = b, (r.getD 2 false && decide ((2 : Int) ∈ ls)) = c, (r.getD 3 false && decide ((3 : Int) ∈ ls)) = d
    revert a b c d
    decide
  · simp [List.all_eq_true, List.range_succ]
    exact ⟨by by_cases h : (0 : Int) ∈ ls <;> simp [h], by by_cases h : (1 : Int) ∈ ls <;> simp [h], by by_cases h : (2 : Int) ∈ ls <;> simp [h], by by_cases h : (3 : Int) ∈ ls <;> simp [h]⟩
/-- a formula looks at its letters alone -/
theorem val_letters : ∀ (f : Fm) (r r' : List Bool), f.ok = true → (∀ k : Nat, (k : Int) ∈ f.ls → r.getD k false = r'.getD k false) → f.val r = f.val r'
  | .lt n, r, r', _, h => h n (by simp [Fm.ls])
  | .fls, _, _, _, _ => rfl
  | .bin o a b, r, r', hf, h => by
    simp only [Fm.ok, Bool.and_eq_true] at hf
    have m : ∀ k : Nat, (k : Int) ∈ a.ls ∨ (k : Int) ∈ b.ls → r.getD k false = r'.getD k false := fun k hk => h k (by rw [Fm.ls, mem_sortI, mem_dedupI, List.mem_append]; exact hk)
    rw [Fm.val, Fm.val, val_letters a r r' hf.1 fun k hk => m k (.inl hk), val_letters b r r' hf.2 fun k hk => m k (.inr hk)]
theorem val_keepIn {f : Fm} (hf : f.ok = true) (r : List Bool) : f.val (keepIn f.ls r) = f.val r := by
  refine val_letters f _ _ hf fun k hk => ?_
  obtain ⟨_, h4⟩ := Fm.ls_mem hf hk
  have : k = 0 ∨ k = 1 ∨ k = 2 ∨ k = 3 := by omega
  rcases this with rfl | rfl | rfl | rfl <;> simp [keepIn] <;> intro _ <;> exact_mod_cast hk
theorem mem_allRows {r : List Bool} (h : r.length = 4) : r ∈ allRows := by
  match r, h with
  | [a, b, c, d], _ =>
    revert a b c d
    decide
theorem allRows_len {r : List Bool} (h : r ∈ allRows) : r.length = 4 := by
  obtain ⟨n, _, rfl⟩ := List.mem_map.mp h
  rfl
theorem against_none {f : Fm} (hf : f.ok = true) : againstF f = none ↔ taut f = true := by
  unfold againstF taut
  rw [List.find?_eq_none, List.all_eq_true]
  constructor
  · intro h r hr
    have := h _ (keepIn_mem f.ls r)
    rw [val_keepIn hf] at this
    simpa using this
  · intro h r hr
    have := h r (List.mem_filter.mp hr).1
    simp [this]
theorem ev_theorem {fa : F1} {f : Fm} {M : Mo} (hf : f.ok = true) (h : fa [enc f] M = some (match againstF f with | some r => rowD r | none => .non, M)) : fnF 1 (b_is_theorem fa) [enc f] M = some (.bl (taut f), M) := by
  have e := against_none hf
  cases ha : againstF f with
  | none =>
    rw [ha] at h
    have t : taut f = true := e.mp ha
    simp [fnF, b_is_theorem, h, t]
  | some r =>
    rw [ha] at h
    have t : taut f = false := by
      cases ht : taut f with
      | false => rfl
      | true => rw [e.mpr ht] at ha; cases ha
    simp [fnF, b_is_theorem, h, t, rowD]
end Law

set_option Elab.async false
set_option linter.all false
set_option maxRecDepth 100000
/-! Sequents: what sequents.py computes. -/
namespace Law
open PySem PySem.Spec G

/-! ### sides: sets of formulas, in order -/
theorem enc_plain : ∀ f : Fm, (enc f).plain = true
  | .lt _ => rfl
  | .fls => rfl
  | .bin o a b => by simp [enc, D.plain, D.plains, enc_plain a, enc_plain b]
theorem enc_nk_dep : ∀ f : Fm, (enc f).nk.depth = f.dp
  | .lt _ => rfl
  | .fls => rfl
  | .bin o a b => by simp [enc, D.nk, D.nks, NestedKey.depth, NestedKey.depthAll, Fm.dp, enc_nk_dep a, enc_nk_dep b]
theorem beq_nk (f g : Fm) : NestedKey.beq (enc f).nk (enc g).nk = decide (f = g) := by
  rw [← NestedKey.decide_eq]
  refine decide_eq_decide.mpr ⟨fun h => ?_, fun h => by rw [h]⟩
  exact (enc_inj f g).mp (D.nk_inj _ _ (enc_plain f) (enc_plain g) h)
theorem kcomp_first {a b : Str} (h : a ≠ b) (xs ys : List NestedKey) : kcomp (.tup (.text a :: xs)) (.tup (.text b :: ys)) = true := by
  rw [kcomp, kcompAll]
  have e : NestedKey.beq (.text a) (.text b) = false := by simp [NestedKey.beq, h]
  rw [e]
  simp [kcomp]
theorem Op.w_ne (o : Op) : ("letter" : Str) ≠ o.w ∧ ("false" : Str) ≠ o.w ∧ o.w ≠ ("letter" : Str) ∧ o.w ≠ ("false" : Str) := by
  cases o <;> simp [Op.w]
theorem kcomp_enc : ∀ f g : Fm, kcomp (enc f).nk (enc g).nk = true
  | .lt n, .lt m => by
    simp only [enc, D.nk, D.nks, kcomp, kcompAll, NestedKey.beq_self, if_true]
    split <;> rfl
  | .fls, .fls => by simp [enc, D.nk, D.nks, kcomp, kcompAll, NestedKey.beq_self]
  | .bin o a b, .bin p c d => by
    have h1 := kcomp_enc a c
    have h2 := kcomp_enc b d
    simp only [enc, D.nk, D.nks, kcomp, kcompAll]
    split
    · split
      · split
        · rfl
        · exact h2
      · exact h1
    · rfl
  | .lt _, .fls => kcomp_first (by simp) _ _
  | .fls, .lt _ => kcomp_first (by simp) _ _
  | .lt _, .bin o _ _ => kcomp_first (Op.w_ne o).1 _ _
  | .fls, .bin o _ _ => kcomp_first (Op.w_ne o).2.1 _ _
  | .bin o _ _, .lt _ => kcomp_first (Op.w_ne o).2.2.1 _ _
  | .bin o _ _, .fls => kcomp_first (Op.w_ne o).2.2.2 _ _
def fle (a b : Fm) : Bool := leD (enc a) (enc b)
def dedupF : List Fm → List Fm
  | [] => []
  | f :: fs => if (fs.any fun g => decide (f = g)) = true then dedupF fs else f :: dedupF fs
def canon (fs : List Fm) : List Fm := sortBy fle (dedupF fs)
theorem insBy_map {α β : Type} (e : α → β) (le : β → β → Bool) (x : α) : ∀ l : List α, insBy le (e x) (l.map e) = (insBy (fun a b => le (e a) (e b)) x l).map e
  | [] => rfl
  | y :: ys => by
    rw [List.map_cons, insBy, insBy]
    split
    · rfl
    · rw [List.map_cons, insBy_map e le x ys]
theorem sortBy_map {α β : Type} (e : α → β) (le : β → β → Bool) : ∀ l : List α, sortBy le (l.map e) = (sortBy (fun a b => le (e a) (e b)) l).map e
  | [] => rfl
  | x :: xs => by rw [List.map_cons, sortBy, sortBy, sortBy_map e le xs, insBy_map]
theorem dedup_map : ∀ fs : List Fm, dedupD (fs.map enc) = (dedupF fs).map enc
  | [] => rfl
  | f :: fs => by
    have e : ((fs.map enc).any fun g => NestedKey.beq (enc f).nk g.nk) = fs.any fun g => decide (f = g) := by
      rw [List.any_map]
      congr 1
      funext g
      exact beq_nk f g
    rw [List.map_cons, dedupD, dedupF, e, dedup_map fs]
    split
    · rfl
    · rfl
theorem canon_map (fs : List Fm) : sortD (dedupD (fs.map enc)) = (canon fs).map enc := by
  rw [dedup_map, sortD, sortBy_map]
  rfl
theorem mem_dedupF {f : Fm} : ∀ {fs : List Fm}, f ∈ dedupF fs ↔ f ∈ fs
  | [] => Iff.rfl
  | g :: fs => by
    have ih := mem_dedupF (f := f) (fs := fs)
    rw [dedupF, List.mem_cons]
    split
    · rename_i h
      obtain ⟨x, hx, e⟩ := List.any_eq_true.mp h
      rw [ih]
      refine ⟨.inr, fun h => h.elim (fun z => ?_) id⟩
      rw [z, of_decide_eq_true e]
      exact hx
    · rw [List.mem_cons, ih]
theorem dedupF_nodup : ∀ fs : List Fm, (dedupF fs).Nodup
  | [] => List.nodup_nil
  | f :: fs => by
    rw [dedupF]
    split
    · exact dedupF_nodup fs
    · rename_i h
      exact List.nodup_cons.mpr ⟨fun m => h (List.any_eq_true.mpr ⟨f, mem_dedupF.mp m, by simp⟩), dedupF_nodup fs⟩
theorem mem_canon {f : Fm} {fs : List Fm} : f ∈ canon fs ↔ f ∈ fs := (sortBy_perm _ _).mem_iff.trans mem_dedupF
theorem canon_nodup (fs : List Fm) : (canon fs).Nodup := (sortBy_perm _ _).nodup_iff.mpr (dedupF_nodup fs)
theorem canon_sorted (fs : List Fm) : (canon fs).Pairwise (fun a b => fle a b = true) := sortBy_sorted (le := fle) (fun a b => leD_total (enc a) (enc b)) (fun a b c h1 h2 => leD_trans (enc a) (enc b) (enc c) h1 h2) _
theorem fle_antisymm {a b : Fm} (h1 : fle a b = true) (h2 : fle b a = true) : a = b := (enc_inj a b).mp (leD_antisymm (enc_plain a) (enc_plain b) h1 h2)
/-- in order, each once -/
def IsCanon (s : List Fm) : Prop := s.Nodup ∧ s.Pairwise (fun a b => fle a b = true)
theorem IsCanon.ext {s t : List Fm} (hs : IsCanon s) (ht : IsCanon t) (h : ∀ f, f ∈ s ↔ f ∈ t) : s = t :=
  ((List.perm_ext_iff_of_nodup hs.1 ht.1).mpr h).eq_of_pairwise (fun a b _ _ h1 h2 => fle_antisymm h1 h2) hs.2 ht.2
theorem canon_is (fs : List Fm) : IsCanon (canon fs) := ⟨canon_nodup fs, canon_sorted fs⟩
def wOne (s : List Fm) (f : Fm) : List Fm := canon (s ++ [f])
theorem mem_wOne {s : List Fm} {f g : Fm} : g ∈ wOne s f ↔ g ∈ s ∨ g = f := by
  unfold wOne
  rw [mem_canon, List.mem_append, List.mem_singleton]
theorem wOne_is (s : List Fm) (f : Fm) : IsCanon (wOne s f) := canon_is _
/-- short, and not deep -/
structure Small (s : List Fm) : Prop where
  len : s.length < 63
  dp : ∀ f ∈ s, f.dp ≤ 8
theorem tupsOk_enc {fs : List Fm} (h : ∀ f ∈ fs, f.dp ≤ 8) : tupsOk (fs.map enc) = true := by
  unfold tupsOk
  rw [Bool.and_eq_true, List.all_eq_true, List.all_eq_true]
  refine ⟨fun d hd => ?_, fun d hd => List.all_eq_true.mpr fun e he => ?_⟩
  · obtain ⟨f, hf, rfl⟩ := List.mem_map.mp hd
    have t : isTup (enc f) = true := by cases f <;> rfl
    simp [t, enc_plain, enc_nk_dep, h f hf]
  · obtain ⟨f, hf, rfl⟩ := List.mem_map.mp hd
    obtain ⟨g, hg, rfl⟩ := List.mem_map.mp he
    exact kcomp_enc f g
theorem intsOf_enc (f : Fm) (ds : List D) : intsOf (enc f :: ds) = none := by cases f <;> rfl
theorem ev_sortset_enc {fs : List Fm} {c : D} {t : Bool} {M : Mo} (hc : seqOf M c = some (t, fs.map enc)) (hn : fs ≠ []) (h1 : fs.length < 64) (h2 : ∀ f ∈ fs, f.dp ≤ 8) : sortSetF [c] M = some (.lst ((canon fs).map enc), M) := by
  unfold sortSetF
  simp only [hc, List.length_map, h1, if_true]
  cases fs with
  | nil => exact absurd rfl hn
  | cons f fs =>
    rw [show intsOf ((f :: fs).map enc) = none from intsOf_enc f _]
    simp only [tupsOk_enc h2, if_true, canon_map]
theorem ev_with_one {s : List Fm} {f : Fm} {M : Mo} (hs : Small s) (hf : f.dp ≤ 8) : fnF 2 b_with_one [.tup (s.map enc), enc f] M = some (.tup ((wOne s f).map enc), M) := by
  have e := ev_sortset_enc (c := .tup (s.map enc ++ [enc f])) (t := true) (fs := s ++ [f]) (M := M) (by rw [List.map_append]; rfl) (by simp) (by have := hs.len; simp; omega) (fun g hg => by
    rcases List.mem_append.mp hg with h | h
    · exact hs.dp g h
    · rw [List.mem_singleton.mp h]; exact hf)
  have l : s.length + 1 ≤ 16777216 := by have := hs.len; omega
  simp [fnF, b_with_one, e, l, wOne]
end Law

set_option Elab.async false
set_option linter.all false
set_option maxRecDepth 100000
/-! Sequents: premises, the step, the search. -/
namespace Law
open PySem PySem.Spec G

theorem dedupF_len : ∀ fs : List Fm, (dedupF fs).length ≤ fs.length
  | [] => Nat.le_refl _
  | f :: fs => by
    rw [dedupF]
    split
    · exact Nat.le_succ_of_le (dedupF_len fs)
    · exact Nat.succ_le_succ (dedupF_len fs)
theorem canon_len (fs : List Fm) : (canon fs).length ≤ fs.length := by
  unfold canon
  rw [(sortBy_perm _ _).length_eq]
  exact dedupF_len fs
theorem wOne_len (s : List Fm) (f : Fm) : (wOne s f).length ≤ s.length + 1 := by
  have := canon_len (s ++ [f])
  simpa [wOne] using this
theorem small_wOne {s : List Fm} {f : Fm} (h : s.length < 62) (hd : ∀ g ∈ s, g.dp ≤ 8) (hf : f.dp ≤ 8) : Small (wOne s f) :=
  ⟨by have := wOne_len s f; omega, fun g hg => (mem_wOne.mp hg).elim (hd g) fun e => by rw [e]; exact hf⟩
/-- the words of the rules; true: left -/
def Op.wd : Op → Bool → String
  | .imp, true => "ifleft"
  | .imp, false => "ifright"
  | .and, true => "andleft"
  | .and, false => "andright"
  | .or, true => "orleft"
  | .or, false => "orright"
def sw : Bool → String
  | true => "left"
  | false => "right"
/-- what a rule adds, premise by premise -/
def adds : Op → Bool → Fm → Fm → List (List Fm × List Fm)
  | .and, true, a, b => [([a, b], [])]
  | .or, true, a, b => [([a], []), ([b], [])]
  | .imp, true, a, b => [([], [a]), ([b], [])]
  | .and, false, a, b => [([], [a]), ([], [b])]
  | .or, false, a, b => [([], [a, b])]
  | .imp, false, a, b => [([a], [b])]
abbrev Sq := List Fm × List Fm
def addAll (s fs : List Fm) : List Fm := fs.foldl wOne s
def prem (o : Op) (l : Bool) (a b : Fm) (s : Sq) : List Sq := (adds o l a b).map fun p => (addAll s.1 p.1, addAll s.2 p.2)
def seqD (s : Sq) : D := .tup [.tup (s.1.map enc), .tup (s.2.map enc)]
theorem dats_enc : ∀ fs : List Fm, D.dats (fs.map enc) = true
  | [] => rfl
  | f :: fs => by rw [List.map_cons, D.dats, enc_dat, dats_enc fs]; rfl
theorem deps_enc {n : Nat} : ∀ {fs : List Fm}, (∀ f ∈ fs, f.dp ≤ n) → D.deps (fs.map enc) ≤ n
  | [], _ => Nat.zero_le _
  | f :: fs, h => by
    rw [List.map_cons, D.deps, enc_dep]
    have h1 := h f List.mem_cons_self
    have h2 := deps_enc fun g hg => h g (List.mem_cons_of_mem f hg)
    omega
theorem mem_enc {f : Fm} {fs : List Fm} : enc f ∈ fs.map enc ↔ f ∈ fs := by
  rw [List.mem_map]
  exact ⟨fun ⟨g, hg, e⟩ => by rw [← (enc_inj g f).mp e]; exact hg, fun h => ⟨f, h, rfl⟩⟩
theorem ev_in_enc {f : Fm} {fs : List Fm} {M : Mo} (hf : f.dp ≤ 60) (h : ∀ g ∈ fs, g.dp ≤ 60) : inF [enc f, .tup (fs.map enc)] M = some (.bl (decide (f ∈ fs)), M) := by
  rw [ev_inT (enc_dat f) (dats_enc fs) (by rw [enc_dep]; omega) (by have := deps_enc h; omega)]
  simp only [mem_enc]
theorem ev_nin_enc {f : Fm} {fs : List Fm} {M : Mo} (hf : f.dp ≤ 60) (h : ∀ g ∈ fs, g.dp ≤ 60) : ninF [enc f, .tup (fs.map enc)] M = some (.bl (!decide (f ∈ fs)), M) := by
  rw [ev_ninT (enc_dat f) (dats_enc fs) (by rw [enc_dep]; omega) (by have := deps_enc h; omega)]
  simp only [mem_enc]
@[simp] theorem g_FALSE_e : g_FALSE = enc .fls := rfl
theorem g_TRUE_e : g_TRUE = enc (.bin .imp .fls .fls) := rfl
@[simp] theorem at_bin0 (o : Op) (a b : Fm) (M : Mo) : atF [enc (.bin o a b), .int 0] M = some (.str o.w, M) := ev_at0 _ _ _
@[simp] theorem at_bin1 (o : Op) (a b : Fm) (M : Mo) : atF [enc (.bin o a b), .int 1] M = some (enc a, M) := ev_at1 _ _ _ _
@[simp] theorem at_bin2 (o : Op) (a b : Fm) (M : Mo) : atF [enc (.bin o a b), .int 2] M = some (enc b, M) := ev_at2 _ _ _ _ _
theorem ev_in_pairs (a : String) (M : Mo) : inF [.str (Str.ofString a), g_PAIRS] M = some (.bl (decide (a = "if" ∨ a = "and" ∨ a = "or")), M) := by
  unfold g_PAIRS
  rw [ev_inT (by simp [D.dat]) (by simp [D.dats, D.dat]) (by simp [D.dep]) (by simp [D.deps, D.dep])]
  simp
theorem ev_nin_pairs (a : String) (M : Mo) : ninF [.str (Str.ofString a), g_PAIRS] M = some (.bl (!decide (a = "if" ∨ a = "and" ∨ a = "or")), M) := by
  unfold g_PAIRS
  rw [ev_ninT (by simp [D.dat]) (by simp [D.dats, D.dat]) (by simp [D.dep]) (by simp [D.deps, D.dep])]
  simp
theorem ev_nin_two (a b c : String) (M : Mo) : ninF [.str (Str.ofString a), .tup [.str (Str.ofString b), .str (Str.ofString c)]] M = some (.bl (!decide (a = b ∨ a = c)), M) := by
  rw [ev_ninT (by simp [D.dat]) (by simp [D.dats, D.dat]) (by simp [D.dep]) (by simp [D.deps, D.dep])]
  simp
theorem ends_words : Txt.endswith ("andleft" : Str) ("left" : Str) = true ∧ Txt.endswith ("orleft" : Str) ("left" : Str) = true ∧ Txt.endswith ("ifleft" : Str) ("left" : Str) = true ∧
    Txt.endswith ("andright" : Str) ("left" : Str) = false ∧ Txt.endswith ("orright" : Str) ("left" : Str) = false ∧ Txt.endswith ("ifright" : Str) ("left" : Str) = false := by decide +kernel
@[simp] theorem len_if : "if".length = 2 := rfl
@[simp] theorem len_and : "and".length = 3 := rfl
@[simp] theorem len_or : "or".length = 2 := rfl
@[simp] theorem len_left : "left".length = 4 := rfl
@[simp] theorem len_right : "right".length = 5 := rfl
/-- fw adds to sides -/
def SWith (fw : F1) : Prop := ∀ s f M, Small s → f.dp ≤ 8 → fw [.tup (s.map enc), enc f] M = some (.tup ((wOne s f).map enc), M)
/-- a sequent of short sides -/
structure SmallS (s : Sq) : Prop where
  l : s.1.length < 60
  r : s.2.length < 60
  dl : ∀ f ∈ s.1, f.dp ≤ 8
  dr : ∀ f ∈ s.2, f.dp ≤ 8
theorem ev_premises {fw : F1} (hw : SWith fw) (s : Sq) (o : Op) (l : Bool) (a b : Fm) (M : Mo) (hs : SmallS s) (hm : Fm.bin o a b ∈ (if l then s.1 else s.2)) :
    fnF 8 (b_premises fw) [seqD s, .tup [.str (Str.ofString (o.wd l)), enc (.bin o a b)]] M = some (.lst ((prem o l a b s).map seqD), M) := by
  obtain ⟨L, R⟩ := s
  obtain ⟨h1, h2, h3, h4⟩ := hs
  simp only at h1 h2 h3 h4 hm
  have hd : (Fm.bin o a b).dp ≤ 8 := by
    cases l
    · exact h4 _ hm
    · exact h3 _ hm
  have ha : a.dp ≤ 8 := by rw [Fm.dp] at hd; omega
  have hb : b.dp ≤ 8 := by rw [Fm.dp] at hd; omega
  have sL : Small L := ⟨by omega, h3⟩
  have sR : Small R := ⟨by omega, h4⟩
  have wl1 := fun f hf M => hw L f M sL hf
  have wr1 := fun f hf M => hw R f M sR hf
  have wl2 := hw (wOne L a) b
  have wr2 := hw (wOne R a) b
  have sla : Small (wOne L a) := small_wOne (by omega) h3 ha
  have sra : Small (wOne R a) := small_wOne (by omega) h4 ha
  have iL := fun M => ev_nin_enc (f := .bin o a b) (fs := L) (M := M) (by omega) (fun g hg => by have := h3 g hg; omega)
  have iR := fun M => ev_nin_enc (f := .bin o a b) (fs := R) (M := M) (by omega) (fun g hg => by have := h4 g hg; omega)
  obtain ⟨e1, e2, e3, e4, e5, e6⟩ := ends_words
  cases o <;> cases l <;> simp only [if_true, Bool.false_eq_true, if_false] at hm <;>
    simp [fnF, b_premises, seqD, Op.wd, Op.w, prem, adds, addAll, ev_nin_pairs, ev_nin_two, iL, iR, hm, e1, e2, e3, e4, e5, e6, wl1, wr1, wl2, wr2, ha, hb, sla, sra]

/-! ### the step -/
theorem map_enc_inj : ∀ fs gs : List Fm, fs.map enc = gs.map enc ↔ fs = gs
  | [], [] => by simp
  | [], _ :: _ | _ :: _, [] => by simp
  | f :: fs, g :: gs => by simp [map_enc_inj fs gs]
theorem seqD_inj (s t : Sq) : seqD s = seqD t ↔ s = t := by
  obtain ⟨a, b⟩ := s
  obtain ⟨c, d⟩ := t
  simp [seqD, map_enc_inj]
theorem mem_seqD {s : Sq} {ts : List Sq} : seqD s ∈ ts.map seqD ↔ s ∈ ts := by
  rw [List.mem_map]
  exact ⟨fun ⟨g, hg, e⟩ => by rw [← (seqD_inj g s).mp e]; exact hg, fun h => ⟨s, h, rfl⟩⟩
def Flat (s : Sq) : Prop := (∀ f ∈ s.1, f.dp ≤ 8) ∧ ∀ f ∈ s.2, f.dp ≤ 8
theorem seqD_dat (s : Sq) : (seqD s).dat = true := by simp [seqD, D.dat, D.dats, dats_enc]
theorem seqD_dep {s : Sq} (h : Flat s) : (seqD s).dep ≤ 10 := by
  have h1 := deps_enc h.1
  have h2 := deps_enc h.2
  simp only [seqD, D.dep, D.deps]
  omega
theorem seqDs_dat : ∀ ts : List Sq, D.dats (ts.map seqD) = true
  | [] => rfl
  | t :: ts => by rw [List.map_cons, D.dats, seqD_dat, seqDs_dat ts]; rfl
theorem seqDs_dep : ∀ {ts : List Sq}, (∀ t ∈ ts, Flat t) → D.deps (ts.map seqD) ≤ 10
  | [], _ => Nat.zero_le _
  | t :: ts, h => by
    have h1 := seqD_dep (h t List.mem_cons_self)
    have h2 := seqDs_dep fun u hu => h u (List.mem_cons_of_mem t hu)
    rw [List.map_cons, D.deps]
    omega
theorem mem_addAll {g : Fm} : ∀ {fs : List Fm} {s : List Fm}, g ∈ addAll s fs ↔ g ∈ s ∨ g ∈ fs
  | [], s => by simp [addAll]
  | f :: fs, s => by
    show g ∈ addAll (wOne s f) fs ↔ _
    rw [mem_addAll, mem_wOne, List.mem_cons]
    constructor
    · rintro ((h | h) | h)
      · exact .inl h
      · exact .inr (.inl h)
      · exact .inr (.inr h)
    · rintro (h | h | h)
      · exact .inl (.inl h)
      · exact .inl (.inr h)
      · exact .inr h
theorem adds_sub {o : Op} {l : Bool} {a b : Fm} {p : List Fm × List Fm} (h : p ∈ adds o l a b) : (∀ x ∈ p.1, x = a ∨ x = b) ∧ ∀ x ∈ p.2, x = a ∨ x = b := by
  cases o <;> cases l <;> simp [adds] at h <;> rcases h with h | h <;> (try subst h) <;> simp_all
theorem prem_flat {o : Op} {l : Bool} {a b : Fm} {s : Sq} (h : Flat s) (hd : (Fm.bin o a b).dp ≤ 9) : ∀ t ∈ prem o l a b s, Flat t := by
  intro t ht
  obtain ⟨p, hp, rfl⟩ := List.mem_map.mp ht
  obtain ⟨q1, q2⟩ := adds_sub hp
  rw [Fm.dp] at hd
  refine ⟨fun f hf => ?_, fun f hf => ?_⟩
  · rcases mem_addAll.mp hf with z | z
    · exact h.1 f z
    · rcases q1 f z with e | e <;> rw [e] <;> omega
  · rcases mem_addAll.mp hf with z | z
    · exact h.2 f z
    · rcases q2 f z with e | e <;> rw [e] <;> omega
/-- the rule at this formula leads on -/
def leads (l : Bool) (s : Sq) : Fm → Bool
  | .bin o a b => !decide (s ∈ prem o l a b s)
  | _ => false
def stepD (l : Bool) : Fm → D
  | .bin o a b => .tup [.str (Str.ofString (o.wd l)), enc (.bin o a b)]
  | f => .tup [.non, enc f]
@[simp] theorem at_lt0 (n : Nat) (M : Mo) : atF [enc (.lt n), .int 0] M = some (.str "letter", M) := ev_at0 _ _ _
@[simp] theorem at_fls0 (M : Mo) : atF [enc .fls, .int 0] M = some (.str "false", M) := ev_at0 _ _ _
@[simp] theorem len_letter : "letter".length = 6 := rfl
@[simp] theorem len_false : "false".length = 5 := rfl
def side (l : Bool) (s : Sq) : List Fm := if l then s.1 else s.2
/-- fp gives the premises of s -/
def SPrem (fp : F1) (s : Sq) : Prop := ∀ o l a b M, Fm.bin o a b ∈ side l s → fp [seqD s, .tup [.str (Str.ofString (Op.wd o l)), enc (.bin o a b)]] M = some (.lst ((prem o l a b s).map seqD), M)
theorem side_flat {s : Sq} (h : Flat s) {l : Bool} {f : Fm} (m : f ∈ side l s) : f.dp ≤ 8 := by
  cases l
  · exact h.2 f m
  · exact h.1 f m
theorem ev_inner {fp : F1} {s : Sq} (hp : SPrem fp s) (hs : Flat s) (l : Bool) (M : Mo) (x y : Option D) :
    (∀ f, (side l s).find? (leads l s) = some f → forLoop (gName 3) (sSeq (sSet (mTup (mCons (mBin addF (mBin atF (mVar 3) (mC (.int 0))) (mVar 1)) (mCons (mVar 3) mNil))) (gName 4)) (sIf (tAndM (tru (mBin inF (mBin atF (mVar 3) (mC (.int 0))) (mC g_PAIRS))) (tru (mBin ninF (mVar 0) (mCallN 2 fp (mCons (mVar 0) (mCons (mVar 4) mNil)))))) (sRet (mVar 4)) sNext))
      ((side l s).map enc) [some (seqD s), some (.str (Str.ofString (sw l))), some (.tup ((side l s).map enc)), x, y] M = some (.rt (stepD l f) M)) ∧
    ((side l s).find? (leads l s) = none → ∃ x' y', forLoop (gName 3) (sSeq (sSet (mTup (mCons (mBin addF (mBin atF (mVar 3) (mC (.int 0))) (mVar 1)) (mCons (mVar 3) mNil))) (gName 4)) (sIf (tAndM (tru (mBin inF (mBin atF (mVar 3) (mC (.int 0))) (mC g_PAIRS))) (tru (mBin ninF (mVar 0) (mCallN 2 fp (mCons (mVar 0) (mCons (mVar 4) mNil)))))) (sRet (mVar 4)) sNext))
      ((side l s).map enc) [some (seqD s), some (.str (Str.ofString (sw l))), some (.tup ((side l s).map enc)), x, y] M = some (.nx [some (seqD s), some (.str (Str.ofString (sw l))), some (.tup ((side l s).map enc)), x', y'] M)) := by
  obtain ⟨h1, h2⟩ := for_find (g := gName 3) (body := sSeq (sSet (mTup (mCons (mBin addF (mBin atF (mVar 3) (mC (.int 0))) (mVar 1)) (mCons (mVar 3) mNil))) (gName 4)) (sIf (tAndM (tru (mBin inF (mBin atF (mVar 3) (mC (.int 0))) (mC g_PAIRS))) (tru (mBin ninF (mVar 0) (mCallN 2 fp (mCons (mVar 0) (mCons (mVar 4) mNil)))))) (sRet (mVar 4)) sNext))
    (ei := enc) (p := leads l s) (res := stepD l) (R := fun lo => ∃ x y, lo = [some (seqD s), some (.str (Str.ofString (sw l))), some (.tup ((side l s).map enc)), x, y]) (M := M) (side l s) [some (seqD s), some (.str (Str.ofString (sw l))), some (.tup ((side l s).map enc)), x, y]
    (fun f hf lo ⟨x, y, hlo⟩ => by
      subst hlo
      cases f with
      | lt n => cases l <;> simp [leads, sw, ev_in_pairs]
      | fls => cases l <;> simp [leads, sw, ev_in_pairs]
      | bin o a b =>
        have e := hp o l a b M hf
        have hd := side_flat hs hf
        have en : ninF [seqD s, .lst ((prem o l a b s).map seqD)] M = some (.bl (!decide (s ∈ prem o l a b s)), M) := by
          rw [ev_ninL (seqD_dat s) (seqDs_dat _) (by have := seqD_dep hs; omega) (by have := seqDs_dep (prem_flat (o := o) (l := l) (a := a) (b := b) hs (by omega)); omega)]
          simp only [mem_seqD]
        by_cases c : s ∈ prem o l a b s
        · have en' : ninF [seqD s, .lst ((prem o l a b s).map seqD)] M = some (.bl false, M) := by rw [en]; simp [c]
          cases o <;> cases l <;> simp only [Op.wd] at e <;> simp [leads, sw, ev_in_pairs, stepD, Op.w, Op.wd, e, en', c]
        · have en' : ninF [seqD s, .lst ((prem o l a b s).map seqD)] M = some (.bl true, M) := by rw [en]; simp [c]
          cases o <;> cases l <;> simp only [Op.wd] at e <;> simp [leads, sw, ev_in_pairs, stepD, Op.w, Op.wd, e, en', c]) ⟨x, y, rfl⟩
  refine ⟨h1, fun hn => ?_⟩
  obtain ⟨lo', e, x', y', rfl⟩ := h2 hn
  exact ⟨x', y', e⟩
/-- the step of s -/
def stepOf (s : Sq) : Option (Bool × Fm) := match s.1.find? (leads true s) with
  | some f => some (true, f)
  | none => match s.2.find? (leads false s) with
    | some f => some (false, f)
    | none => none
theorem kind_seqD (s : Sq) : kindOf (seqD s) = some (true, [.tup (s.1.map enc), .tup (s.2.map enc)]) := rfl
theorem kind_tup (ds : List D) : kindOf (.tup ds) = some (true, ds) := rfl
theorem ev_step_for {fp : F1} {s : Sq} (hp : SPrem fp s) (hs : Flat s) (M : Mo) : fnF 5 (b_step_for fp) [seqD s] M = some (match stepOf s with | some (l, f) => stepD l f | none => .non, M) := by
  obtain ⟨a1, a2⟩ := ev_inner hp hs true M none none
  unfold stepOf
  cases h1 : s.1.find? (leads true s) with
  | some f =>
    have e := a1 f h1
    simp only [side, if_true, sw] at e
    simp [fnF, b_step_for, kind_seqD, kind_tup, zipD, for_cons, e]
  | none =>
    obtain ⟨x, y, e⟩ := a2 h1
    obtain ⟨b1, b2⟩ := ev_inner hp hs false M x y
    simp only [side, if_true, sw] at e
    cases h2 : s.2.find? (leads false s) with
    | some f =>
      have e2 := b1 f h2
      simp only [side, Bool.false_eq_true, if_false, sw] at e2
      simp [fnF, b_step_for, kind_seqD, kind_tup, zipD, for_cons, e, e2]
    | none =>
      obtain ⟨x2, y2, e2⟩ := b2 h2
      simp only [side, Bool.false_eq_true, if_false, sw] at e2
      simp [fnF, b_step_for, kind_seqD, kind_tup, zipD, for_cons, e, e2]
end Law

set_option Elab.async false
set_option linter.all false
set_option maxRecDepth 100000
/-! Deductions: what deductions.py computes of right ones. -/
namespace Law
open PySem PySem.Spec G

inductive Dd where
  | asm (f : Fm)
  | ifin (f : Fm) (x : Dd)
  | ifout (x y : Dd)
  | andin (x y : Dd)
  | ando (k : Bool) (x : Dd)
  | orin (k : Bool) (f : Fm) (x : Dd)
  | orout (x y z : Dd)
  | fout (f : Fm) (x : Dd)
  | contra (f : Fm) (x : Dd)
deriving DecidableEq
def encD : Dd → D
  | .asm f => .tup [.str "assume", enc f]
  | .ifin f x => .tup [.str "ifin", enc f, encD x]
  | .ifout x y => .tup [.str "ifout", encD x, encD y]
  | .andin x y => .tup [.str "andin", encD x, encD y]
  | .ando false x => .tup [.str "andout1", encD x]
  | .ando true x => .tup [.str "andout2", encD x]
  | .orin false f x => .tup [.str "orin1", enc f, encD x]
  | .orin true f x => .tup [.str "orin2", enc f, encD x]
  | .orout x y z => .tup [.str "orout", encD x, encD y, encD z]
  | .fout f x => .tup [.str "falseout", enc f, encD x]
  | .contra f x => .tup [.str "contra", enc f, encD x]
namespace Dd
def up : Dd → List Dd
  | .asm _ => []
  | .ifin _ x => [x]
  | .ifout x y => [x, y]
  | .andin x y => [x, y]
  | .ando _ x => [x]
  | .orin _ _ x => [x]
  | .orout x y z => [x, y, z]
  | .fout _ x => [x]
  | .contra _ x => [x]
def told : Dd → Fm
  | .asm f => f
  | .ifin f x => .bin .imp f x.told
  | .ifout x _ => match x.told with | .bin .imp _ b => b | _ => .fls
  | .andin x y => .bin .and x.told y.told
  | .ando k x => match x.told with | .bin .and a b => if k then b else a | _ => .fls
  | .orin k f x => if k then .bin .or f x.told else .bin .or x.told f
  | .orout _ y _ => y.told
  | .fout f _ => f
  | .contra f _ => f
def isB (o : Op) : Fm → Bool
  | .bin p _ _ => decide (p = o)
  | _ => false
/-- each step follows -/
def rt : Dd → Bool
  | .asm _ => true
  | .ifin _ x => x.rt
  | .ifout x y => x.rt && y.rt && (match x.told with | .bin .imp a _ => decide (a = y.told) | _ => false)
  | .andin x y => x.rt && y.rt
  | .ando _ x => x.rt && isB .and x.told
  | .orin _ _ x => x.rt
  | .orout x y z => x.rt && y.rt && z.rt && isB .or x.told && decide (y.told = z.told)
  | .fout _ x => x.rt && decide (x.told = .fls)
  | .contra _ x => x.rt && decide (x.told = .fls)
def without (g : Fm) (fs : List Fm) : List Fm := fs.filter fun f => decide (f ≠ g)
/-- the open assumptions, in order -/
def opn : Dd → List Fm
  | .asm f => [f]
  | .ifin f x => canon (without f x.opn)
  | .ifout x y => canon (x.opn ++ y.opn)
  | .andin x y => canon (x.opn ++ y.opn)
  | .ando _ x => canon x.opn
  | .orin _ _ x => canon x.opn
  | .orout x y z => match x.told with
    | .bin _ a b => canon (x.opn ++ without a y.opn ++ without b z.opn)
    | _ => []
  | .fout _ x => canon x.opn
  | .contra f x => canon (without (.bin .imp f .fls) x.opn)
def sz : Dd → Nat
  | .asm _ => 1
  | .ifin _ x => x.sz + 1
  | .ifout x y => x.sz + y.sz + 1
  | .andin x y => x.sz + y.sz + 1
  | .ando _ x => x.sz + 1
  | .orin _ _ x => x.sz + 1
  | .orout x y z => x.sz + y.sz + z.sz + 1
  | .fout _ x => x.sz + 1
  | .contra _ x => x.sz + 1
def ht : Dd → Nat
  | .asm _ => 0
  | .ifin _ x => x.ht + 1
  | .ifout x y => max x.ht y.ht + 1
  | .andin x y => max x.ht y.ht + 1
  | .ando _ x => x.ht + 1
  | .orin _ _ x => x.ht + 1
  | .orout x y z => max x.ht (max y.ht z.ht) + 1
  | .fout _ x => x.ht + 1
  | .contra _ x => x.ht + 1
/-- few open assumptions, small formulas -/
def fit : Dd → Bool
  | .asm f => decide (f.dp ≤ 8)
  | .ifin f x => x.fit && decide (f.dp ≤ 50) && decide (x.told.dp ≤ 50) && decide ((Dd.ifin f x).opn.length ≤ 21)
  | .ifout x y => x.fit && y.fit && decide (x.told.dp ≤ 50) && decide (y.told.dp ≤ 50) && decide ((Dd.ifout x y).opn.length ≤ 21)
  | .andin x y => x.fit && y.fit && decide (x.told.dp ≤ 50) && decide (y.told.dp ≤ 50) && decide ((Dd.andin x y).opn.length ≤ 21)
  | .ando k x => x.fit && decide (x.told.dp ≤ 50) && decide ((Dd.ando k x).opn.length ≤ 21)
  | .orin k f x => x.fit && decide (f.dp ≤ 50) && decide (x.told.dp ≤ 50) && decide ((Dd.orin k f x).opn.length ≤ 21)
  | .orout x y z => x.fit && y.fit && z.fit && decide (x.told.dp ≤ 50) && decide (y.told.dp ≤ 50) && decide (z.told.dp ≤ 50) && decide ((Dd.orout x y z).opn.length ≤ 21)
  | .fout f x => x.fit && decide (f.dp ≤ 50) && decide (x.told.dp ≤ 50) && decide ((Dd.fout f x).opn.length ≤ 21)
  | .contra f x => x.fit && decide (f.dp ≤ 50) && decide (x.told.dp ≤ 50) && decide ((Dd.contra f x).opn.length ≤ 21)
end Dd
theorem mem_without {g f : Fm} {fs : List Fm} : f ∈ Dd.without g fs ↔ f ∈ fs ∧ f ≠ g := by
  unfold Dd.without
  rw [List.mem_filter]
  simp
theorem opn_dp : ∀ {x : Dd}, x.fit = true → ∀ f ∈ x.opn, f.dp ≤ 8
  | .asm g, h, f, m => by
    simp [Dd.opn] at m
    simp [Dd.fit] at h
    rw [m]; exact h
  | .ifin g x, h, f, m => by
    simp only [Dd.fit, Bool.and_eq_true] at h
    rw [Dd.opn, mem_canon, mem_without] at m
    exact opn_dp h.1.1.1 f m.1
  | .ifout x y, h, f, m => by
    simp only [Dd.fit, Bool.and_eq_true] at h
    rw [Dd.opn, mem_canon, List.mem_append] at m
    exact m.elim (opn_dp h.1.1.1.1 f) (opn_dp h.1.1.1.2 f)
  | .andin x y, h, f, m => by
    simp only [Dd.fit, Bool.and_eq_true] at h
    rw [Dd.opn, mem_canon, List.mem_append] at m
    exact m.elim (opn_dp h.1.1.1.1 f) (opn_dp h.1.1.1.2 f)
  | .ando k x, h, f, m => by
    simp only [Dd.fit, Bool.and_eq_true] at h
    rw [Dd.opn, mem_canon] at m
    exact opn_dp h.1.1 f m
  | .orin k g x, h, f, m => by
    simp only [Dd.fit, Bool.and_eq_true] at h
    rw [Dd.opn, mem_canon] at m
    exact opn_dp h.1.1.1 f m
  | .orout x y z, h, f, m => by
    simp only [Dd.fit, Bool.and_eq_true] at h
    rw [Dd.opn] at m
    split at m
    · rw [mem_canon, List.mem_append, List.mem_append, mem_without, mem_without] at m
      rcases m with (m | m) | m
      · exact opn_dp h.1.1.1.1.1.1 f m
      · exact opn_dp h.1.1.1.1.1.2 f m.1
      · exact opn_dp h.1.1.1.1.2 f m.1
    · cases m
  | .fout g x, h, f, m => by
    simp only [Dd.fit, Bool.and_eq_true] at h
    rw [Dd.opn, mem_canon] at m
    exact opn_dp h.1.1.1 f m
  | .contra g x, h, f, m => by
    simp only [Dd.fit, Bool.and_eq_true] at h
    rw [Dd.opn, mem_canon, mem_without] at m
    exact opn_dp h.1.1.1 f m.1
theorem opn_len {x : Dd} (h : x.fit = true) : x.opn.length ≤ 21 := by
  cases x with
  | asm f => simp [Dd.opn]
  | _ => simp only [Dd.fit, Bool.and_eq_true, decide_eq_true_eq] at h; exact h.2
theorem opn_nodup : ∀ x : Dd, x.opn.Nodup
  | .asm g => by simp [Dd.opn]
  | .ifin g x => canon_nodup _
  | .ifout x y => canon_nodup _
  | .andin x y => canon_nodup _
  | .ando k x => canon_nodup _
  | .orin k g x => canon_nodup _
  | .orout x y z => by
    rw [Dd.opn]
    split
    · exact canon_nodup _
    · exact List.nodup_nil
  | .fout g x => canon_nodup _
  | .contra g x => canon_nodup _
theorem nodup_lenF : ∀ (l d : List Fm), l.Nodup → (∀ x ∈ l, x ∈ d) → l.length ≤ d.length
  | [], _, _, _ => Nat.zero_le _
  | x :: l, d, hn, hs => by
    obtain ⟨h1, h2⟩ := List.nodup_cons.mp hn
    have hx := hs x List.mem_cons_self
    have ih := nodup_lenF l (d.erase x) h2 fun y hy => (List.mem_erase_of_ne (fun e : y = x => h1 (by rw [← e]; exact hy))).2 (hs y (List.mem_cons_of_mem _ hy))
    have e := List.length_erase_of_mem hx
    have hp : 0 < d.length := List.length_pos_of_mem hx
    rw [List.length_cons]
    omega
/-! ### small things of the store's end -/
@[simp] theorem app_get0 (M : Mo) (a : MO) (r : Mo) : (M ++ a :: r)[M.length]? = some a := by simp
@[simp] theorem app_get1 (M : Mo) (a b : MO) (r : Mo) : (M ++ a :: b :: r)[M.length + 1]? = some b := by
  rw [List.getElem?_append_right (by omega)]
  simp
@[simp] theorem app_get2 (M : Mo) (a b c : MO) (r : Mo) : (M ++ a :: b :: c :: r)[M.length + 1 + 1]? = some c := by
  rw [List.getElem?_append_right (by omega)]
  have : M.length + 1 + 1 - M.length = 2 := by omega
  rw [this]
  rfl
@[simp] theorem app_set0 (M : Mo) (a b : MO) (r : Mo) : (M ++ a :: r).set M.length b = M ++ b :: r := by
  rw [List.set_append_right _ _ (Nat.le_refl _)]
  simp
@[simp] theorem app_set1 (M : Mo) (a b c : MO) (r : Mo) : (M ++ a :: b :: r).set (M.length + 1) c = M ++ a :: c :: r := by
  rw [List.set_append_right _ _ (by omega)]
  simp
mutual
theorem D.dat_closed (n : Nat) : ∀ d : D, d.dat = true → d.closed n = true
  | .non, _ => by rw [D.closed] <;> intros <;> contradiction
  | .int _, _ => by rw [D.closed] <;> intros <;> contradiction
  | .str _, _ => by rw [D.closed] <;> intros <;> contradiction
  | .tup ds, h => by rw [D.closed]; exact D.dats_closed n ds (by rw [D.dat] at h; exact h)
  | .lst ds, h => by rw [D.closed]; exact D.dats_closed n ds (by rw [D.dat] at h; exact h)
  | .bl _, h | .rol _, h | .ref _, h | .fn _, h => by simp [D.dat] at h
theorem D.dats_closed (n : Nat) : ∀ ds : List D, D.dats ds = true → D.closeds n ds = true
  | [], _ => by rw [D.closeds]
  | d :: ds, h => by
    rw [D.dats, Bool.and_eq_true] at h
    rw [D.closeds, D.dat_closed n d h.1, D.dats_closed n ds h.2]
    rfl
end
theorem exit_dat {M E : Mo} {d : D} (h : d.dat = true) : exitF M d (M ++ E) = (d, M) := exit_cut (D.dat_closed _ d h)
@[simp] theorem encs_dat : ∀ fs : List Fm, D.dats (fs.map enc) = true
  | [] => by rw [List.map_nil, D.dats]
  | f :: fs => by rw [List.map_cons, D.dats, enc_dat, encs_dat fs]; rfl
@[simp] theorem encD_dat : ∀ x : Dd, (encD x).dat = true
  | .asm f => by simp [encD, D.dat, D.dats]
  | .ifin f x => by simp [encD, D.dat, D.dats, encD_dat x]
  | .ifout x y => by simp [encD, D.dat, D.dats, encD_dat x, encD_dat y]
  | .andin x y => by simp [encD, D.dat, D.dats, encD_dat x, encD_dat y]
  | .ando false x => by simp [encD, D.dat, D.dats, encD_dat x]
  | .ando true x => by simp [encD, D.dat, D.dats, encD_dat x]
  | .orin false f x => by simp [encD, D.dat, D.dats, encD_dat x]
  | .orin true f x => by simp [encD, D.dat, D.dats, encD_dat x]
  | .orout x y z => by simp [encD, D.dat, D.dats, encD_dat x, encD_dat y, encD_dat z]
  | .fout f x => by simp [encD, D.dat, D.dats, encD_dat x]
  | .contra f x => by simp [encD, D.dat, D.dats, encD_dat x]
/-- the tuple of formulas -/
abbrev fsD (fs : List Fm) : D := .tup (fs.map enc)

/-! ### uppers -/
theorem ev_uppers_ded (x : Dd) (M : Mo) : fnF 1 b_uppers [encD x] M = some (.tup (x.up.map encD), M) := by
  cases x with
  | ando k x => cases k <;> simp [fnF, b_uppers, encD, Dd.up, k_SIZES_deductions, List.lookup, seqOf]
  | orin k f x => cases k <;> simp [fnF, b_uppers, encD, Dd.up, k_SIZES_deductions, List.lookup, seqOf]
  | _ => simp [fnF, b_uppers, encD, Dd.up, k_SIZES_deductions, List.lookup, seqOf]
end Law

set_option Elab.async false
set_option linter.all false
set_option maxRecDepth 100000
/-! What a step tells. -/
namespace Law
open PySem PySem.Spec G

theorem ev_atR {n : Nat} {es : List D} {i : Nat} {e : D} {M : Mo} (hm : M[n]? = some (.lst es)) (h : es[i]? = some e) : atF [.ref n, .int (i : Int)] M = some (e, M) := ev_at (t := false) (by show seqOf M (.ref n) = _; unfold seqOf; simp only [hm]) h
theorem ev_atR0 {n : Nat} {a : D} {r : List D} {M : Mo} (hm : M[n]? = some (.lst (a :: r))) : atF [.ref n, .int 0] M = some (a, M) := ev_atR (i := 0) hm rfl
theorem ev_atR1 {n : Nat} {a b : D} {r : List D} {M : Mo} (hm : M[n]? = some (.lst (a :: b :: r))) : atF [.ref n, .int 1] M = some (b, M) := ev_atR (i := 1) hm rfl
theorem ev_atR2 {n : Nat} {a b c : D} {r : List D} {M : Mo} (hm : M[n]? = some (.lst (a :: b :: c :: r))) : atF [.ref n, .int 2] M = some (c, M) := ev_atR (i := 2) hm rfl
theorem ev_eqf {f g : Fm} {M : Mo} (h1 : f.dp ≤ 64) (h2 : g.dp ≤ 64) : eqF [enc f, enc g] M = some (.bl (decide (f = g)), M) := by
  rw [ev_eq (enc_dat f) (enc_dat g) (by rw [enc_dep]; exact h1) (by rw [enc_dep]; exact h2)]
  simp
theorem ev_nef {f g : Fm} {M : Mo} (h1 : f.dp ≤ 64) (h2 : g.dp ≤ 64) : neF [enc f, enc g] M = some (.bl (!decide (f = g)), M) := by
  rw [ev_ne (enc_dat f) (enc_dat g) (by rw [enc_dep]; exact h1) (by rw [enc_dep]; exact h2)]
  simp
theorem enc_imp (a b : Fm) : enc (.bin .imp a b) = .tup [.str "if", enc a, enc b] := rfl
theorem enc_and (a b : Fm) : enc (.bin .and a b) = .tup [.str "and", enc a, enc b] := rfl
theorem enc_or (a b : Fm) : enc (.bin .or a b) = .tup [.str "or", enc a, enc b] := rfl
theorem fls_enc : g_FALSE = enc .fls := rfl
theorem digit1 : lastDigit "andout1" = some 1 := by decide +kernel
theorem andlen1 : "andout1".length = 7 := by decide +kernel
theorem andlen2 : "andout2".length = 7 := by decide +kernel
theorem digit2 : lastDigit "andout2" = some 2 := by decide +kernel
theorem inT_words (a b c : String) (M : Mo) : inF [.str a, .tup [.str b, .str c]] M = some (.bl (decide (a = b ∨ a = c)), M) := by
  rw [ev_inT (by rw [D.dat]; exact lit_ok a) (by simp [D.dats, D.dat]) (by simp [D.dep]) (by simp [D.dep, D.deps])]
  simp
theorem and_of_isB {o : Op} {f : Fm} (h : Dd.isB o f = true) : ∃ a b, f = .bin o a b := by
  cases f with
  | bin p a b =>
    simp [Dd.isB] at h
    subst h
    exact ⟨a, b, rfl⟩
  | _ => cases h
theorem dp_bin {o : Op} {a b : Fm} {n : Nat} (h : (Fm.bin o a b).dp ≤ n) : a.dp ≤ n ∧ b.dp ≤ n := by rw [Fm.dp] at h; omega
theorem ev_result {x : Dd} {n : Nat} {M : Mo} (hr : x.rt = true) (hf : x.fit = true) (hm : M[n]? = some (.lst (x.up.map fun y => enc y.told))) : fnF 3 b_result_of [encD x, .ref n] M = some (enc x.told, M) := by
  cases x with
  | asm f => simp [fnF, b_result_of, encD, Dd.told]
  | ifin f x =>
    have h0 : atF [.ref n, .int 0] M = some (enc x.told, M) := ev_atR0 hm
    simp [fnF, b_result_of, encD, Dd.told, h0, enc_imp]
  | ifout x y =>
    have h0 : atF [.ref n, .int 0] M = some (enc x.told, M) := ev_atR0 hm
    have h1 : atF [.ref n, .int 1] M = some (enc y.told, M) := ev_atR1 hm
    simp only [Dd.rt, Bool.and_eq_true] at hr
    simp only [Dd.fit, Bool.and_eq_true, decide_eq_true_eq] at hf
    obtain ⟨⟨⟨_, hx⟩, hy⟩, _⟩ := hf
    cases ht : x.told with
    | bin o a b =>
      rw [ht] at hr h0 hx
      cases o with
      | imp =>
        have ha : a = y.told := by simpa using hr.2
        subst ha
        have e := ev_eqf (f := y.told) (g := y.told) (M := M) (by omega) (by omega)
        rw [enc_imp] at h0
        simp [fnF, b_result_of, encD, Dd.told, ht, h0, h1, e]
      | _ => simp at hr
    | _ => rw [ht] at hr; simp at hr
  | andin x y =>
    have h0 : atF [.ref n, .int 0] M = some (enc x.told, M) := ev_atR0 hm
    have h1 : atF [.ref n, .int 1] M = some (enc y.told, M) := ev_atR1 hm
    simp [fnF, b_result_of, encD, Dd.told, h0, h1, enc_and]
  | ando k x =>
    have h0 : atF [.ref n, .int 0] M = some (enc x.told, M) := ev_atR0 hm
    simp only [Dd.rt, Bool.and_eq_true] at hr
    obtain ⟨a, b, ht⟩ := and_of_isB hr.2
    rw [ht, enc_and] at h0
    cases k <;> simp [fnF, b_result_of, encD, Dd.told, h0, ht, inT_words, digit1, digit2, andlen1, andlen2]
  | orin k f x =>
    have h0 : atF [.ref n, .int 0] M = some (enc x.told, M) := ev_atR0 hm
    cases k <;> simp [fnF, b_result_of, encD, Dd.told, h0, enc_or, inT_words]
  | orout x y z =>
    have h0 : atF [.ref n, .int 0] M = some (enc x.told, M) := ev_atR0 hm
    have h1 : atF [.ref n, .int 1] M = some (enc y.told, M) := ev_atR1 hm
    have h2 : atF [.ref n, .int 2] M = some (enc z.told, M) := ev_atR2 hm
    simp only [Dd.rt, Bool.and_eq_true, decide_eq_true_eq] at hr
    simp only [Dd.fit, Bool.and_eq_true, decide_eq_true_eq] at hf
    obtain ⟨a, b, ht⟩ := and_of_isB hr.1.2
    rw [ht, enc_or] at h0
    have e := ev_eqf (f := y.told) (g := z.told) (M := M) (by omega) (by omega)
    rw [decide_eq_true hr.2] at e
    simp [fnF, b_result_of, encD, Dd.told, h0, h1, h2, e, inT_words]
  | fout f x =>
    have h0 : atF [.ref n, .int 0] M = some (enc x.told, M) := ev_atR0 hm
    simp only [Dd.rt, Bool.and_eq_true, decide_eq_true_eq] at hr
    rw [hr.2] at h0
    have e := ev_eqf (f := .fls) (g := .fls) (M := M) (by simp [Fm.dp]) (by simp [Fm.dp])
    simp [fnF, b_result_of, encD, Dd.told, h0, inT_words, fls_enc, e]
  | contra f x =>
    have h0 : atF [.ref n, .int 0] M = some (enc x.told, M) := ev_atR0 hm
    simp only [Dd.rt, Bool.and_eq_true, decide_eq_true_eq] at hr
    rw [hr.2] at h0
    have e := ev_eqf (f := .fls) (g := .fls) (M := M) (by simp [Fm.dp]) (by simp [Fm.dp])
    simp [fnF, b_result_of, encD, Dd.told, h0, inT_words, fls_enc, e]
end Law

set_option Elab.async false
set_option linter.all false
set_option maxRecDepth 100000
/-! The open assumptions of a step. -/
namespace Law
open PySem PySem.Spec G

def goneD : Option Fm → D
  | none => .non
  | some g => enc g
def keepG (gone : Option Fm) (f : Fm) : Bool := match gone with
  | none => true
  | some g => decide (f ≠ g)
theorem ev_ne_gone {f : Fm} {gone : Option Fm} {M : Mo} (h1 : f.dp ≤ 64) (h2 : ∀ g, gone = some g → g.dp ≤ 64) : neF [enc f, goneD gone] M = some (.bl (keepG gone f), M) := by
  cases gone with
  | none =>
    rw [goneD, ev_ne (enc_dat f) (by rw [D.dat]) (by rw [enc_dep]; exact h1) (by simp [D.dep])]
    have : ¬ enc f = D.non := by cases f <;> simp [enc]
    simp [keepG, this]
  | some g =>
    rw [goneD, ev_nef h1 (h2 g rfl)]
    simp [keepG]
theorem comp_gone {fs : List Fm} {gone : Option Fm} {lo : Lo} {M : Mo} (h1 : ∀ f ∈ fs, f.dp ≤ 64) (h2 : ∀ g, gone = some g → g.dp ≤ 64) (h5 : lo[5]? = some (some (goneD gone))) (hl : lo.length = 7) :
    compLoop (gName 6) (tru (mBin neF (mVar 6) (mVar 5))) (mVar 6) [6] (fs.map enc) lo M = some ((fs.filter (keepG gone)).map enc, M) := by
  have := comp_typed (g := gName 6) (c := tru (mBin neF (mVar 6) (mVar 5))) (m := mVar 6) (vs := [6]) (lo := lo) (M := M) (ei := enc) (eo := enc) (p := keepG gone) (f := id) fs fun f hf => by
    refine ⟨_, rfl, ?_, fun _ => ?_⟩
    · have e := ev_ne_gone (M := M) (h1 f hf) h2
      have a6 : ((wipeD lo [6]).set 6 (some (enc f)))[6]? = some (some (enc f)) := by rw [List.getElem?_set_self]; simp [wipeD, hl]
      have a5 : ((wipeD lo [6]).set 6 (some (enc f)))[5]? = some (some (goneD gone)) := by
        rw [List.getElem?_set_ne (by omega)]
        simp only [wipeD]
        rw [List.getElem?_set_ne (by omega)]
        exact h5
      simp [a5, a6, e]
    · have a6 : ((wipeD lo [6]).set 6 (some (enc f)))[6]? = some (some (enc f)) := by rw [List.getElem?_set_self]; simp [wipeD, hl]
      simp [a6]
  simpa using this
theorem keep_none (fs : List Fm) : fs.filter (keepG none) = fs := List.filter_eq_self.mpr fun _ _ => rfl
theorem keep_some (g : Fm) (fs : List Fm) : fs.filter (keepG (some g)) = Dd.without g fs := rfl
theorem rg1 : rgD 0 1 = [.int 0] := by decide +kernel
theorem rg2 : rgD 0 2 = [.int 0, .int 1] := by decide +kernel
theorem rg3 : rgD 0 3 = [.int 0, .int 1, .int 2] := by decide +kernel
theorem ev_len_ref {n : Nat} {es : List D} {M : Mo} (hm : M[n]? = some (.lst es)) : lenF [.ref n] M = some (.int es.length, M) := by
  unfold lenF seqOf
  simp only [hm]
/-- the end: sorted, each once -/
theorem ev_sorted_ref {n : Nat} {fs : List Fm} {M : Mo} (hm : M[n]? = some (.lst (fs.map enc))) (h1 : fs.length < 64) (h2 : ∀ f ∈ fs, f.dp ≤ 8) : sortSetF [.ref n] M = some (.lst ((canon fs).map enc), M) := by
  have hs : seqOf M (.ref n) = some (false, fs.map enc) := by unfold seqOf; simp only [hm]
  cases fs with
  | nil =>
    unfold sortSetF
    simp only [hs]
    rfl
  | cons f r => exact ev_sortset_enc hs (by simp) h1 h2
/-- one turn, gone being told -/
theorem turn_open {d n m : D} {lo6 : Option D} {E : Mo} {gone : Option Fm} {k : Int} {fs gs : List Fm} {M : Mo} (hE : E = M ++ [.lst (gs.map enc)]) (hk : atF [m, .int k] E = some (fsD fs, E)) (h1 : ∀ f ∈ fs, f.dp ≤ 8) (h2 : ∀ g, gone = some g → g.dp ≤ 64) (hl : fs.length ≤ 21) (hg : gs.length ≤ 60) :
    sDrop (mMetL extendF (mVar 3) (mCons (mCompS (mBin atF (mVar 2) (mVar 4)) (gName 6) (tru (mBin neF (mVar 6) (mVar 5))) (mVar 6) [6]) mNil)) [some d, some n, some m, some (.ref M.length), some (.int k), some (goneD gone), lo6] E =
      some (.nx [some d, some n, some m, some (.ref M.length), some (.int k), some (goneD gone), lo6] (M ++ [.lst ((gs ++ fs.filter (keepG gone)).map enc)])) := by
  subst hE
  have c := comp_gone (fs := fs) (gone := gone) (lo := [some d, some n, some m, some (.ref M.length), some (.int k), some (goneD gone), lo6]) (M := M ++ [.lst (gs.map enc)]) (fun f hf => by have := h1 f hf; omega) h2 rfl rfl
  have hlen : (fs.filter (keepG gone)).length ≤ 21 := Nat.le_trans (List.length_filter_le _ _) hl
  have b : gs.length + (fs.filter (keepG gone)).length ≤ 16777216 := by omega
  have b2 : fs.length ≤ 16777216 := by omega
  simp [hk, c, isLst, extendF, lstOf, b, b2, seqOf]
/-- what is let go at the k-th part -/
def goneOf : Dd → Nat → Option Fm
  | .ifin f _, _ => some f
  | .contra f _, _ => some (.bin .imp f .fls)
  | .orout x _ _, k => match x.told, k with
    | .bin _ a _, 1 => some a
    | .bin _ _ b, 2 => some b
    | _, _ => none
  | _, _ => none
abbrev oGone (fc : F1) : MS := sIf (tru (mBin eqF (mBin atF (mVar 0) (mC (.int 0))) (mC (.str "ifin")))) (sSet (mBin atF (mVar 0) (mC (.int 1))) (gName 5)) (sIf (tru (mBin eqF (mBin atF (mVar 0) (mC (.int 0))) (mC (.str "contra")))) (sSet (mCallN 1 fc (mCons (mBin atF (mVar 0) (mC (.int 1))) mNil)) (gName 5)) (sIf (tAndM (tru (mBin eqF (mBin atF (mVar 0) (mC (.int 0))) (mC (.str "orout")))) (tru (mBin gtF (mVar 4) (mC (.int 0))))) (sSet (mBin atF (mBin atF (mVar 1) (mC (.int 0))) (mVar 4)) (gName 5)) sNext))
abbrev oExt : MS := sDrop (mMetL extendF (mVar 3) (mCons (mCompS (mBin atF (mVar 2) (mVar 4)) (gName 6) (tru (mBin neF (mVar 6) (mVar 5))) (mVar 6) [6]) mNil))
abbrev oBody (fc : F1) : MS := sSeq (sSet (mC .non) (gName 5)) (sSeq (oGone fc) oExt)
theorem open_is (fc : F1) : b_open_of fc = sSeq (sIf (tru (mBin eqF (mBin atF (mVar 0) (mC (.int 0))) (mC (.str "assume")))) (sRet (mTup (mCons (mBin atF (mVar 0) (mC (.int 1))) mNil))) sNext) (sSeq (sSet (mNewL mNil) (gName 3)) (sSeq (sFor (iRg1M (mCons (mCall lenF (mCons (mVar 2) mNil)) mNil)) (gName 4) (oBody fc)) (sRet (mCall tupleF (mCons (mUn sortSetF (mVar 3)) mNil))))) := rfl
theorem turn_gone {fc : F1} (hc : ∀ f M, fc [enc f] M = some (enc (.bin .imp f .fls), M)) {x : Dd} {n : Nat} {m c : D} {k : Nat} {E : Mo} {lo6 : Option D} (hr : x.rt = true) (hk : k < x.up.length) (h0 : atF [.ref n, .int 0] E = some (enc (x.up.headD (.asm .fls)).told, E)) :
    oGone fc [some (encD x), some (.ref n), some m, some c, some (.int (k : Int)), some .non, lo6] E = some (.nx [some (encD x), some (.ref n), some m, some c, some (.int (k : Int)), some (goneD (goneOf x k)), lo6] E) := by
  cases x with
  | asm f => simp [Dd.up] at hk
  | ifin f x => simp [encD, goneOf, goneD]
  | contra f x => simp [encD, goneOf, goneD, hc]
  | ifout x y => simp [encD, goneOf, goneD]
  | andin x y => simp [encD, goneOf, goneD]
  | ando b x => cases b <;> simp [encD, goneOf, goneD]
  | orin b f x => cases b <;> simp [encD, goneOf, goneD]
  | fout f x => simp [encD, goneOf, goneD]
  | orout x y z =>
    simp only [Dd.rt, Bool.and_eq_true, decide_eq_true_eq] at hr
    obtain ⟨a, b, ht⟩ := and_of_isB hr.1.2
    have h0 : atF [.ref n, .int 0] E = some (enc x.told, E) := h0
    rw [ht, enc_or] at h0
    simp only [Dd.up, List.length_cons, List.length_nil] at hk
    have : k = 0 ∨ k = 1 ∨ k = 2 := by omega
    rcases this with rfl | rfl | rfl <;> simp [encD, goneOf, goneD, ht, h0]
theorem goneOf_dp {x : Dd} {k : Nat} (hf : x.fit = true) : ∀ g, goneOf x k = some g → g.dp ≤ 64 := by
  intro g hg
  cases x with
  | ifin f x =>
    simp only [Dd.fit, Bool.and_eq_true, decide_eq_true_eq] at hf
    cases hg
    omega
  | contra f x =>
    simp only [Dd.fit, Bool.and_eq_true, decide_eq_true_eq] at hf
    cases hg
    simp only [Fm.dp]
    omega
  | orout x y z =>
    simp only [Dd.fit, Bool.and_eq_true, decide_eq_true_eq] at hf
    simp only [goneOf] at hg
    split at hg
    · rename_i e
      cases hg
      have := hf.1.1.1.2
      rw [e, Fm.dp] at this
      omega
    · rename_i e
      cases hg
      have := hf.1.1.1.2
      rw [e, Fm.dp] at this
      omega
    · cases hg
  | _ => cases hg
/-- one whole turn -/
theorem turn_all {fc : F1} (hc : ∀ f M, fc [enc f] M = some (enc (.bin .imp f .fls), M)) {x : Dd} {n : Nat} {m : D} {k : Nat} {lo4 lo5 lo6 : Option D} {fs gs : List Fm} {M : Mo} (hr : x.rt = true) (hf : x.fit = true) (hk : k < x.up.length)
    (h0 : ∀ E, atF [.ref n, .int 0] (M ++ E) = some (enc (x.up.headD (.asm .fls)).told, M ++ E)) (hm : ∀ E, atF [m, .int (k : Int)] (M ++ E) = some (fsD fs, M ++ E)) (h1 : ∀ f ∈ fs, f.dp ≤ 8) (hl : fs.length ≤ 21) (hg : gs.length ≤ 60) :
    runB (gName 4) (oBody fc) (.int (k : Int)) [some (encD x), some (.ref n), some m, some (.ref M.length), lo4, lo5, lo6] (M ++ [.lst (gs.map enc)]) =
      some (.nx [some (encD x), some (.ref n), some m, some (.ref M.length), some (.int (k : Int)), some (goneD (goneOf x k)), lo6] (M ++ [.lst ((gs ++ fs.filter (keepG (goneOf x k))).map enc)])) := by
  rw [runB_e, gName_e]
  show (sSeq (sSet (mC .non) (gName 5)) (sSeq (oGone fc) oExt)) [some (encD x), some (.ref n), some m, some (.ref M.length), some (.int (k : Int)), lo5, lo6] _ = _
  rw [sSeq_e]
  show (sSeq (oGone fc) oExt) [some (encD x), some (.ref n), some m, some (.ref M.length), some (.int (k : Int)), some .non, lo6] _ = _
  rw [sSeq_e, turn_gone hc hr hk (h0 _)]
  exact turn_open rfl (hm _) h1 (goneOf_dp hf) hl hg
theorem ev_open {fc : F1} (hc : ∀ f M, fc [enc f] M = some (enc (.bin .imp f .fls), M)) {x : Dd} {n m : Nat} {M : Mo} (hr : x.rt = true) (hf : x.fit = true) (hn : M[n]? = some (.lst (x.up.map fun y => enc y.told))) (hm : M[m]? = some (.lst (x.up.map fun y => fsD y.opn))) :
    fnF 7 (b_open_of fc) [encD x, .ref n, .ref m] M = some (fsD x.opn, M) := by
  have grow : ∀ {i : Nat} {o : MO} (E : Mo), M[i]? = some o → (M ++ E)[i]? = some o := fun E h => by rw [List.getElem?_append_left (List.getElem?_eq_some_iff.mp h).1]; exact h
  have fin : ∀ (lo : Lo) (gs : List Fm), lo[3]? = some (some (.ref M.length)) → gs.length < 64 → (∀ f ∈ gs, f.dp ≤ 8) → sRet (mCall tupleF (mCons (mUn sortSetF (mVar 3)) mNil)) lo (M ++ [.lst (gs.map enc)]) = some (.rt (fsD (canon gs)) (M ++ [.lst (gs.map enc)])) := fun lo gs h3 h1 h2 => by
    have s := ev_sorted_ref (n := M.length) (fs := gs) (M := M ++ [.lst (gs.map enc)]) (by simp) h1 h2
    simp [h3, s]
  have done : ∀ (fs gs : List Fm), exitF M (fsD fs) (M ++ [.lst (gs.map enc)]) = (fsD fs, M) := fun fs gs => exit_dat (by simp [D.dat])
  have all : ∀ (ks : List D) (o1 : Option D) (o2 : Option D) (gs : List Fm), rgD 0 x.up.length = ks → (∀ f, x ≠ .asm f) →
      (∃ lo, forLoop (gName 4) (oBody fc) ks [some (encD x), some (.ref n), some (.ref m), some (.ref M.length), none, none, none] (M ++ [.lst []]) = some (.nx lo (M ++ [.lst (gs.map enc)])) ∧ lo[3]? = some (some (.ref M.length))) →
      gs.length < 64 → (∀ f ∈ gs, f.dp ≤ 8) → x.opn = canon gs → fnF 7 (b_open_of fc) [encD x, .ref n, .ref m] M = some (fsD x.opn, M) := fun ks _ _ gs hks hne ⟨lo, hlo, h3⟩ h1 h2 h4 => by
    have hw : ∃ w : String, w ≠ "assume" ∧ ∀ M, atF [encD x, .int 0] M = some (.str w, M) := by
      cases x with
      | asm f => exact absurd rfl (hne f)
      | ando b x => cases b; exact ⟨"andout1", by decide, fun M => by simp [encD]⟩; exact ⟨"andout2", by decide, fun M => by simp [encD]⟩
      | orin b f x => cases b; exact ⟨"orin1", by decide, fun M => by simp [encD]⟩; exact ⟨"orin2", by decide, fun M => by simp [encD]⟩
      | ifin f x => exact ⟨"ifin", by decide, fun M => by simp [encD]⟩
      | ifout x y => exact ⟨"ifout", by decide, fun M => by simp [encD]⟩
      | andin x y => exact ⟨"andin", by decide, fun M => by simp [encD]⟩
      | orout x y z => exact ⟨"orout", by decide, fun M => by simp [encD]⟩
      | fout f x => exact ⟨"falseout", by decide, fun M => by simp [encD]⟩
      | contra f x => exact ⟨"contra", by decide, fun M => by simp [encD]⟩
    obtain ⟨w, hw1, hw2⟩ := hw
    have hlen : lenF [.ref m] (M ++ [.lst []]) = some (.int x.up.length, M ++ [.lst []]) := by
      rw [ev_len_ref (grow _ hm)]
      simp
    have f := fin lo gs h3 h1 h2
    have hb : (decide (-(2 ^ 62) ≤ (x.up.length : Int)) && decide ((x.up.length : Int) < 2 ^ 62)) = true := by
      have : x.up.length ≤ 3 := by cases x <;> simp [Dd.up]
      simp
      omega
    have e : b_open_of fc [some (encD x), some (.ref n), some (.ref m), none, none, none, none] M = some (.rt (fsD (canon gs)) (M ++ [.lst (gs.map enc)])) := by
      rw [open_is, sSeq_e]
      have e1 : sIf (tru (mBin eqF (mBin atF (mVar 0) (mC (.int 0))) (mC (.str "assume")))) (sRet (mTup (mCons (mBin atF (mVar 0) (mC (.int 1))) mNil))) sNext [some (encD x), some (.ref n), some (.ref m), none, none, none, none] M = some (.nx [some (encD x), some (.ref n), some (.ref m), none, none, none, none] M) := by
        simp [hw2, hw1]
      rw [e1]
      show (sSeq (sSet (mNewL mNil) (gName 3)) _) _ _ = _
      rw [sSeq_e]
      have e2 : sSet (mNewL mNil) (gName 3) [some (encD x), some (.ref n), some (.ref m), none, none, none, none] M = some (.nx [some (encD x), some (.ref n), some (.ref m), some (.ref M.length), none, none, none] (M ++ [.lst []])) := by simp
      rw [e2]
      show (sSeq (sFor _ _ _) _) _ _ = _
      rw [sSeq_e, sFor_e]
      have e3 : iRg1M (mCons (mCall lenF (mCons (mVar 2) mNil)) mNil) [some (encD x), some (.ref n), some (.ref m), some (.ref M.length), none, none, none] (M ++ [.lst []]) = some (ks, M ++ [.lst []]) := by
        rw [iRg1M_e]
        have : (mCons (mCall lenF (mCons (mVar 2) mNil)) mNil) [some (encD x), some (.ref n), some (.ref m), some (.ref M.length), none, none, none] (M ++ [.lst []]) = some ([.int x.up.length], M ++ [.lst []]) := by simp [hlen]
        rw [this]
        simp only [hb, if_true, hks]
      rw [e3]
      simp only [hlo, f]
    show (match b_open_of fc [some (encD x), some (.ref n), some (.ref m), none, none, none, none] M with | some (.rt d M') => some (exitF M d M') | some (.nx _ M') => some (exitF M .non M') | _ => none) = _
    rw [e, h4]
    simp only [done]
  have at0 : ∀ {y : Dd} {r : List Dd}, x.up = y :: r → ∀ E, atF [.ref n, .int 0] (M ++ E) = some (enc y.told, M ++ E) := fun h E => by rw [h] at hn; exact ev_atR0 (grow E hn)
  have m0 : ∀ {y : Dd} {r : List Dd}, x.up = y :: r → ∀ E, atF [.ref m, .int ((0 : Nat) : Int)] (M ++ E) = some (fsD y.opn, M ++ E) := fun h E => by rw [h] at hm; exact ev_atR0 (grow E hm)
  have m1 : ∀ {y z : Dd} {r : List Dd}, x.up = y :: z :: r → ∀ E, atF [.ref m, .int ((1 : Nat) : Int)] (M ++ E) = some (fsD z.opn, M ++ E) := fun h E => by rw [h] at hm; exact ev_atR1 (grow E hm)
  have m2 : ∀ {y z w : Dd} {r : List Dd}, x.up = y :: z :: w :: r → ∀ E, atF [.ref m, .int ((2 : Nat) : Int)] (M ++ E) = some (fsD w.opn, M ++ E) := fun h E => by rw [h] at hm; exact ev_atR2 (grow E hm)
  have one : ∀ {y : Dd}, x.up = [y] → (∀ f, x ≠ .asm f) → y.fit = true → x.opn = canon (y.opn.filter (keepG (goneOf x 0))) → fnF 7 (b_open_of fc) [encD x, .ref n, .ref m] M = some (fsD x.opn, M) := fun {y} hup hne hy ho => by
    have t := turn_all (gs := []) (lo4 := none) (lo5 := none) (lo6 := none) (m := .ref m) hc hr hf (by rw [hup]; exact Nat.zero_lt_one) (by rw [hup]; exact at0 hup) (m0 hup) (opn_dp hy) (opn_len hy) (Nat.zero_le _)
    have l := opn_len hy
    have l2 := List.length_filter_le (keepG (goneOf x 0)) y.opn
    refine all [.int 0] none none (y.opn.filter (keepG (goneOf x 0))) (by rw [hup]; exact rg1) hne ⟨[some (encD x), some (.ref n), some (.ref m), some (.ref M.length), some (.int ((0 : Nat) : Int)), some (goneD (goneOf x 0)), none], ?_, ?_⟩ (by omega) (fun f hm => opn_dp hy f (List.mem_filter.mp hm).1) ho
    · rw [for_cons]
      rw [show ([] : List D) = ([] : List Fm).map enc from rfl]
      rw [show (D.int 0) = D.int ((0 : Nat) : Int) from rfl, t]
      rfl
    · rfl
  have two : ∀ {y z : Dd}, x.up = [y, z] → (∀ f, x ≠ .asm f) → y.fit = true → z.fit = true → x.opn = canon (y.opn.filter (keepG (goneOf x 0)) ++ z.opn.filter (keepG (goneOf x 1))) → fnF 7 (b_open_of fc) [encD x, .ref n, .ref m] M = some (fsD x.opn, M) := fun {y z} hup hne hy hz ho => by
    have l := opn_len hy
    have l2 := List.length_filter_le (keepG (goneOf x 0)) y.opn
    have l3 := opn_len hz
    have l4 := List.length_filter_le (keepG (goneOf x 1)) z.opn
    have t := turn_all (gs := []) (lo4 := none) (lo5 := none) (lo6 := none) (m := .ref m) hc hr hf (by rw [hup]; simp) (by rw [hup]; exact at0 hup) (m0 hup) (opn_dp hy) (opn_len hy) (Nat.zero_le _)
    have t2 := turn_all (k := 1) (gs := y.opn.filter (keepG (goneOf x 0))) (lo4 := some (.int ((0 : Nat) : Int))) (lo5 := some (goneD (goneOf x 0))) (lo6 := none) (m := .ref m) hc hr hf (by rw [hup]; simp) (by rw [hup]; exact at0 hup) (m1 hup) (opn_dp hz) (opn_len hz) (by omega)
    refine all [.int 0, .int 1] none none (y.opn.filter (keepG (goneOf x 0)) ++ z.opn.filter (keepG (goneOf x 1))) (by rw [hup]; exact rg2) hne ⟨[some (encD x), some (.ref n), some (.ref m), some (.ref M.length), some (.int ((1 : Nat) : Int)), some (goneD (goneOf x 1)), none], ?_, ?_⟩ (by rw [List.length_append]; omega) (fun f hm => (List.mem_append.mp hm).elim (fun hm => opn_dp hy f (List.mem_filter.mp hm).1) fun hm => opn_dp hz f (List.mem_filter.mp hm).1) ho
    · rw [for_cons]
      rw [show ([] : List D) = ([] : List Fm).map enc from rfl]
      rw [show (D.int 0) = D.int ((0 : Nat) : Int) from rfl, t]
      show forLoop _ _ _ _ _ = _
      rw [for_cons]
      rw [show (D.int 1) = D.int ((1 : Nat) : Int) from rfl, List.nil_append, t2]
      rfl
    · rfl
  cases x with
  | asm f => simp [fnF, b_open_of, encD, Dd.opn]
  | ifin f x =>
    simp only [Dd.fit, Bool.and_eq_true] at hf
    exact one rfl (by simp) hf.1.1.1 (by rw [Dd.opn, goneOf, keep_some])
  | contra f x =>
    simp only [Dd.fit, Bool.and_eq_true] at hf
    exact one rfl (by simp) hf.1.1.1 (by rw [Dd.opn, goneOf, keep_some])
  | ando b x =>
    simp only [Dd.fit, Bool.and_eq_true] at hf
    exact one rfl (by simp) hf.1.1 (by rw [Dd.opn, goneOf, keep_none] <;> simp)
  | orin b f x =>
    simp only [Dd.fit, Bool.and_eq_true] at hf
    exact one rfl (by simp) hf.1.1.1 (by rw [Dd.opn, goneOf, keep_none] <;> simp)
  | fout f x =>
    simp only [Dd.fit, Bool.and_eq_true] at hf
    exact one rfl (by simp) hf.1.1.1 (by rw [Dd.opn, goneOf, keep_none] <;> simp)
  | ifout x y =>
    simp only [Dd.fit, Bool.and_eq_true] at hf
    exact two rfl (by simp) hf.1.1.1.1 hf.1.1.1.2 (by rw [Dd.opn, goneOf, goneOf, keep_none, keep_none] <;> simp)
  | andin x y =>
    simp only [Dd.fit, Bool.and_eq_true] at hf
    exact two rfl (by simp) hf.1.1.1.1 hf.1.1.1.2 (by rw [Dd.opn, goneOf, goneOf, keep_none, keep_none] <;> simp)
  | orout x y z =>
    have hf' := hf
    simp only [Dd.fit, Bool.and_eq_true] at hf'
    have hy := hf'.1.1.1.1.1.1
    have hz := hf'.1.1.1.1.1.2
    have hw := hf'.1.1.1.1.2
    have hr' := hr
    simp only [Dd.rt, Bool.and_eq_true, decide_eq_true_eq] at hr'
    obtain ⟨a, b, ht⟩ := and_of_isB hr'.1.2
    have g0 : goneOf (.orout x y z) 0 = none := by simp [goneOf, ht]
    have g1 : goneOf (.orout x y z) 1 = some a := by simp [goneOf, ht]
    have g2 : goneOf (.orout x y z) 2 = some b := by simp [goneOf, ht]
    have l := opn_len hy
    have l3 := opn_len hz
    have l4 := List.length_filter_le (keepG (some a)) y.opn
    have l5 := opn_len hw
    have l6 := List.length_filter_le (keepG (some b)) z.opn
    have t := turn_all (gs := []) (lo4 := none) (lo5 := none) (lo6 := none) (m := .ref m) hc hr hf (by simp [Dd.up]) (at0 rfl) (m0 rfl) (opn_dp hy) (opn_len hy) (Nat.zero_le _)
    rw [g0, keep_none] at t
    have t2 := turn_all (k := 1) (gs := x.opn) (lo4 := some (.int ((0 : Nat) : Int))) (lo5 := some (goneD none)) (lo6 := none) (m := .ref m) hc hr hf (by simp [Dd.up]) (at0 rfl) (m1 rfl) (opn_dp hz) (opn_len hz) (by omega)
    rw [g1] at t2
    have t3 := turn_all (k := 2) (gs := x.opn ++ y.opn.filter (keepG (some a))) (lo4 := some (.int ((1 : Nat) : Int))) (lo5 := some (goneD (some a))) (lo6 := none) (m := .ref m) hc hr hf (by simp [Dd.up]) (at0 rfl) (m2 rfl) (opn_dp hw) (opn_len hw) (by rw [List.length_append]; omega)
    rw [g2] at t3
    refine all [.int 0, .int 1, .int 2] none none (x.opn ++ y.opn.filter (keepG (some a)) ++ z.opn.filter (keepG (some b))) rg3 (by simp) ⟨[some (encD (.orout x y z)), some (.ref n), some (.ref m), some (.ref M.length), some (.int ((2 : Nat) : Int)), some (goneD (some b)), none], ?_, ?_⟩ (by rw [List.length_append, List.length_append]; omega) (fun f hm => ?_) (by rw [Dd.opn, ht]; rfl)
    · rw [for_cons]
      rw [show ([] : List D) = ([] : List Fm).map enc from rfl]
      rw [show (D.int 0) = D.int ((0 : Nat) : Int) from rfl, t]
      show forLoop _ _ _ _ _ = _
      rw [for_cons]
      rw [show (D.int 1) = D.int ((1 : Nat) : Int) from rfl, List.nil_append, t2]
      show forLoop _ _ _ _ _ = _
      rw [for_cons]
      rw [show (D.int 2) = D.int ((2 : Nat) : Int) from rfl, t3]
      rfl
    · rfl
    · rcases List.mem_append.mp hm with hm | hm
      · rcases List.mem_append.mp hm with hm | hm
        · exact opn_dp hy f hm
        · exact opn_dp hz f (List.mem_filter.mp hm).1
      · exact opn_dp hw f (List.mem_filter.mp hm).1
end Law

set_option Elab.async false
set_option linter.all false
set_option maxRecDepth 100000
/-! Whole deductions. -/
namespace Law
open PySem PySem.Spec G

def wkD (x : Dd) (n : Int) : D := .tup [.tup [enc x.told, fsD x.opn], .non, .int (n + x.sz)]
def SWk (fw : F1) (x : Dd) : Prop := ∀ (n : Int) (M : Mo), fw [encD x, .int n] M = some (wkD x n, M)
def SUp (fu : F1) : Prop := ∀ (x : Dd) (M : Mo), fu [encD x] M = some (.tup (x.up.map encD), M)
abbrev wBody (fw : F1) : MS := (sSeq (sSet (mCallN 2 fw (mCons (mVar 5) (mCons (mVar 4) mNil))) (gTup 3 (gsCons (gName 6) (gsCons (gName 7) (gsCons (gName 4) gsNil))))) (sSeq (sIf (tru (mUn notNF (mVar 7))) (sRet (mTup (mCons (mC .non) (mCons (mVar 7) (mCons (mVar 4) mNil))))) sNext) (sSeq (sDrop (mMetL appendF (mVar 2) (mCons (mBin atF (mVar 6) (mC (.int 0))) mNil))) (sDrop (mMetL appendF (mVar 3) (mCons (mBin atF (mVar 6) (mC (.int 1))) mNil))))))
theorem wk_turn {fw : F1} {y : Dd} (h : SWk fw y) {v num : D} {b : Int} {lo5 lo6 lo7 : Option D} {ts os : List D} {M : Mo} (ht : ts.length ≤ 100) (ho : os.length ≤ 100) :
    runB (gName 5) (wBody fw) (encD y) [some v, some num, some (.ref M.length), some (.ref (M.length + 1)), some (.int b), lo5, lo6, lo7, none] (M ++ [.lst ts, .lst os]) =
      some (.nx [some v, some num, some (.ref M.length), some (.ref (M.length + 1)), some (.int (b + y.sz)), some (encD y), some (.tup [enc y.told, fsD y.opn]), some .non, none] (M ++ [.lst (ts ++ [enc y.told]), .lst (os ++ [fsD y.opn])])) := by
  have e := h b (M ++ [.lst ts, .lst os])
  unfold wkD at e
  have b1 : ts.length < 16777216 := by omega
  have b2 : os.length < 16777216 := by omega
  simp [e, isLst, seqOf, appendF, b1, b2]
theorem wk_loop {fw : F1} {v num : D} {M : Mo} : ∀ (ys : List Dd) (ts os : List D) (b : Int) (lo5 lo6 lo7 : Option D), (∀ y ∈ ys, SWk fw y) → ts.length + ys.length ≤ 100 → os.length + ys.length ≤ 100 →
    ∃ lo5' lo6' lo7', forLoop (gName 5) (wBody fw) (ys.map encD) [some v, some num, some (.ref M.length), some (.ref (M.length + 1)), some (.int b), lo5, lo6, lo7, none] (M ++ [.lst ts, .lst os]) =
      some (.nx [some v, some num, some (.ref M.length), some (.ref (M.length + 1)), some (.int (b + ((ys.map Dd.sz).sum : Nat))), lo5', lo6', lo7', none] (M ++ [.lst (ts ++ ys.map fun y => enc y.told), .lst (os ++ ys.map fun y => fsD y.opn)]))
  | [], ts, os, b, lo5, lo6, lo7, _, _, _ => ⟨lo5, lo6, lo7, by simp⟩
  | y :: ys, ts, os, b, lo5, lo6, lo7, h, h1, h2 => by
    simp only [List.length_cons] at h1 h2
    have t := wk_turn (h y List.mem_cons_self) (v := v) (num := num) (b := b) (lo5 := lo5) (lo6 := lo6) (lo7 := lo7) (ts := ts) (os := os) (M := M) (by omega) (by omega)
    obtain ⟨a, c, d, e⟩ := wk_loop (v := v) (num := num) (M := M) ys (ts ++ [enc y.told]) (os ++ [fsD y.opn]) (b + y.sz) (some (encD y)) (some (.tup [enc y.told, fsD y.opn])) (some .non) (fun z hz => h z (List.mem_cons_of_mem _ hz)) (by simp; omega) (by simp; omega)
    refine ⟨a, c, d, ?_⟩
    rw [List.map_cons, for_cons, t]
    simp only [e]
    have : b + (y.sz : Int) + ((ys.map Dd.sz).sum : Nat) = b + (((y :: ys).map Dd.sz).sum : Nat) := by simp; omega
    rw [this]
    simp
theorem sz_up (x : Dd) : x.sz = (x.up.map Dd.sz).sum + 1 := by cases x <;> simp [Dd.sz, Dd.up] <;> omega
theorem rt_up {x : Dd} (h : x.rt = true) : ∀ y ∈ x.up, y.rt = true := by
  intro y hy
  cases x <;> simp only [Dd.up, List.mem_cons, List.not_mem_nil, or_false] at hy <;> first
    | exact hy.elim
    | (subst hy; simp only [Dd.rt, Bool.and_eq_true] at h; first | exact h | exact h.1)
    | (simp only [Dd.rt, Bool.and_eq_true] at h; rcases hy with rfl | rfl; (first | exact h.1 | exact h.1.1); (first | exact h.2 | exact h.1.2))
    | (simp only [Dd.rt, Bool.and_eq_true] at h; rcases hy with rfl | rfl | rfl; exact h.1.1.1.1; exact h.1.1.1.2; exact h.1.1.2)
theorem fit_up {x : Dd} (h : x.fit = true) : ∀ y ∈ x.up, y.fit = true := by
  intro y hy
  cases x <;> simp only [Dd.up, List.mem_cons, List.not_mem_nil, or_false] at hy <;> first
    | exact hy.elim
    | (subst hy; simp only [Dd.fit, Bool.and_eq_true] at h; first | exact h.1.1 | exact h.1.1.1)
    | (simp only [Dd.fit, Bool.and_eq_true] at h; rcases hy with rfl | rfl; exact h.1.1.1.1; exact h.1.1.1.2)
    | (simp only [Dd.fit, Bool.and_eq_true] at h; rcases hy with rfl | rfl | rfl; exact h.1.1.1.1.1.1; exact h.1.1.1.1.1.2; exact h.1.1.1.1.2)
theorem ht_up {x y : Dd} (h : y ∈ x.up) : y.ht < x.ht := by
  cases x <;> simp only [Dd.up, List.mem_cons, List.not_mem_nil, or_false] at h <;> first
    | exact h.elim
    | (subst h; simp only [Dd.ht]; omega)
    | (rcases h with rfl | rfl <;> simp only [Dd.ht] <;> omega)
    | (rcases h with rfl | rfl | rfl <;> simp only [Dd.ht] <;> omega)
theorem up_len (x : Dd) : x.up.length ≤ 3 := by cases x <;> simp [Dd.up]
def SOp (fo : F1) : Prop := ∀ (x : Dd) (n m : Nat) (M : Mo), x.rt = true → x.fit = true → M[n]? = some (.lst (x.up.map fun y => enc y.told)) → M[m]? = some (.lst (x.up.map fun y => fsD y.opn)) → fo [encD x, .ref n, .ref m] M = some (fsD x.opn, M)
def SRs (fr : F1) : Prop := ∀ (x : Dd) (n : Nat) (M : Mo), x.rt = true → x.fit = true → M[n]? = some (.lst (x.up.map fun y => enc y.told)) → fr [encD x, .ref n] M = some (enc x.told, M)
theorem enc_isN (f : Fm) (M : Mo) : isNF [enc f] M = some (.bl false, M) := by cases f <;> rfl
theorem ev_worked {fo fr fu fw : F1} (ho : SOp fo) (hr : SRs fr) (hu : SUp fu) {x : Dd} (h1 : x.rt = true) (h2 : x.fit = true) (ih : ∀ y ∈ x.up, SWk fw y) (n : Int) (M : Mo) : fnF 9 (b_worked_deductions fo fr fu fw) [encD x, .int n] M = some (wkD x n, M) := by
  obtain ⟨a, c, d, e⟩ := wk_loop (fw := fw) (v := encD x) (num := .int n) (M := M) x.up [] [] n none none none ih (by have := up_len x; simp; omega) (by have := up_len x; simp; omega)
  simp only [List.nil_append] at e
  have e1 := hr x M.length (M ++ [.lst (x.up.map fun y => enc y.told), .lst (x.up.map fun y => fsD y.opn)]) h1 h2 (by simp)
  have e2 := ho x M.length (M.length + 1) (M ++ [.lst (x.up.map fun y => enc y.told), .lst (x.up.map fun y => fsD y.opn)]) h1 h2 (by simp) (by simp)
  have e3 : exitF M (wkD x n) (M ++ [.lst (x.up.map fun y => enc y.told), .lst (x.up.map fun y => fsD y.opn)]) = (wkD x n, M) := exit_dat (by simp [wkD, D.dat, D.dats])
  have hz : n + (((x.up.map Dd.sz).sum : Nat) : Int) + 1 = n + (x.sz : Int) := by rw [sz_up x]; push_cast; omega
  unfold wkD at e3 ⊢
  simp [fnF, b_worked_deductions, hu x, e, e1, e2, enc_isN, hz, e3]
theorem ev_told {fw : F1} {x : Dd} (h : SWk fw x) (M : Mo) : fnF 1 (b_told_by fw) [encD x] M = some (.tup [enc x.told, fsD x.opn], M) := by
  have e := h 0 M
  unfold wkD at e
  simp [fnF, b_told_by, e]
end Law

set_option Elab.async false
set_option linter.all false
set_option maxRecDepth 100000
/-! Forms, faults, sizes of deductions. -/
namespace Law
open PySem PySem.Spec G

theorem ev_whole (i : Int) (M : Mo) : fnF 1 b_is_whole [.int i] M = some (.bl true, M) := by simp [fnF, b_is_whole]
theorem ev_from {fw : F1} (h : ∀ i M, fw [.int i] M = some (.bl true, M)) (i a b : Int) (M : Mo) : fnF 3 (b_is_from fw) [.int i, .int a, .int b] M = some (.bl (decide (a ≤ i) && decide (i ≤ b)), M) := by
  by_cases h1 : a ≤ i <;> simp [fnF, b_is_from, h, h1]
/-- fs of the formulas that q allows -/
def SShp (fs : F1) (q : Fm → Prop) : Prop := ∀ (f : Fm) (d : Nat) (M : Mo), q f → f.ok = true → f.dp ≤ d + 1 → fs [enc f, .int (d : Int)] M = some (.bl true, M)
theorem ninT_op (o : Op) (M : Mo) : ninF [.str o.w, g_PAIRS] M = some (.bl false, M) := by
  unfold g_PAIRS
  rw [ev_ninT (by rw [D.dat]; exact Op.w_dat o) (by simp [D.dats, D.dat]) (by simp [D.dep]) (by simp [D.dep, D.deps])]
  cases o <;> simp [Op.w]
theorem ev_shape {fs ff : F1} (hf : ∀ i a b M, ff [.int i, .int a, .int b] M = some (.bl (decide (a ≤ i) && decide (i ≤ b)), M)) {q : Fm → Prop} (hs : SShp fs q) (f : Fm) (d : Nat) (M : Mo) (ho : f.ok = true) (hd : f.dp ≤ d + 1) (hq : ∀ o a b, f = .bin o a b → q a ∧ q b) :
    fnF 2 (b_has_shape fs ff) [enc f, .int (d : Int)] M = some (.bl true, M) := by
  cases f with
  | lt n =>
    have hn : n < 4 := by simpa [Fm.ok] using ho
    have h2 : (n : Int) ≤ 3 := by omega
    simp [fnF, b_has_shape, enc, hf, g_LETTERS_formulas, h2]
  | fls => simp [fnF, b_has_shape, enc]
  | bin o a b =>
    obtain ⟨qa, qb⟩ := hq o a b rfl
    simp only [Fm.ok, Bool.and_eq_true] at ho
    rw [Fm.dp] at hd
    have ha := dp_pos a
    obtain ⟨e, rfl⟩ : ∃ e, d = e + 1 := ⟨d - 1, by omega⟩
    have h1 := fun M => hs a e M qa ho.1 (by omega)
    have h2 := fun M => hs b e M qb ho.2 (by omega)
    have n := ninT_op o M
    have w := Op.w_ne o
    have z : ¬ ((e : Int) + 1 = 0) := by omega
    cases o <;> simp only [Op.w] at n w <;> simp [fnF, b_has_shape, enc, Op.w, n, h1, h2, z]
where
  dp_pos : ∀ f : Fm, 1 ≤ f.dp
    | .lt _ => Nat.le_refl _
    | .fls => Nat.le_refl _
    | .bin _ _ _ => by rw [Fm.dp]; omega
namespace Dd
/-- its formulas are well made, not deep -/
def okf : Dd → Bool
  | .asm f => f.ok && decide (f.dp ≤ 15)
  | .ifin f x => f.ok && decide (f.dp ≤ 15) && x.okf
  | .ifout x y => x.okf && y.okf
  | .andin x y => x.okf && y.okf
  | .ando _ x => x.okf
  | .orin _ f x => f.ok && decide (f.dp ≤ 15) && x.okf
  | .orout x y z => x.okf && y.okf && z.okf
  | .fout f x => f.ok && decide (f.dp ≤ 15) && x.okf
  | .contra f x => f.ok && decide (f.dp ≤ 15) && x.okf
end Dd
theorem okf_up {x : Dd} (h : x.okf = true) : ∀ y ∈ x.up, y.okf = true := by
  intro y hy
  cases x <;> simp only [Dd.up, List.mem_cons, List.not_mem_nil, or_false] at hy <;> first
    | exact hy.elim
    | (subst hy; simp only [Dd.okf, Bool.and_eq_true] at h; first | exact h | exact h.2)
    | (simp only [Dd.okf, Bool.and_eq_true] at h; rcases hy with rfl | rfl; exact h.1; exact h.2)
    | (simp only [Dd.okf, Bool.and_eq_true] at h; rcases hy with rfl | rfl | rfl; exact h.1.1; exact h.1.2; exact h.2)
def SFrm (fh : F1) (y : Dd) : Prop := ∀ (d : Nat) (M : Mo), y.ht < d → fh [encD y, .int (d : Int)] M = some (.bl true, M)
theorem all_true (n : Nat) : boolsOf ((List.replicate n true).map D.bl) = some (List.replicate n true) := by
  induction n with
  | zero => rfl
  | succ n ih => rw [List.replicate_succ, List.map_cons, boolsOf, ih]
theorem all_rep (n : Nat) (M : Mo) : allF [.lst ((List.replicate n true).map D.bl)] M = some (.bl true, M) := by
  unfold allF
  show (match boolsOf ((List.replicate n true).map D.bl) with | some bs => some (D.bl (bs.all id), M) | none => none) = _
  rw [all_true]
  simp
theorem comp_const {g : MG} {m : ME} {vs : List Nat} {lo : Lo} {M : Mo} {α : Type} {ei : α → D} {v : D} : ∀ (xs : List α), (∀ x ∈ xs, ∃ lo1, g (ei x) (wipeD lo vs) M = some (lo1, M) ∧ m lo1 M = some (v, M)) → compLoop g tTrue m vs (xs.map ei) lo M = some (List.replicate xs.length v, M)
  | xs, h => by
    have := comp_map (g := g) (m := m) (vs := vs) (lo := lo) (M := M) (ei := ei) (eo := fun _ : Unit => v) (f := fun _ => ()) xs h
    rw [this]
    congr 2
    rw [List.map_map]
    exact List.map_const' (l := xs) (b := v)
theorem ev_form {fh fs : F1} (hs : ∀ f M, f.ok = true → f.dp ≤ 15 → fs [enc f, .int 14] M = some (.bl true, M)) {x : Dd} (ho : x.okf = true) (ih : ∀ y ∈ x.up, SFrm fh y) (d : Nat) (M : Mo) (hd : x.ht < d) : fnF 5 (b_has_form_deductions fh fs) [encD x, .int (d : Int)] M = some (.bl true, M) := by
  obtain ⟨e, rfl⟩ : ∃ e, d = e + 1 := ⟨d - 1, by omega⟩
  have z : ¬ ((e : Int) + 1 = 0) := by omega
  have key : ∀ (lo : Lo), lo.length = 5 → lo[1]? = some (some (.int ((e : Int) + 1))) → compLoop (gName 4) tTrue (mCallN 2 fh (mCons (mVar 4) (mCons (mBin subF (mVar 1) (mC (.int 1))) mNil))) [4] (x.up.map encD) lo M = some (List.replicate x.up.length (.bl true), M) := fun lo hl h1 => by
    refine comp_const x.up fun y hy => ?_
    have i := ih y hy e M (by have := ht_up hy; omega)
    refine ⟨(wipeD lo [4]).set 4 (some (encD y)), rfl, ?_⟩
    have a4 : ((wipeD lo [4]).set 4 (some (encD y)))[4]? = some (some (encD y)) := by rw [List.getElem?_set_self]; simp [wipeD, hl]
    have a1 : ((wipeD lo [4]).set 4 (some (encD y)))[1]? = some (some (.int ((e : Int) + 1))) := by
      rw [List.getElem?_set_ne (by omega)]
      simp only [wipeD]
      rw [List.getElem?_set_ne (by omega)]
      exact h1
    have s1 : (e : Int) + 1 - 1 = e := by omega
    simp [a4, a1, s1, i]
  have al := fun n => all_rep n M
  simp only [List.map_replicate] at al
  have lk : ∀ (w : String) (d : D), k_SIZES_deductions.lookup (Str.ofString w) = some d → k_SIZES_deductions.lookup (Str.ofString w) = some d := fun _ _ h => h
  cases x with
  | asm f =>
    simp only [Dd.okf, Bool.and_eq_true, decide_eq_true_eq] at ho
    have hs' := hs f M ho.1 ho.2
    have k := key [some (encD (.asm f)), some (.int ((e : Int) + 1)), some (.int 1), some (.int 0), none] rfl rfl
    simp [Dd.up, encD, List.replicate] at k
    simp [fnF, b_has_form_deductions, encD, k_SIZES_deductions, List.lookup, seqOf, z, g_DEEPEST_formulas, hs', k, allF, boolsOf]
  | ifin f x =>
    simp only [Dd.okf, Bool.and_eq_true, decide_eq_true_eq] at ho
    have hs' := hs f M ho.1.1 ho.1.2
    have k := key [some (encD (.ifin f x)), some (.int ((e : Int) + 1)), some (.int 1), some (.int 1), none] rfl rfl
    simp [Dd.up, encD, List.replicate] at k
    simp [fnF, b_has_form_deductions, encD, k_SIZES_deductions, List.lookup, seqOf, z, g_DEEPEST_formulas, hs', k, allF, boolsOf]
  | ifout x y =>
    have hs' := True.intro
    have k := key [some (encD (.ifout x y)), some (.int ((e : Int) + 1)), some (.int 0), some (.int 2), none] rfl rfl
    simp [Dd.up, encD, List.replicate] at k
    simp [fnF, b_has_form_deductions, encD, k_SIZES_deductions, List.lookup, seqOf, z, g_DEEPEST_formulas, hs', k, allF, boolsOf]
  | andin x y =>
    have hs' := True.intro
    have k := key [some (encD (.andin x y)), some (.int ((e : Int) + 1)), some (.int 0), some (.int 2), none] rfl rfl
    simp [Dd.up, encD, List.replicate] at k
    simp [fnF, b_has_form_deductions, encD, k_SIZES_deductions, List.lookup, seqOf, z, g_DEEPEST_formulas, hs', k, allF, boolsOf]
  | ando b x =>
    cases b
    · have hs' := True.intro
      have k := key [some (encD (.ando false x)), some (.int ((e : Int) + 1)), some (.int 0), some (.int 1), none] rfl rfl
      simp [Dd.up, encD, List.replicate] at k
      simp [fnF, b_has_form_deductions, encD, k_SIZES_deductions, List.lookup, seqOf, z, g_DEEPEST_formulas, hs', k, allF, boolsOf]
    · have hs' := True.intro
      have k := key [some (encD (.ando true x)), some (.int ((e : Int) + 1)), some (.int 0), some (.int 1), none] rfl rfl
      simp [Dd.up, encD, List.replicate] at k
      simp [fnF, b_has_form_deductions, encD, k_SIZES_deductions, List.lookup, seqOf, z, g_DEEPEST_formulas, hs', k, allF, boolsOf]
  | orin b f x =>
    cases b
    · simp only [Dd.okf, Bool.and_eq_true, decide_eq_true_eq] at ho
      have hs' := hs f M ho.1.1 ho.1.2
      have k := key [some (encD (.orin false f x)), some (.int ((e : Int) + 1)), some (.int 1), some (.int 1), none] rfl rfl
      simp [Dd.up, encD, List.replicate] at k
      simp [fnF, b_has_form_deductions, encD, k_SIZES_deductions, List.lookup, seqOf, z, g_DEEPEST_formulas, hs', k, allF, boolsOf]
    · simp only [Dd.okf, Bool.and_eq_true, decide_eq_true_eq] at ho
      have hs' := hs f M ho.1.1 ho.1.2
      have k := key [some (encD (.orin true f x)), some (.int ((e : Int) + 1)), some (.int 1), some (.int 1), none] rfl rfl
      simp [Dd.up, encD, List.replicate] at k
      simp [fnF, b_has_form_deductions, encD, k_SIZES_deductions, List.lookup, seqOf, z, g_DEEPEST_formulas, hs', k, allF, boolsOf]
  | orout x y w =>
    have hs' := True.intro
    have k := key [some (encD (.orout x y w)), some (.int ((e : Int) + 1)), some (.int 0), some (.int 3), none] rfl rfl
    simp [Dd.up, encD, List.replicate] at k
    simp [fnF, b_has_form_deductions, encD, k_SIZES_deductions, List.lookup, seqOf, z, g_DEEPEST_formulas, hs', k, allF, boolsOf]
  | fout f x =>
    simp only [Dd.okf, Bool.and_eq_true, decide_eq_true_eq] at ho
    have hs' := hs f M ho.1.1 ho.1.2
    have k := key [some (encD (.fout f x)), some (.int ((e : Int) + 1)), some (.int 1), some (.int 1), none] rfl rfl
    simp [Dd.up, encD, List.replicate] at k
    simp [fnF, b_has_form_deductions, encD, k_SIZES_deductions, List.lookup, seqOf, z, g_DEEPEST_formulas, hs', k, allF, boolsOf]
  | contra f x =>
    simp only [Dd.okf, Bool.and_eq_true, decide_eq_true_eq] at ho
    have hs' := hs f M ho.1.1 ho.1.2
    have k := key [some (encD (.contra f x)), some (.int ((e : Int) + 1)), some (.int 1), some (.int 1), none] rfl rfl
    simp [Dd.up, encD, List.replicate] at k
    simp [fnF, b_has_form_deductions, encD, k_SIZES_deductions, List.lookup, seqOf, z, g_DEEPEST_formulas, hs', k, allF, boolsOf]
theorem encs_deps {fs : List Fm} {n : Nat} (h : ∀ f ∈ fs, f.dp ≤ n) : D.deps (fs.map enc) ≤ n := by
  induction fs with
  | nil => simp [D.deps]
  | cons f fs ih =>
    rw [List.map_cons, D.deps, enc_dep]
    have h1 := h f List.mem_cons_self
    have h2 := ih fun g hg => h g (List.mem_cons_of_mem _ hg)
    omega
theorem mem_encs {f : Fm} {fs : List Fm} : enc f ∈ fs.map enc ↔ f ∈ fs := by
  rw [List.mem_map]
  constructor
  · rintro ⟨g, hg, e⟩
    rw [← (enc_inj g f).mp e]
    exact hg
  · exact fun h => ⟨f, h, rfl⟩
theorem nin_fs {f : Fm} {fs : List Fm} {M : Mo} (h1 : f.dp ≤ 64) (h2 : ∀ g ∈ fs, g.dp ≤ 63) : ninF [enc f, fsD fs] M = some (.bl (!decide (f ∈ fs)), M) := by
  rw [ev_ninT (enc_dat f) (encs_dat fs) (by rw [enc_dep]; exact h1) (encs_deps h2)]
  simp [mem_encs]
theorem in_fs {f : Fm} {fs : List Fm} {M : Mo} (h1 : f.dp ≤ 64) (h2 : ∀ g ∈ fs, g.dp ≤ 63) : inF [enc f, fsD fs] M = some (.bl (decide (f ∈ fs)), M) := by
  rw [ev_inT (enc_dat f) (encs_dat fs) (by rw [enc_dep]; exact h1) (encs_deps h2)]
  simp [mem_encs]
/-- what is left open -/
def leftO (x : Dd) (fs : List Fm) : List Fm := x.opn.filter fun f => !decide (f ∈ fs)
def faultD (x : Dd) (fs : List Fm) (g : Fm) : D := if x.told ≠ g then .tup [.str "goal", .int 0] else if leftO x fs = [] then .non else .tup [.str "open", .int (leftO x fs).length]
/-- told from formulas -/
theorem ev_fault {fh fw : F1} {x : Dd} (hf : x.fit = true) (hh : ∀ M, fh [encD x, .int 300] M = some (.bl true, M)) (hw : SWk fw x) {fs : List Fm} {g : Fm} (hfs : ∀ f ∈ fs, f.dp ≤ 63) (hg : x.told.dp ≤ 64) (hg2 : g.dp ≤ 64) (M : Mo) :
    fnF 8 (b_deduction_fault fh fw) [fsD fs, enc g, encD x] M = some (faultD x fs g, M) := by
  have e := hw 0 M
  unfold wkD at e
  have n := ev_nef (M := M) hg hg2
  have c := comp_typed (g := gName 7) (c := tru (mBin ninF (mVar 7) (mVar 0))) (m := mVar 7) (vs := [7]) (lo := [some (fsD fs), some (enc g), some (encD x), some (.tup [enc x.told, fsD x.opn]), some .non, some (.int (0 + (x.sz : Int))), none, none]) (M := M) (ei := enc) (eo := enc) (p := fun f => !decide (f ∈ fs)) (f := id) x.opn fun f hf' => by
    refine ⟨_, rfl, ?_, fun _ => rfl⟩
    have := nin_fs (M := M) (f := f) (fs := fs) (by have := opn_dp hf f hf'; omega) hfs
    simp [wipeD, this]
  simp only [List.map_id_fun, id_eq] at c
  have hl : x.opn.length ≤ 16777216 := by have := opn_len hf; omega
  simp at c
  unfold faultD
  by_cases h1 : x.told = g
  · subst h1
    rw [if_neg (by simp)]
    have ll : (x.opn.filter fun f => !decide (f ∈ fs)) = leftO x fs := rfl
    rw [ll] at c
    by_cases h2 : leftO x fs = []
    · rw [if_pos h2]
      rw [h2] at c
      simp [fnF, b_deduction_fault, g_DEEPEST_PROOF_deductions, hh, e, n, hl, c]
    · rw [if_neg h2]
      have h3 : 0 < (leftO x fs).length := List.length_pos_iff.mpr h2
      simp [fnF, b_deduction_fault, g_DEEPEST_PROOF_deductions, hh, e, n, hl, c, h3]
  · rw [if_pos h1]
    simp [fnF, b_deduction_fault, g_DEEPEST_PROOF_deductions, hh, e, n, h1]
/-! ### sizes, plain ones -/
theorem ev_size {fs fu : F1} (hu : SUp fu) {x : Dd} (ih : ∀ y ∈ x.up, ∀ M, fs [encD y] M = some (.int y.sz, M)) (M : Mo) : fnF 2 (b_size fs fu) [encD x] M = some (.int x.sz, M) := by
  have c := comp_map (g := gName 1) (m := mCallN 1 fs (mCons (mVar 1) mNil)) (vs := [1]) (lo := [some (encD x), none]) (M := M) (ei := encD) (eo := D.int) (f := fun y => (y.sz : Int)) x.up fun y hy => ⟨_, rfl, by simp [wipeD, ih y hy]⟩
  have hl : x.up.length ≤ 16777216 := by have := up_len x; omega
  have s : sumF [.lst ((x.up.map fun y => (y.sz : Int)).map D.int)] M = some (.int (x.up.map fun y => (y.sz : Int)).sum, M) := by
    unfold sumF
    show (match intsOf ((x.up.map fun y => (y.sz : Int)).map D.int) with | some ns => some (D.int ns.sum, M) | none => none) = _
    rw [intsOf_map]
  have hz : (1 : Int) + (x.up.map fun y => (y.sz : Int)).sum = x.sz := by
    rw [sz_up x]
    have : ∀ l : List Dd, (l.map fun y => (y.sz : Int)).sum = ((l.map Dd.sz).sum : Nat) := fun l => by
      induction l with
      | nil => rfl
      | cons a l ih => simp only [List.map_cons, List.sum_cons, ih]; push_cast; rfl
    rw [this]
    push_cast
    omega
  have e := hu x M
  simp only [List.map_map] at c s
  simp [fnF, b_size, e, hl, c, s, hz]
namespace Dd
def pln : Dd → Bool
  | .asm _ => true
  | .ifin _ x => x.pln
  | .ifout x y => x.pln && y.pln
  | .andin x y => x.pln && y.pln
  | .ando _ x => x.pln
  | .orin _ _ x => x.pln
  | .orout x y z => x.pln && (y.pln && z.pln)
  | .fout _ x => x.pln
  | .contra _ _ => false
end Dd
theorem ev_plain {fp fu : F1} (hu : SUp fu) {x : Dd} (ih : ∀ y ∈ x.up, ∀ M, fp [encD y] M = some (.bl y.pln, M)) (M : Mo) : fnF 2 (b_is_plain fp fu) [encD x] M = some (.bl x.pln, M) := by
  have c := comp_map (g := gName 1) (m := mCallN 1 fp (mCons (mVar 1) mNil)) (vs := [1]) (lo := [some (encD x), none]) (M := M) (ei := encD) (eo := D.bl) (f := Dd.pln) x.up fun y hy => ⟨_, rfl, by simp [wipeD, ih y hy]⟩
  have e := hu x M
  cases x with
  | ando b x => cases b <;> simp [Dd.up, encD] at c e <;> simp [fnF, b_is_plain, encD, e, c, Dd.up, allF, boolsOf, Dd.pln, seqOf]
  | orin b f x => cases b <;> simp [Dd.up, encD] at c e <;> simp [fnF, b_is_plain, encD, e, c, Dd.up, allF, boolsOf, Dd.pln, seqOf]
  | _ => simp [Dd.up, encD] at c e <;> simp [fnF, b_is_plain, encD, e, c, Dd.up, allF, boolsOf, Dd.pln, seqOf]
end Law

set_option Elab.async false
set_option linter.all false
set_option maxRecDepth 100000
/-! doubles.py. -/
namespace Law
open PySem PySem.Spec G

abbrev no (f : Fm) : Fm := .bin .imp f .fls
def SCon (fc : F1) : Prop := ∀ f M, fc [enc f] M = some (enc (no f), M)
theorem ev_contrary_ (f : Fm) (M : Mo) : fnF 1 b_contrary [enc f] M = some (enc (no f), M) := by
  simp [fnF, b_contrary, fls_enc, enc_imp]
namespace Dd
abbrev deny (f : Fm) (x : Dd) : Dd := .ifin (no f) x
abbrev clash (f : Fm) (x : Dd) : Dd := .ifout (.asm (no f)) x
abbrev take (t : Dd) (f : Fm) (r : Dd) : Dd := .ifout t (.ifin f r)
/-- the formula behind if -/
def endOf : Fm → Fm
  | .bin _ _ b => b
  | f => f
def dbl : Dd → Dd
  | .asm f => deny f (clash f (.asm f))
  | .ifin f x => deny (.bin .imp f x.told) (clash (.bin .imp f x.told) (.ifin f (.fout x.told (.ifout x.dbl (.ifin x.told (clash (.bin .imp f x.told) (.ifin f (.asm x.told))))))))
  | .ifout x y => deny (ifout x y).told (take x.dbl x.told (take y.dbl y.told (clash (ifout x y).told (.ifout (.asm x.told) (.asm y.told)))))
  | .andin x y => deny (andin x y).told (take x.dbl x.told (take y.dbl y.told (clash (andin x y).told (.andin (.asm x.told) (.asm y.told)))))
  | .ando k x => deny (ando k x).told (take x.dbl x.told (clash (ando k x).told (.ando k (.asm x.told))))
  | .orin k f x => deny (orin k f x).told (take x.dbl x.told (clash (orin k f x).told (.orin k f (.asm x.told))))
  | .orout x y z => deny y.told (take x.dbl x.told (.orout (.asm x.told) (.ifout y.dbl (.asm (no y.told))) (.ifout z.dbl (.asm (no y.told)))))
  | .fout f x => deny f (.ifout x.dbl (.ifin .fls (.asm .fls)))
  | .contra f x => deny f (.ifout x.dbl (.ifin .fls (.asm .fls)))
end Dd
def SDen (fd : F1) : Prop := ∀ f d M, fd [enc f, d] M = some (.tup [.str "ifin", enc (no f), d], M)
def SCla (fc : F1) : Prop := ∀ f d M, fc [enc f, d] M = some (.tup [.str "ifout", .tup [.str "assume", enc (no f)], d], M)
def STak (ft : F1) : Prop := ∀ a f d M, ft [a, enc f, d] M = some (.tup [.str "ifout", a, .tup [.str "ifin", enc f, d]], M)
theorem ev_denied {fc : F1} (hc : SCon fc) : SDen (fnF 2 (b_denied fc)) := fun f d M => by simp [fnF, b_denied, hc f]
theorem ev_clash {fc : F1} (hc : SCon fc) : SCla (fnF 2 (b_clash_doubles fc)) := fun f d M => by simp [fnF, b_clash_doubles, hc f]
theorem ev_taken : STak (fnF 3 b_taken) := fun a f d M => by simp [fnF, b_taken]
theorem ev_twice {fc : F1} (hc : SCon fc) (f : Fm) (M : Mo) : fnF 1 (b_twice fc) [enc f] M = some (enc (no (no f)), M) := by simp [fnF, b_twice, hc f, hc (no f)]
def STld (ft : F1) (x : Dd) : Prop := ∀ M, ft [encD x] M = some (.tup [enc x.told, fsD x.opn], M)
theorem ev_doubled {fcl fc fd fdb ft ftl fu : F1} (hcl : SCla fcl) (hc : SCon fc) (hd : SDen fd) (ht : STak ft) (hu : SUp fu) {x : Dd} (hr : x.rt = true) (htx : STld ftl x) (htu : ∀ y ∈ x.up, STld ftl y) (ih : ∀ y ∈ x.up, ∀ M, fdb [encD y] M = some (encD y.dbl, M)) (M : Mo) :
    fnF 11 (b_doubled fcl fc fd fdb ft ftl fu) [encD x] M = some (encD x.dbl, M) := by
  have Hcl : ∀ f d, fcl [enc f, d] M = some (.tup [.str "ifout", .tup [.str "assume", enc (no f)], d], M) := fun f d => hcl f d M
  have Hd : ∀ f d, fd [enc f, d] M = some (.tup [.str "ifin", enc (no f), d], M) := fun f d => hd f d M
  have Ht : ∀ a f d, ft [a, enc f, d] M = some (.tup [.str "ifout", a, .tup [.str "ifin", enc f, d]], M) := fun a f d => ht a f d M
  have e := hu x M
  have t := htx M
  have hl : x.up.length ≤ 16777216 := by have := up_len x; omega
  have c1 : ∀ lo : Lo, lo.length = 11 → compLoop (gName 10) tTrue (mCallN 1 fdb (mCons (mVar 10) mNil)) [10] (x.up.map encD) lo M = some (x.up.map fun y => encD y.dbl, M) := fun lo h => by
    have := comp_map (g := gName 10) (m := mCallN 1 fdb (mCons (mVar 10) mNil)) (vs := [10]) (lo := lo) (M := M) (ei := encD) (eo := encD) (f := Dd.dbl) x.up fun y hy => ⟨_, rfl, by
      have a : ((wipeD lo [10]).set 10 (some (encD y)))[10]? = some (some (encD y)) := by rw [List.getElem?_set_self]; simp [wipeD, h]
      simp [a, ih y hy]⟩
    rw [this, List.map_map]
    rfl
  have c2 : ∀ lo : Lo, lo.length = 11 → compLoop (gName 10) tTrue (mBin atF (mCallN 1 ftl (mCons (mVar 10) mNil)) (mC (.int 0))) [10] (x.up.map encD) lo M = some (x.up.map fun y => enc y.told, M) := fun lo h => by
    have := comp_map (g := gName 10) (m := mBin atF (mCallN 1 ftl (mCons (mVar 10) mNil)) (mC (.int 0))) (vs := [10]) (lo := lo) (M := M) (ei := encD) (eo := enc) (f := Dd.told) x.up fun y hy => ⟨_, rfl, by
      have a : ((wipeD lo [10]).set 10 (some (encD y)))[10]? = some (some (encD y)) := by rw [List.getElem?_set_self]; simp [wipeD, h]
      simp [a, htu y hy M]⟩
    rw [this, List.map_map]
    rfl
  cases x with
  | asm f => simp [encD, Dd.up, Dd.told, Dd.opn] at e t c1 c2 <;> simp [fnF, b_doubled, encD, e, t, hcl f, hd f, Dd.dbl]
  | ifin f x =>
    simp [encD, Dd.up, Dd.told] at e t
    have k1 := c1 [some (encD (.ifin f x)), some (.str "ifin"), some (enc (.bin .imp f x.told)), none, none, none, none, none, none, none, none] rfl
    have k2 := c2 [some (encD (.ifin f x)), some (.str "ifin"), some (enc (.bin .imp f x.told)), some (.lst [encD x.dbl]), none, none, none, none, none, none, none] rfl
    simp [encD, Dd.up, enc_imp] at k1 k2
    simp [enc_imp] at t
    have h1 := hcl (.bin .imp f x.told)
    have h2 := hd (.bin .imp f x.told)
    simp [enc_imp] at h1 h2
    simp [fnF, b_doubled, encD, e, t, k1, k2, h1, h2, Dd.dbl, enc_imp]
  | ifout x y =>
    generalize hh : (Dd.ifout x y).told = h at t
    simp [encD, Dd.up] at e t
    have k1 := c1 [some (encD (Dd.ifout x y)), some (.str "ifout"), some (enc h), none, none, none, none, none, none, none, none] rfl
    have k2 := c2 [some (encD (Dd.ifout x y)), some (.str "ifout"), some (enc h), some (.lst [encD x.dbl, encD y.dbl]), none, none, none, none, none, none, none] rfl
    simp [encD, Dd.up] at k1 k2
    simp [fnF, b_doubled, encD, e, t, k1, k2, Hcl, Hd, Ht, Dd.dbl, hh, inT_words]
  | andin x y =>
    generalize hh : (Dd.andin x y).told = h at t
    simp [encD, Dd.up] at e t
    have k1 := c1 [some (encD (Dd.andin x y)), some (.str "andin"), some (enc h), none, none, none, none, none, none, none, none] rfl
    have k2 := c2 [some (encD (Dd.andin x y)), some (.str "andin"), some (enc h), some (.lst [encD x.dbl, encD y.dbl]), none, none, none, none, none, none, none] rfl
    simp [encD, Dd.up] at k1 k2
    simp [fnF, b_doubled, encD, e, t, k1, k2, Hcl, Hd, Ht, Dd.dbl, hh, inT_words]
  | ando b x =>
    cases b
    · generalize hh : (Dd.ando false x).told = h at t
      simp [encD, Dd.up] at e t
      have k1 := c1 [some (encD (Dd.ando false x)), some (.str "andout1"), some (enc h), none, none, none, none, none, none, none, none] rfl
      have k2 := c2 [some (encD (Dd.ando false x)), some (.str "andout1"), some (enc h), some (.lst [encD x.dbl]), none, none, none, none, none, none, none] rfl
      simp [encD, Dd.up] at k1 k2
      simp [fnF, b_doubled, encD, e, t, k1, k2, Hcl, Hd, Ht, Dd.dbl, hh, inT_words]
    · generalize hh : (Dd.ando true x).told = h at t
      simp [encD, Dd.up] at e t
      have k1 := c1 [some (encD (Dd.ando true x)), some (.str "andout2"), some (enc h), none, none, none, none, none, none, none, none] rfl
      have k2 := c2 [some (encD (Dd.ando true x)), some (.str "andout2"), some (enc h), some (.lst [encD x.dbl]), none, none, none, none, none, none, none] rfl
      simp [encD, Dd.up] at k1 k2
      simp [fnF, b_doubled, encD, e, t, k1, k2, Hcl, Hd, Ht, Dd.dbl, hh, inT_words]
  | orin b f x =>
    cases b
    · generalize hh : (Dd.orin false f x).told = h at t
      simp [encD, Dd.up] at e t
      have k1 := c1 [some (encD (Dd.orin false f x)), some (.str "orin1"), some (enc h), none, none, none, none, none, none, none, none] rfl
      have k2 := c2 [some (encD (Dd.orin false f x)), some (.str "orin1"), some (enc h), some (.lst [encD x.dbl]), none, none, none, none, none, none, none] rfl
      simp [encD, Dd.up] at k1 k2
      simp [fnF, b_doubled, encD, e, t, k1, k2, Hcl, Hd, Ht, Dd.dbl, hh, inT_words]
    · generalize hh : (Dd.orin true f x).told = h at t
      simp [encD, Dd.up] at e t
      have k1 := c1 [some (encD (Dd.orin true f x)), some (.str "orin2"), some (enc h), none, none, none, none, none, none, none, none] rfl
      have k2 := c2 [some (encD (Dd.orin true f x)), some (.str "orin2"), some (enc h), some (.lst [encD x.dbl]), none, none, none, none, none, none, none] rfl
      simp [encD, Dd.up] at k1 k2
      simp [fnF, b_doubled, encD, e, t, k1, k2, Hcl, Hd, Ht, Dd.dbl, hh, inT_words]
  | orout x y z =>
    have t' : ftl [encD (.orout x y z)] M = some (.tup [enc y.told, fsD (Dd.orout x y z).opn], M) := t
    simp [encD, Dd.up] at e t'
    have k1 := c1 [some (encD (.orout x y z)), some (.str "orout"), some (enc y.told), none, none, none, none, none, none, none, none] rfl
    have k2 := c2 [some (encD (.orout x y z)), some (.str "orout"), some (enc y.told), some (.lst [encD x.dbl, encD y.dbl, encD z.dbl]), none, none, none, none, none, none, none] rfl
    have k3 : compLoop (gName 10) tTrue (mTup (mCons (mC (.str "ifout")) (mCons (mVar 10) (mCons (mTup (mCons (mC (.str "assume")) (mCons (mCallN 1 fc (mCons (mVar 2) mNil)) mNil))) mNil)))) [10] ([y.dbl, z.dbl].map encD) [some (encD (.orout x y z)), some (.str "orout"), some (enc y.told), some (.lst [encD x.dbl, encD y.dbl, encD z.dbl]), some (.lst [enc x.told, enc y.told, enc z.told]), none, none, none, none, none, none] M = some ([y.dbl, z.dbl].map fun w => encD (.ifout w (.asm (no y.told))), M) := by
      have := comp_map (g := gName 10) (m := mTup (mCons (mC (.str "ifout")) (mCons (mVar 10) (mCons (mTup (mCons (mC (.str "assume")) (mCons (mCallN 1 fc (mCons (mVar 2) mNil)) mNil))) mNil)))) (vs := [10]) (lo := [some (encD (.orout x y z)), some (.str "orout"), some (enc y.told), some (.lst [encD x.dbl, encD y.dbl, encD z.dbl]), some (.lst [enc x.told, enc y.told, enc z.told]), none, none, none, none, none, none]) (M := M) (ei := encD) (eo := encD) (f := fun w => Dd.ifout w (.asm (no y.told))) [y.dbl, z.dbl] fun w _ => ⟨_, rfl, by simp [wipeD, hc y.told, encD]⟩
      rw [this, List.map_map]
      rfl
    simp [encD, Dd.up] at k1 k2 k3
    simp [fnF, b_doubled, encD, e, t', k1, k2, k3, Hcl, Hd, Ht, Dd.dbl, inT_words, seqOf]
  | fout f x =>
    have t' : ftl [encD (.fout f x)] M = some (.tup [enc f, fsD (Dd.fout f x).opn], M) := t
    simp [encD, Dd.up] at e t'
    have k1 := c1 [some (encD (.fout f x)), some (.str "falseout"), some (enc f), none, none, none, none, none, none, none, none] rfl
    have k2 := c2 [some (encD (.fout f x)), some (.str "falseout"), some (enc f), some (.lst [encD x.dbl]), none, none, none, none, none, none, none] rfl
    simp [encD, Dd.up] at k1 k2
    simp [fnF, b_doubled, encD, e, t', k1, k2, Hcl, Hd, Ht, Dd.dbl, inT_words, fls_enc]
  | contra f x =>
    have t' : ftl [encD (.contra f x)] M = some (.tup [enc f, fsD (Dd.contra f x).opn], M) := t
    simp [encD, Dd.up] at e t'
    have k1 := c1 [some (encD (.contra f x)), some (.str "contra"), some (enc f), none, none, none, none, none, none, none, none] rfl
    have k2 := c2 [some (encD (.contra f x)), some (.str "contra"), some (enc f), some (.lst [encD x.dbl]), none, none, none, none, none, none, none] rfl
    simp [encD, Dd.up] at k1 k2
    simp [fnF, b_doubled, encD, e, t', k1, k2, Hcl, Hd, Ht, Dd.dbl, inT_words, fls_enc]
end Law

set_option Elab.async false
set_option linter.all false
set_option maxRecDepth 100000
/-! Denied twice: plain. -/
namespace Law
open PySem PySem.Spec G

theorem o_asm {f g : Fm} : g ∈ (Dd.asm f).opn ↔ g = f := by simp [Dd.opn]
theorem o_ifin {f g : Fm} {x : Dd} : g ∈ (Dd.ifin f x).opn ↔ g ∈ x.opn ∧ g ≠ f := by rw [Dd.opn, mem_canon, mem_without]
theorem o_ifout {g : Fm} {x y : Dd} : g ∈ (Dd.ifout x y).opn ↔ g ∈ x.opn ∨ g ∈ y.opn := by rw [Dd.opn, mem_canon, List.mem_append]
theorem o_andin {g : Fm} {x y : Dd} : g ∈ (Dd.andin x y).opn ↔ g ∈ x.opn ∨ g ∈ y.opn := by rw [Dd.opn, mem_canon, List.mem_append]
theorem o_ando {g : Fm} {k : Bool} {x : Dd} : g ∈ (Dd.ando k x).opn ↔ g ∈ x.opn := by rw [Dd.opn, mem_canon]
theorem o_orin {f g : Fm} {k : Bool} {x : Dd} : g ∈ (Dd.orin k f x).opn ↔ g ∈ x.opn := by rw [Dd.opn, mem_canon]
theorem o_orout {g : Fm} {o : Op} {a b : Fm} {x y z : Dd} (h : x.told = .bin o a b) : g ∈ (Dd.orout x y z).opn ↔ g ∈ x.opn ∨ (g ∈ y.opn ∧ g ≠ a) ∨ (g ∈ z.opn ∧ g ≠ b) := by
  rw [Dd.opn, h]
  simp only [mem_canon, List.mem_append, mem_without]
  constructor
  · rintro ((h | h) | h)
    · exact .inl h
    · exact .inr (.inl h)
    · exact .inr (.inr h)
  · rintro (h | h | h)
    · exact .inl (.inl h)
    · exact .inl (.inr h)
    · exact .inr h
theorem o_fout {f g : Fm} {x : Dd} : g ∈ (Dd.fout f x).opn ↔ g ∈ x.opn := by rw [Dd.opn, mem_canon]
theorem o_contra {f g : Fm} {x : Dd} : g ∈ (Dd.contra f x).opn ↔ g ∈ x.opn ∧ g ≠ no f := by rw [Dd.opn, mem_canon, mem_without]
theorem t_ifout {x y : Dd} {a b : Fm} (h : x.told = .bin .imp a b) : (Dd.ifout x y).told = b := by rw [Dd.told, h]
theorem t_clash {f : Fm} {x : Dd} : (Dd.clash f x).told = .fls := by simp [Dd.told]
theorem t_take {t r : Dd} {f : Fm} (h : t.told = no (no f)) : (Dd.take t f r).told = .fls := t_ifout h
theorem dbl_told {x : Dd} (h : x.rt = true) : x.dbl.told = no (no x.told) := by
  induction x with
  | asm f => simp [Dd.dbl, Dd.told]
  | ifin f x ih => simp [Dd.dbl, Dd.told]
  | ifout x y ihx ihy =>
    simp only [Dd.rt, Bool.and_eq_true] at h
    rw [Dd.dbl, Dd.told, t_take (ihx h.1.1)]
  | andin x y ihx ihy =>
    simp only [Dd.rt, Bool.and_eq_true] at h
    rw [Dd.dbl, Dd.told, t_take (ihx h.1)]
  | ando k x ih =>
    simp only [Dd.rt, Bool.and_eq_true] at h
    rw [Dd.dbl, Dd.told, t_take (ih h.1)]
  | orin k f x ih =>
    rw [Dd.dbl, Dd.told, t_take (ih h)]
  | orout x y z ihx ihy ihz =>
    simp only [Dd.rt, Bool.and_eq_true] at h
    rw [Dd.dbl, Dd.told, t_take (ihx h.1.1.1.1)]
    rfl
  | fout f x ih =>
    simp only [Dd.rt, Bool.and_eq_true, decide_eq_true_eq] at h
    rw [Dd.dbl, Dd.told, t_ifout (ih h.1)]
    rfl
  | contra f x ih =>
    simp only [Dd.rt, Bool.and_eq_true, decide_eq_true_eq] at h
    rw [Dd.dbl, Dd.told, t_ifout (ih h.1)]
    rfl
theorem r_ifout {x y : Dd} {b : Fm} (hx : x.rt = true) (hy : y.rt = true) (h : x.told = .bin .imp y.told b) : (Dd.ifout x y).rt = true := by simp [Dd.rt, hx, hy, h]
theorem r_clash {f : Fm} {x : Dd} (hx : x.rt = true) (h : x.told = f) : (Dd.clash f x).rt = true := r_ifout (b := .fls) rfl hx (by rw [h]; rfl)
theorem r_take {t r : Dd} {f : Fm} (ht : t.rt = true) (h : t.told = no (no f)) (hr : r.rt = true) (hr2 : r.told = .fls) : (Dd.take t f r).rt = true := r_ifout (b := .fls) ht hr (by rw [h, Dd.told, hr2])
theorem dbl_rt {x : Dd} (h : x.rt = true) : x.dbl.rt = true := by
  induction x with
  | asm f => exact r_clash rfl rfl
  | ifin f x ih =>
    have tx := dbl_told (x := x) h
    have ix := ih h
    refine r_clash ?_ rfl
    show (Dd.rt (Dd.ifout x.dbl (Dd.ifin x.told (Dd.clash (.bin .imp f x.told) (.ifin f (.asm x.told))))) && decide ((Dd.ifout x.dbl (Dd.ifin x.told (Dd.clash (.bin .imp f x.told) (.ifin f (.asm x.told))))).told = Fm.fls)) = true
    rw [Bool.and_eq_true]
    have k1 : (Dd.clash (.bin .imp f x.told) (.ifin f (.asm x.told))).rt = true := r_clash rfl rfl
    have k2 : (Dd.ifin x.told (Dd.clash (.bin .imp f x.told) (.ifin f (.asm x.told)))).told = no x.told := by rw [Dd.told, t_clash]
    exact ⟨r_ifout (b := .fls) ix k1 (by rw [tx, k2]), decide_eq_true (t_ifout tx)⟩
  | ifout x y ihx ihy =>
    have h' := h
    simp only [Dd.rt, Bool.and_eq_true] at h
    have tx := dbl_told h.1.1
    have ty := dbl_told h.1.2
    refine r_take (ihx h.1.1) tx (r_take (ihy h.1.2) ty (r_clash ?_ ?_) t_clash) (t_take ty)
    · cases ht : x.told with
      | bin o a b =>
        rw [ht] at h
        cases o with
        | imp => exact r_ifout (b := b) rfl rfl (by show Dd.told (.asm _) = _; rw [Dd.told, Dd.told, of_decide_eq_true h.2])
        | _ => simp at h
      | _ => rw [ht] at h; simp at h
    · simp [Dd.told]
  | andin x y ihx ihy =>
    simp only [Dd.rt, Bool.and_eq_true] at h
    have tx := dbl_told h.1
    have ty := dbl_told h.2
    exact r_take (ihx h.1) tx (r_take (ihy h.2) ty (r_clash rfl rfl) t_clash) (t_take ty)
  | ando k x ih =>
    simp only [Dd.rt, Bool.and_eq_true] at h
    have tx := dbl_told h.1
    exact r_take (ih h.1) tx (r_clash (by simp [Dd.rt, Dd.told, h.2]) (by simp [Dd.told])) t_clash
  | orin k f x ih =>
    have tx := dbl_told (x := x) h
    exact r_take (ih h) tx (r_clash rfl (by simp [Dd.told])) t_clash
  | orout x y z ihx ihy ihz =>
    simp only [Dd.rt, Bool.and_eq_true, decide_eq_true_eq] at h
    have hx := h.1.1.1.1
    have hy := h.1.1.1.2
    have hz := h.1.1.2
    have tx := dbl_told hx
    have ty := dbl_told hy
    have tz := dbl_told hz
    refine r_take (ihx hx) tx ?_ (t_ifout (y := .asm (no y.told)) ty)
    have w1 : (Dd.ifout y.dbl (.asm (no y.told))).rt = true := r_ifout (b := .fls) (ihy hy) rfl (by rw [ty]; rfl)
    have w2 : (Dd.ifout z.dbl (.asm (no y.told))).rt = true := r_ifout (b := .fls) (ihz hz) rfl (by rw [tz, ← h.2]; rfl)
    have e1 : (Dd.ifout y.dbl (.asm (no y.told))).told = .fls := t_ifout ty
    have e2 : (Dd.ifout z.dbl (.asm (no y.told))).told = .fls := t_ifout tz
    rw [Dd.rt, w1, w2, e1, e2]
    simp [Dd.rt, Dd.told, h.1.2]
  | fout f x ih =>
    simp only [Dd.rt, Bool.and_eq_true, decide_eq_true_eq] at h
    have tx := dbl_told h.1
    rw [h.2] at tx
    exact r_ifout (b := .fls) (ih h.1) rfl (by rw [tx]; rfl)
  | contra f x ih =>
    simp only [Dd.rt, Bool.and_eq_true, decide_eq_true_eq] at h
    have tx := dbl_told h.1
    rw [h.2] at tx
    exact r_ifout (b := .fls) (ih h.1) rfl (by rw [tx]; rfl)
theorem dbl_pln (x : Dd) : x.dbl.pln = true := by
  induction x with
  | asm f => rfl
  | ifin f x ih => simp [Dd.dbl, Dd.pln, ih]
  | ifout x y ihx ihy => simp [Dd.dbl, Dd.pln, ihx, ihy]
  | andin x y ihx ihy => simp [Dd.dbl, Dd.pln, ihx, ihy]
  | ando k x ih => simp [Dd.dbl, Dd.pln, ih]
  | orin k f x ih => simp [Dd.dbl, Dd.pln, ih]
  | orout x y z ihx ihy ihz => simp [Dd.dbl, Dd.pln, ihx, ihy, ihz]
  | fout f x ih => simp [Dd.dbl, Dd.pln, ih]
  | contra f x ih => simp [Dd.dbl, Dd.pln, ih]
theorem dbl_opn {x : Dd} (h : x.rt = true) : ∀ g ∈ x.dbl.opn, g ∈ x.opn := by
  induction x with
  | asm f =>
    intro g hg
    rw [Dd.dbl, o_ifin, o_ifout, o_asm, o_asm] at hg
    rw [o_asm]
    exact hg.1.resolve_left hg.2
  | ifin f x ih =>
    intro g hg
    have ih := ih h g
    simp only [Dd.dbl, o_ifin, o_ifout, o_asm, o_fout] at hg ⊢
    obtain ⟨hg, hn⟩ := hg
    rcases hg with hg | ⟨hg, hf⟩
    · exact absurd hg hn
    · rcases hg with hg | ⟨hg | hg, he⟩
      · exact ⟨ih hg, hf⟩
      · exact absurd hg hn
      · exact absurd hg.1 he
  | ifout x y ihx ihy =>
    intro g hg
    simp only [Dd.rt, Bool.and_eq_true] at h
    have ihx := ihx h.1.1 g
    have ihy := ihy h.1.2 g
    simp only [Dd.dbl, o_ifin, o_ifout, o_asm] at hg ⊢
    grind
  | andin x y ihx ihy =>
    intro g hg
    simp only [Dd.rt, Bool.and_eq_true] at h
    have ihx := ihx h.1 g
    have ihy := ihy h.2 g
    simp only [Dd.dbl, o_ifin, o_ifout, o_asm, o_andin] at hg ⊢
    grind
  | ando k x ih =>
    intro g hg
    simp only [Dd.rt, Bool.and_eq_true] at h
    have ih := ih h.1 g
    simp only [Dd.dbl, o_ifin, o_ifout, o_asm, o_ando] at hg ⊢
    grind
  | orin k f x ih =>
    intro g hg
    have ih := ih h g
    simp only [Dd.dbl, o_ifin, o_ifout, o_asm, o_orin] at hg ⊢
    grind
  | orout x y z ihx ihy ihz =>
    intro g hg
    simp only [Dd.rt, Bool.and_eq_true, decide_eq_true_eq] at h
    obtain ⟨a, b, ht⟩ := and_of_isB h.1.2
    have ihx := ihx h.1.1.1.1 g
    have ihy := ihy h.1.1.1.2 g
    have ihz := ihz h.1.1.2 g
    have ht2 : (Dd.asm x.told).told = .bin .or a b := by rw [Dd.told, ht]
    rw [o_orout ht]
    simp only [Dd.dbl, o_ifin, o_ifout, o_asm, o_orout ht2] at hg
    grind
  | fout f x ih =>
    intro g hg
    simp only [Dd.rt, Bool.and_eq_true] at h
    have ih := ih h.1 g
    simp only [Dd.dbl, o_ifin, o_ifout, o_asm, o_fout] at hg ⊢
    grind
  | contra f x ih =>
    intro g hg
    simp only [Dd.rt, Bool.and_eq_true] at h
    have ih := ih h.1 g
    simp only [Dd.dbl, o_ifin, o_ifout, o_asm, o_contra] at hg ⊢
    grind
end Law

set_option Elab.async false
set_option linter.all false
set_option maxRecDepth 100000
/-! Denied twice: few assumptions, small formulas. -/
namespace Law
open PySem PySem.Spec G
namespace Dd
def nodeOk (n d : Nat) (y : Dd) : Bool := decide (y.told.dp ≤ d) && decide (y.opn.length ≤ n)
def fitN (n d : Nat) : Dd → Bool
  | .asm f => nodeOk n d (.asm f)
  | .ifin f x => x.fitN n d && nodeOk n d (.ifin f x)
  | .ifout x y => x.fitN n d && y.fitN n d && nodeOk n d (.ifout x y)
  | .andin x y => x.fitN n d && y.fitN n d && nodeOk n d (.andin x y)
  | .ando k x => x.fitN n d && nodeOk n d (.ando k x)
  | .orin k f x => x.fitN n d && nodeOk n d (.orin k f x)
  | .orout x y z => x.fitN n d && y.fitN n d && z.fitN n d && nodeOk n d (.orout x y z)
  | .fout f x => x.fitN n d && nodeOk n d (.fout f x)
  | .contra f x => x.fitN n d && nodeOk n d (.contra f x)
end Dd
theorem fitN_node {n d : Nat} {x : Dd} (h : x.fitN n d = true) : x.told.dp ≤ d ∧ x.opn.length ≤ n := by
  cases x <;> simp only [Dd.fitN, Dd.nodeOk, Bool.and_eq_true, decide_eq_true_eq] at h <;> first | exact h | exact h.2
theorem fitN_up {n d : Nat} {x : Dd} (h : x.fitN n d = true) : ∀ y ∈ x.up, y.fitN n d = true := by
  intro y hy
  cases x <;> simp only [Dd.up, List.mem_cons, List.not_mem_nil, or_false] at hy <;> first
    | exact hy.elim
    | (subst hy; simp only [Dd.fitN, Bool.and_eq_true] at h; exact h.1)
    | (simp only [Dd.fitN, Bool.and_eq_true] at h; rcases hy with rfl | rfl; exact h.1.1; exact h.1.2)
    | (simp only [Dd.fitN, Bool.and_eq_true] at h; rcases hy with rfl | rfl | rfl; exact h.1.1.1; exact h.1.1.2; exact h.1.2)
theorem len_sub {l d : List Fm} {n : Nat} (hn : l.Nodup) (hs : ∀ g ∈ l, g ∈ d) (hl : d.length ≤ n) : l.length ≤ n := Nat.le_trans (nodup_lenF l d hn hs) hl
where
  nodup_lenF : ∀ (l d : List Fm), l.Nodup → (∀ x ∈ l, x ∈ d) → l.length ≤ d.length
    | [], _, _, _ => Nat.zero_le _
    | x :: l, d, hn, hs => by
      obtain ⟨h1, h2⟩ := List.nodup_cons.mp hn
      have hx := hs x List.mem_cons_self
      have ih := nodup_lenF l (d.erase x) h2 fun y hy => (List.mem_erase_of_ne (fun e : y = x => h1 (by rw [← e]; exact hy))).2 (hs y (List.mem_cons_of_mem _ hy))
      have e := List.length_erase_of_mem hx
      have hp : 0 < d.length := List.length_pos_of_mem hx
      rw [List.length_cons]
      omega
theorem f_asm {f : Fm} (h : f.dp ≤ 8) : (Dd.asm f).fit = true := by simp [Dd.fit, h]
theorem f_ifin {f : Fm} {x : Dd} (hx : x.fit = true) (h1 : f.dp ≤ 50) (h2 : x.told.dp ≤ 50) (d : List Fm) (hs : ∀ g ∈ (Dd.ifin f x).opn, g ∈ d) (hl : d.length ≤ 21) : (Dd.ifin f x).fit = true := by
  have := len_sub (opn_nodup _) hs hl
  simp [Dd.fit, hx, h1, h2, this]
theorem f_ifout {x y : Dd} (hx : x.fit = true) (hy : y.fit = true) (h1 : x.told.dp ≤ 50) (h2 : y.told.dp ≤ 50) (d : List Fm) (hs : ∀ g ∈ (Dd.ifout x y).opn, g ∈ d) (hl : d.length ≤ 21) : (Dd.ifout x y).fit = true := by
  have := len_sub (opn_nodup _) hs hl
  simp [Dd.fit, hx, hy, h1, h2, this]
theorem f_andin {x y : Dd} (hx : x.fit = true) (hy : y.fit = true) (h1 : x.told.dp ≤ 50) (h2 : y.told.dp ≤ 50) (d : List Fm) (hs : ∀ g ∈ (Dd.andin x y).opn, g ∈ d) (hl : d.length ≤ 21) : (Dd.andin x y).fit = true := by
  have := len_sub (opn_nodup _) hs hl
  simp [Dd.fit, hx, hy, h1, h2, this]
theorem f_ando {k : Bool} {x : Dd} (hx : x.fit = true) (h2 : x.told.dp ≤ 50) (d : List Fm) (hs : ∀ g ∈ (Dd.ando k x).opn, g ∈ d) (hl : d.length ≤ 21) : (Dd.ando k x).fit = true := by
  have := len_sub (opn_nodup _) hs hl
  simp [Dd.fit, hx, h2, this]
theorem f_orin {k : Bool} {f : Fm} {x : Dd} (hx : x.fit = true) (h1 : f.dp ≤ 50) (h2 : x.told.dp ≤ 50) (d : List Fm) (hs : ∀ g ∈ (Dd.orin k f x).opn, g ∈ d) (hl : d.length ≤ 21) : (Dd.orin k f x).fit = true := by
  have := len_sub (opn_nodup _) hs hl
  simp [Dd.fit, hx, h1, h2, this]
theorem f_orout {x y z : Dd} (hx : x.fit = true) (hy : y.fit = true) (hz : z.fit = true) (h1 : x.told.dp ≤ 50) (h2 : y.told.dp ≤ 50) (h3 : z.told.dp ≤ 50) (d : List Fm) (hs : ∀ g ∈ (Dd.orout x y z).opn, g ∈ d) (hl : d.length ≤ 21) : (Dd.orout x y z).fit = true := by
  have := len_sub (opn_nodup _) hs hl
  simp [Dd.fit, hx, hy, hz, h1, h2, h3, this]
theorem f_fout {f : Fm} {x : Dd} (hx : x.fit = true) (h1 : f.dp ≤ 50) (h2 : x.told.dp ≤ 50) (d : List Fm) (hs : ∀ g ∈ (Dd.fout f x).opn, g ∈ d) (hl : d.length ≤ 21) : (Dd.fout f x).fit = true := by
  have := len_sub (opn_nodup _) hs hl
  simp [Dd.fit, hx, h1, h2, this]
theorem dp_no (f : Fm) : (no f).dp = f.dp + 1 := by
  have := dp1 f
  simp only [Fm.dp]
  omega
where
  dp1 : ∀ f : Fm, 1 ≤ f.dp
    | .lt _ => Nat.le_refl _
    | .fls => Nat.le_refl _
    | .bin _ _ _ => by rw [Fm.dp]; omega
theorem f_clash {f : Fm} {x : Dd} (hf : f.dp ≤ 7) (hx : x.fit = true) (h2 : x.told.dp ≤ 50) (d : List Fm) (hs : ∀ g ∈ x.opn, g ∈ d) (hl : d.length ≤ 20) : (Dd.clash f x).fit = true :=
  f_ifout (f_asm (by rw [dp_no]; omega)) hx (by show (no f).dp ≤ 50; rw [dp_no]; omega) h2 (no f :: d) (fun g hg => by
    rw [o_ifout, o_asm] at hg
    exact hg.elim (fun h => by rw [h]; exact List.mem_cons_self) fun h => List.mem_cons_of_mem _ (hs g h)) (by simp; omega)
theorem told_le {x : Dd} (h : x.rt = true) (hd : x.told.dp ≤ 7) : x.dbl.told.dp ≤ 50 := by rw [dbl_told h, dp_no, dp_no]; omega
theorem dbl_fit {x : Dd} (h : x.rt = true) (hn : x.fitN 18 7 = true) : x.dbl.fit = true := by
  have s1 : (Fm.fls).dp = 1 := rfl
  induction x with
  | asm f =>
    have q := (fitN_node hn).1
    simp only [Dd.told] at q
    have c : (Dd.clash f (.asm f)).fit = true := f_clash q (f_asm (by omega)) (by show f.dp ≤ 50; omega) [f] (fun g hg => by rw [o_asm] at hg; simp [hg]) (by simp)
    exact f_ifin c (by rw [dp_no]; omega) (by rw [t_clash]; omega) [f] (fun g hg => by
      rw [o_ifin, o_ifout, o_asm, o_asm] at hg
      simp [hg.1.resolve_left hg.2]) (by simp)
  | ifin f x ih =>
    have q := fitN_node hn
    have n1 := fitN_up hn x (by simp [Dd.up])
    have q1 := fitN_node n1
    have i := ih h n1
    have tx := dbl_told (x := x) h
    have ox := dbl_opn (x := x) h
    have hh : (Fm.bin .imp f x.told).dp ≤ 7 := q.1
    have hh2 := hh
    rw [Fm.dp] at hh2
    have w1 : (Dd.ifin f (.asm x.told)).fit = true := f_ifin (f_asm (by omega)) (by omega) (by show x.told.dp ≤ 50; omega) [x.told] (fun g hg => by rw [o_ifin, o_asm] at hg; simp [hg.1]) (by simp)
    have w2 : (Dd.clash (.bin .imp f x.told) (.ifin f (.asm x.told))).fit = true := f_clash hh w1 (by show (Fm.bin .imp f x.told).dp ≤ 50; omega) [x.told] (fun g hg => by rw [o_ifin, o_asm] at hg; simp [hg.1]) (by simp)
    have w3 : (Dd.ifin x.told (Dd.clash (.bin .imp f x.told) (.ifin f (.asm x.told)))).fit = true := f_ifin w2 (by omega) (by rw [t_clash]; omega) [no (.bin .imp f x.told)] (fun g hg => by
      simp only [o_ifin, o_ifout, o_asm] at hg
      simp; grind) (by simp)
    have w4 : (Dd.ifout x.dbl (Dd.ifin x.told (Dd.clash (.bin .imp f x.told) (.ifin f (.asm x.told))))).fit = true := f_ifout i w3 (told_le h (by omega)) (by rw [Dd.told, t_clash, dp_no]; omega) (no (.bin .imp f x.told) :: x.opn) (fun g hg => by
      have := ox g
      simp only [o_ifin, o_ifout, o_asm] at hg
      simp; grind) (by simp; omega)
    have e4 : (Dd.ifout x.dbl (Dd.ifin x.told (Dd.clash (.bin .imp f x.told) (.ifin f (.asm x.told))))).told = .fls := t_ifout tx
    have w5 : (Dd.fout x.told (Dd.ifout x.dbl (Dd.ifin x.told (Dd.clash (.bin .imp f x.told) (.ifin f (.asm x.told)))))).fit = true := f_fout w4 (by omega) (by rw [e4]; omega) (no (.bin .imp f x.told) :: x.opn) (fun g hg => by
      have := ox g
      simp only [o_ifin, o_ifout, o_asm, o_fout] at hg
      simp; grind) (by simp; omega)
    have w6 : (Dd.ifin f (Dd.fout x.told (Dd.ifout x.dbl (Dd.ifin x.told (Dd.clash (.bin .imp f x.told) (.ifin f (.asm x.told))))))).fit = true := f_ifin w5 (by omega) (by show x.told.dp ≤ 50; omega) (no (.bin .imp f x.told) :: x.opn) (fun g hg => by
      have := ox g
      simp only [o_ifin, o_ifout, o_asm, o_fout] at hg
      simp; grind) (by simp; omega)
    have w7 := f_clash hh w6 (by show (Fm.bin .imp f x.told).dp ≤ 50; omega) (no (.bin .imp f x.told) :: x.opn) (fun g hg => by
      have := ox g
      simp only [o_ifin, o_ifout, o_asm, o_fout] at hg
      simp; grind) (by simp; omega)
    exact f_ifin w7 (by rw [dp_no]; omega) (by rw [t_clash]; omega) (no (.bin .imp f x.told) :: x.opn) (fun g hg => by
      have := ox g
      simp only [o_ifin, o_ifout, o_asm, o_fout] at hg
      simp; grind) (by simp; omega)
  | ifout x y ihx ihy =>
    have h' := h
    simp only [Dd.rt, Bool.and_eq_true] at h'
    have hx := h'.1.1
    have hy := h'.1.2
    have q := fitN_node hn
    have nx := fitN_up hn x (by simp [Dd.up])
    have ny := fitN_up hn y (by simp [Dd.up])
    have qx := fitN_node nx
    have qy := fitN_node ny
    have ix := ihx hx nx
    have iy := ihy hy ny
    have tx := dbl_told hx
    have ty := dbl_told hy
    have ox := dbl_opn hx
    have oy := dbl_opn hy
    generalize hq : (Dd.ifout x y).told = hr at q
    have e1 : (Dd.ifout (.asm x.told) (.asm y.told)).told = hr := by rw [← hq]; simp [Dd.told]
    have w1 : (Dd.ifout (.asm x.told) (.asm y.told)).fit = true := f_ifout (f_asm (by omega)) (f_asm (by omega)) (by show x.told.dp ≤ 50; omega) (by show y.told.dp ≤ 50; omega) [x.told, y.told] (fun g hg => by rw [o_ifout, o_asm, o_asm] at hg; simp; exact hg) (by simp)
    have w2 := f_clash (f := hr) (by omega) w1 (by rw [e1]; omega) [x.told, y.told] (fun g hg => by rw [o_ifout, o_asm, o_asm] at hg; simp; exact hg) (by simp)
    have w3 : (Dd.ifin y.told (Dd.clash hr (.ifout (.asm x.told) (.asm y.told)))).fit = true := f_ifin w2 (by omega) (by rw [t_clash]; omega) [no hr, x.told, y.told] (fun g hg => by
      simp only [o_ifin, o_ifout, o_asm] at hg
      simp; grind) (by simp)
    have w4 : (Dd.take y.dbl y.told (Dd.clash hr (.ifout (.asm x.told) (.asm y.told)))).fit = true := f_ifout iy w3 (told_le hy (by omega)) (by rw [Dd.told, t_clash, dp_no]; omega) (no hr :: x.told :: y.opn) (fun g hg => by
      have := oy g
      simp only [o_ifin, o_ifout, o_asm] at hg
      simp; grind) (by simp; omega)
    have w5 : (Dd.ifin x.told (Dd.take y.dbl y.told (Dd.clash hr (.ifout (.asm x.told) (.asm y.told))))).fit = true := f_ifin w4 (by omega) (by rw [t_take ty]; omega) (no hr :: x.told :: y.opn) (fun g hg => by
      have := oy g
      simp only [o_ifin, o_ifout, o_asm] at hg
      simp; grind) (by simp; omega)
    have w6 : (Dd.take x.dbl x.told (Dd.take y.dbl y.told (Dd.clash hr (.ifout (.asm x.told) (.asm y.told))))).fit = true := f_ifout ix w5 (told_le hx (by omega)) (by rw [Dd.told, t_take ty, dp_no]; omega) (no hr :: (Dd.ifout x y).opn) (fun g hg => by
      have := oy g
      have := ox g
      simp only [o_ifin, o_ifout, o_asm] at hg
      simp [o_ifout]; grind) (by simp; omega)
    rw [Dd.dbl, hq]
    exact f_ifin w6 (by rw [dp_no]; omega) (by rw [t_take tx]; omega) (no hr :: (Dd.ifout x y).opn) (fun g hg => by
      have := oy g
      have := ox g
      simp only [o_ifin, o_ifout, o_asm] at hg
      simp [o_ifout]; grind) (by simp; omega)
  | andin x y ihx ihy =>
    have h' := h
    simp only [Dd.rt, Bool.and_eq_true] at h'
    have hx := h'.1
    have hy := h'.2
    have q := fitN_node hn
    have nx := fitN_up hn x (by simp [Dd.up])
    have ny := fitN_up hn y (by simp [Dd.up])
    have qx := fitN_node nx
    have qy := fitN_node ny
    have ix := ihx hx nx
    have iy := ihy hy ny
    have tx := dbl_told hx
    have ty := dbl_told hy
    have ox := dbl_opn hx
    have oy := dbl_opn hy
    generalize hq : (Dd.andin x y).told = hr at q
    have e1 : (Dd.andin (.asm x.told) (.asm y.told)).told = hr := by rw [← hq]; simp [Dd.told]
    have w1 : (Dd.andin (.asm x.told) (.asm y.told)).fit = true := f_andin (f_asm (by omega)) (f_asm (by omega)) (by show x.told.dp ≤ 50; omega) (by show y.told.dp ≤ 50; omega) [x.told, y.told] (fun g hg => by rw [o_andin, o_asm, o_asm] at hg; simp; exact hg) (by simp)
    have w2 := f_clash (f := hr) (by omega) w1 (by rw [e1]; omega) [x.told, y.told] (fun g hg => by rw [o_andin, o_asm, o_asm] at hg; simp; exact hg) (by simp)
    have w3 : (Dd.ifin y.told (Dd.clash hr (.andin (.asm x.told) (.asm y.told)))).fit = true := f_ifin w2 (by omega) (by rw [t_clash]; omega) [no hr, x.told, y.told] (fun g hg => by
      simp only [o_ifin, o_ifout, o_andin, o_asm] at hg
      simp; grind) (by simp)
    have w4 : (Dd.take y.dbl y.told (Dd.clash hr (.andin (.asm x.told) (.asm y.told)))).fit = true := f_ifout iy w3 (told_le hy (by omega)) (by rw [Dd.told, t_clash, dp_no]; omega) (no hr :: x.told :: y.opn) (fun g hg => by
      have := oy g
      simp only [o_ifin, o_ifout, o_andin, o_asm] at hg
      simp; grind) (by simp; omega)
    have w5 : (Dd.ifin x.told (Dd.take y.dbl y.told (Dd.clash hr (.andin (.asm x.told) (.asm y.told))))).fit = true := f_ifin w4 (by omega) (by rw [t_take ty]; omega) (no hr :: x.told :: y.opn) (fun g hg => by
      have := oy g
      simp only [o_ifin, o_ifout, o_andin, o_asm] at hg
      simp; grind) (by simp; omega)
    have w6 : (Dd.take x.dbl x.told (Dd.take y.dbl y.told (Dd.clash hr (.andin (.asm x.told) (.asm y.told))))).fit = true := f_ifout ix w5 (told_le hx (by omega)) (by rw [Dd.told, t_take ty, dp_no]; omega) (no hr :: (Dd.andin x y).opn) (fun g hg => by
      have := oy g
      have := ox g
      simp only [o_ifin, o_ifout, o_andin, o_asm] at hg
      simp [o_andin]; grind) (by simp; omega)
    rw [Dd.dbl, hq]
    exact f_ifin w6 (by rw [dp_no]; omega) (by rw [t_take tx]; omega) (no hr :: (Dd.andin x y).opn) (fun g hg => by
      have := oy g
      have := ox g
      simp only [o_ifin, o_ifout, o_andin, o_asm] at hg
      simp [o_andin]; grind) (by simp; omega)
  | ando k x ih =>
    have h' := h
    simp only [Dd.rt, Bool.and_eq_true] at h'
    have hx := h'.1
    have q := fitN_node hn
    have nx := fitN_up hn x (by simp [Dd.up])
    have qx := fitN_node nx
    have ix := ih hx nx
    have tx := dbl_told hx
    have ox := dbl_opn hx
    generalize hq : (Dd.ando k x).told = hr at q
    have e1 : (Dd.ando k (.asm x.told)).told = hr := by rw [← hq]; simp [Dd.told]
    have w1 : (Dd.ando k (.asm x.told)).fit = true := f_ando (f_asm (by omega)) (by show x.told.dp ≤ 50; omega) [x.told] (fun g hg => by rw [o_ando, o_asm] at hg; simp [hg]) (by simp)
    have w2 := f_clash (f := hr) (by omega) w1 (by rw [e1]; omega) [x.told] (fun g hg => by rw [o_ando, o_asm] at hg; simp [hg]) (by simp)
    have w3 : (Dd.ifin x.told (Dd.clash hr (.ando k (.asm x.told)))).fit = true := f_ifin w2 (by omega) (by rw [t_clash]; omega) [no hr, x.told] (fun g hg => by
      simp only [o_ifin, o_ifout, o_ando, o_asm] at hg
      simp; grind) (by simp)
    have w6 : (Dd.take x.dbl x.told (Dd.clash hr (.ando k (.asm x.told)))).fit = true := f_ifout ix w3 (told_le hx (by omega)) (by rw [Dd.told, t_clash, dp_no]; omega) (no hr :: x.opn) (fun g hg => by
      have := ox g
      simp only [o_ifin, o_ifout, o_ando, o_asm] at hg
      simp; grind) (by simp; omega)
    rw [Dd.dbl, hq]
    exact f_ifin w6 (by rw [dp_no]; omega) (by rw [t_take tx]; omega) (no hr :: x.opn) (fun g hg => by
      have := ox g
      simp only [o_ifin, o_ifout, o_ando, o_asm] at hg
      simp; grind) (by simp; omega)
  | orin k f x ih =>
    have hx : x.rt = true := h
    have q := fitN_node hn
    have nx := fitN_up hn x (by simp [Dd.up])
    have qx := fitN_node nx
    have ix := ih hx nx
    have tx := dbl_told hx
    have ox := dbl_opn hx
    have hf : f.dp ≤ 7 := by
      have q1 := q.1
      cases k <;> simp [Dd.told, Fm.dp] at q1 <;> omega
    generalize hq : (Dd.orin k f x).told = hr at q
    have e1 : (Dd.orin k f (.asm x.told)).told = hr := by rw [← hq]; simp [Dd.told]
    have w1 : (Dd.orin k f (.asm x.told)).fit = true := f_orin (f_asm (by omega)) (by omega) (by show x.told.dp ≤ 50; omega) [x.told] (fun g hg => by rw [o_orin, o_asm] at hg; simp [hg]) (by simp)
    have w2 := f_clash (f := hr) (by omega) w1 (by rw [e1]; omega) [x.told] (fun g hg => by rw [o_orin, o_asm] at hg; simp [hg]) (by simp)
    have w3 : (Dd.ifin x.told (Dd.clash hr (.orin k f (.asm x.told)))).fit = true := f_ifin w2 (by omega) (by rw [t_clash]; omega) [no hr, x.told] (fun g hg => by
      simp only [o_ifin, o_ifout, o_orin, o_asm] at hg
      simp; grind) (by simp)
    have w6 : (Dd.take x.dbl x.told (Dd.clash hr (.orin k f (.asm x.told)))).fit = true := f_ifout ix w3 (told_le hx (by omega)) (by rw [Dd.told, t_clash, dp_no]; omega) (no hr :: x.opn) (fun g hg => by
      have := ox g
      simp only [o_ifin, o_ifout, o_orin, o_asm] at hg
      simp; grind) (by simp; omega)
    rw [Dd.dbl, hq]
    exact f_ifin w6 (by rw [dp_no]; omega) (by rw [t_take tx]; omega) (no hr :: x.opn) (fun g hg => by
      have := ox g
      simp only [o_ifin, o_ifout, o_orin, o_asm] at hg
      simp; grind) (by simp; omega)
  | orout x y z ihx ihy ihz =>
    have h' := h
    simp only [Dd.rt, Bool.and_eq_true, decide_eq_true_eq] at h'
    have hx := h'.1.1.1.1
    have hy := h'.1.1.1.2
    have hz := h'.1.1.2
    obtain ⟨a, b, hor⟩ := and_of_isB h'.1.2
    have q := fitN_node hn
    have nx := fitN_up hn x (by simp [Dd.up])
    have ny := fitN_up hn y (by simp [Dd.up])
    have nz := fitN_up hn z (by simp [Dd.up])
    have qx := fitN_node nx
    have qy := fitN_node ny
    have qz := fitN_node nz
    have ix := ihx hx nx
    have iy := ihy hy ny
    have iz := ihz hz nz
    have tx := dbl_told hx
    have ty := dbl_told hy
    have tz := dbl_told hz
    have ox := dbl_opn hx
    have oy := dbl_opn hy
    have oz := dbl_opn hz
    have hor2 : (Dd.asm x.told).told = .bin .or a b := hor
    have a1 : (Dd.asm (no y.told)).fit = true := f_asm (by rw [dp_no]; omega)
    have w1 : (Dd.ifout y.dbl (.asm (no y.told))).fit = true := f_ifout iy a1 (told_le hy (by omega)) (by show (no y.told).dp ≤ 50; rw [dp_no]; omega) (no y.told :: y.opn) (fun g hg => by
      have := oy g
      simp only [o_ifout, o_asm] at hg
      simp; grind) (by simp; omega)
    have w2 : (Dd.ifout z.dbl (.asm (no y.told))).fit = true := f_ifout iz a1 (told_le hz (by omega)) (by show (no y.told).dp ≤ 50; rw [dp_no]; omega) (no y.told :: z.opn) (fun g hg => by
      have := oz g
      simp only [o_ifout, o_asm] at hg
      simp; grind) (by simp; omega)
    have e1 : (Dd.ifout y.dbl (.asm (no y.told))).told = .fls := t_ifout ty
    have e2 : (Dd.ifout z.dbl (.asm (no y.told))).told = .fls := t_ifout tz
    have w3 : (Dd.orout (.asm x.told) (Dd.ifout y.dbl (.asm (no y.told))) (Dd.ifout z.dbl (.asm (no y.told)))).fit = true := f_orout (f_asm (by omega)) w1 w2 (by show x.told.dp ≤ 50; omega) (by rw [e1]; omega) (by rw [e2]; omega) (no y.told :: x.told :: (Dd.orout x y z).opn) (fun g hg => by
      have := oy g
      have := oz g
      simp only [o_orout hor2, o_ifout, o_asm] at hg
      simp [o_orout hor]; grind) (by simp; omega)
    have w4 : (Dd.ifin x.told (Dd.orout (.asm x.told) (Dd.ifout y.dbl (.asm (no y.told))) (Dd.ifout z.dbl (.asm (no y.told))))).fit = true := f_ifin w3 (by omega) (by rw [Dd.told, e1]; omega) (no y.told :: x.told :: (Dd.orout x y z).opn) (fun g hg => by
      have := oy g
      have := oz g
      simp only [o_ifin, o_orout hor2, o_ifout, o_asm] at hg
      simp [o_orout hor]; grind) (by simp; omega)
    have w5 : (Dd.take x.dbl x.told (Dd.orout (.asm x.told) (Dd.ifout y.dbl (.asm (no y.told))) (Dd.ifout z.dbl (.asm (no y.told))))).fit = true := f_ifout ix w4 (told_le hx (by omega)) (by rw [Dd.told, Dd.told, e1, dp_no]; omega) (no y.told :: (Dd.orout x y z).opn) (fun g hg => by
      have := ox g
      have := oy g
      have := oz g
      simp only [o_ifin, o_orout hor2, o_ifout, o_asm] at hg
      simp [o_orout hor]; grind) (by simp; omega)
    exact f_ifin w5 (by rw [dp_no]; omega) (by rw [t_take tx]; omega) (no y.told :: (Dd.orout x y z).opn) (fun g hg => by
      have := ox g
      have := oy g
      have := oz g
      simp only [o_ifin, o_orout hor2, o_ifout, o_asm] at hg
      simp [o_orout hor]; grind) (by simp; omega)
  | fout f x ih =>
    have h' := h
    simp only [Dd.rt, Bool.and_eq_true, decide_eq_true_eq] at h'
    have hx := h'.1
    have q := fitN_node hn
    have q1 : f.dp ≤ 7 := q.1
    have nx := fitN_up hn x (by simp [Dd.up])
    have qx := fitN_node nx
    have ix := ih hx nx
    have tx := dbl_told hx
    rw [h'.2] at tx
    have ox := dbl_opn hx
    have w1 : (Dd.ifin .fls (.asm .fls)).fit = true := by decide +kernel
    have w2 : (Dd.ifout x.dbl (.ifin .fls (.asm .fls))).fit = true := f_ifout ix w1 (told_le hx (by omega)) (by decide) x.opn (fun g hg => by
      have := ox g
      simp only [o_ifin, o_ifout, o_asm] at hg
      grind) (by omega)
    exact f_ifin w2 (by rw [dp_no]; omega) (by rw [t_ifout tx]; omega) x.opn (fun g hg => by
      have := ox g
      simp only [o_ifin, o_ifout, o_asm] at hg
      grind) (by omega)
  | contra f x ih =>
    have h' := h
    simp only [Dd.rt, Bool.and_eq_true, decide_eq_true_eq] at h'
    have hx := h'.1
    have q := fitN_node hn
    have q1 : f.dp ≤ 7 := q.1
    have nx := fitN_up hn x (by simp [Dd.up])
    have qx := fitN_node nx
    have ix := ih hx nx
    have tx := dbl_told hx
    rw [h'.2] at tx
    have ox := dbl_opn hx
    have w1 : (Dd.ifin .fls (.asm .fls)).fit = true := by decide +kernel
    have w2 : (Dd.ifout x.dbl (.ifin .fls (.asm .fls))).fit = true := f_ifout ix w1 (told_le hx (by omega)) (by decide) x.opn (fun g hg => by
      have := ox g
      simp only [o_ifin, o_ifout, o_asm] at hg
      grind) (by omega)
    exact f_ifin w2 (by rw [dp_no]; omega) (by rw [t_ifout tx]; omega) x.opn (fun g hg => by
      have := ox g
      simp only [o_ifin, o_ifout, o_asm] at hg
      grind) (by omega)
end Law

set_option Elab.async false
set_option linter.all false
set_option maxRecDepth 100000
/-! Denied twice: forms, heights. -/
namespace Law
open PySem PySem.Spec G

theorem told_ok {x : Dd} (h : x.rt = true) (ho : x.okf = true) : x.told.ok = true := by
  induction x with
  | asm f => simp only [Dd.okf, Bool.and_eq_true] at ho; exact ho.1
  | ifin f x ih => simp only [Dd.okf, Bool.and_eq_true] at ho; simp [Dd.told, Fm.ok, ho.1.1, ih h ho.2]
  | ifout x y ihx ihy =>
    simp only [Dd.okf, Bool.and_eq_true] at ho
    simp only [Dd.rt, Bool.and_eq_true] at h
    have hx := ihx h.1.1 ho.1
    cases ht : x.told with
    | bin o a b =>
      rw [ht] at h hx
      simp only [Fm.ok, Bool.and_eq_true] at hx
      cases o with
      | imp => rw [Dd.told, ht]; exact hx.2
      | _ => simp at h
    | _ => rw [ht] at h; simp at h
  | andin x y ihx ihy =>
    simp only [Dd.okf, Bool.and_eq_true] at ho
    simp only [Dd.rt, Bool.and_eq_true] at h
    simp [Dd.told, Fm.ok, ihx h.1 ho.1, ihy h.2 ho.2]
  | ando k x ih =>
    simp only [Dd.rt, Bool.and_eq_true] at h
    obtain ⟨a, b, ht⟩ := and_of_isB h.2
    have hx := ih h.1 ho
    rw [ht] at hx
    simp only [Fm.ok, Bool.and_eq_true] at hx
    rw [Dd.told, ht]
    cases k
    · exact hx.1
    · exact hx.2
  | orin k f x ih =>
    simp only [Dd.okf, Bool.and_eq_true] at ho
    cases k <;> simp [Dd.told, Fm.ok, ho.1.1, ih h ho.2]
  | orout x y z ihx ihy ihz =>
    simp only [Dd.okf, Bool.and_eq_true] at ho
    simp only [Dd.rt, Bool.and_eq_true] at h
    exact ihy h.1.1.1.2 ho.1.2
  | fout f x ih => simp only [Dd.okf, Bool.and_eq_true] at ho; exact ho.1.1
  | contra f x ih => simp only [Dd.okf, Bool.and_eq_true] at ho; exact ho.1.1
theorem dbl_okf {x : Dd} (h : x.rt = true) (hn : x.fitN 18 7 = true) (ho : x.okf = true) : x.dbl.okf = true := by
  have key : ∀ {y : Dd}, y.rt = true → y.fitN 18 7 = true → y.okf = true → y.told.ok = true ∧ y.told.dp ≤ 7 := fun h hn ho => ⟨told_ok h ho, (fitN_node hn).1⟩
  have d2 : ∀ {f : Fm}, f.dp ≤ 7 → (no f).dp ≤ 8 := fun h => by rw [dp_no]; omega
  induction x with
  | asm f =>
    obtain ⟨k1, k2⟩ := key h hn ho
    have k1 : f.ok = true := k1
    have k2 : f.dp ≤ 7 := k2
    have k3 := d2 k2
    have k4 : f.dp ≤ 15 := by omega
    have k5 : (no f).dp ≤ 15 := by omega
    simp [Dd.dbl, Dd.okf, Fm.ok, k1, k4, k5]
  | ifin f x ih =>
    obtain ⟨k1, k2⟩ := key h hn ho
    have nx := fitN_up hn x (by simp [Dd.up])
    simp only [Dd.okf, Bool.and_eq_true, decide_eq_true_eq] at ho
    have ix := ih h nx ho.2
    obtain ⟨j1, j2⟩ := key (y := x) h nx ho.2
    have k3 : (no (Fm.bin .imp f x.told)).dp ≤ 15 := by have := d2 k2; simp only [Dd.told] at this; omega
    have j3 : x.told.dp ≤ 15 := by omega
    simp [Dd.dbl, Dd.okf, Fm.ok, ho.1.1, ho.1.2, k3, j1, j3, ix]
  | ifout x y ihx ihy =>
    obtain ⟨k1, k2⟩ := key h hn ho
    have nx := fitN_up hn x (by simp [Dd.up])
    have ny := fitN_up hn y (by simp [Dd.up])
    simp only [Dd.okf, Bool.and_eq_true] at ho
    simp only [Dd.rt, Bool.and_eq_true] at h
    have ix := ihx h.1.1 nx ho.1
    have iy := ihy h.1.2 ny ho.2
    obtain ⟨j1, j2⟩ := key h.1.1 nx ho.1
    obtain ⟨l1, l2⟩ := key h.1.2 ny ho.2
    rw [Dd.dbl]
    generalize (Dd.ifout x y).told = hr at k1 k2
    have k3 : (no hr).dp ≤ 15 := by have := d2 k2; omega
    have j3 : x.told.dp ≤ 15 := by omega
    have l3 : y.told.dp ≤ 15 := by omega
    simp [Dd.okf, Fm.ok, k1, k3, j1, j3, l1, l3, ix, iy]
  | andin x y ihx ihy =>
    obtain ⟨k1, k2⟩ := key h hn ho
    have nx := fitN_up hn x (by simp [Dd.up])
    have ny := fitN_up hn y (by simp [Dd.up])
    simp only [Dd.okf, Bool.and_eq_true] at ho
    simp only [Dd.rt, Bool.and_eq_true] at h
    have ix := ihx h.1 nx ho.1
    have iy := ihy h.2 ny ho.2
    obtain ⟨j1, j2⟩ := key h.1 nx ho.1
    obtain ⟨l1, l2⟩ := key h.2 ny ho.2
    rw [Dd.dbl]
    generalize (Dd.andin x y).told = hr at k1 k2
    have k3 : (no hr).dp ≤ 15 := by have := d2 k2; omega
    have j3 : x.told.dp ≤ 15 := by omega
    have l3 : y.told.dp ≤ 15 := by omega
    simp [Dd.okf, Fm.ok, k1, k3, j1, j3, l1, l3, ix, iy]
  | ando k x ih =>
    obtain ⟨k1, k2⟩ := key h hn ho
    have nx := fitN_up hn x (by simp [Dd.up])
    have ho : x.okf = true := ho
    simp only [Dd.rt, Bool.and_eq_true] at h
    have ix := ih h.1 nx ho
    obtain ⟨j1, j2⟩ := key h.1 nx ho
    rw [Dd.dbl]
    generalize (Dd.ando k x).told = hr at k1 k2
    have k3 : (no hr).dp ≤ 15 := by have := d2 k2; omega
    have j3 : x.told.dp ≤ 15 := by omega
    simp [Dd.okf, Fm.ok, k1, k3, j1, j3, ix]
  | orin k f x ih =>
    obtain ⟨k1, k2⟩ := key h hn ho
    have nx := fitN_up hn x (by simp [Dd.up])
    simp only [Dd.okf, Bool.and_eq_true, decide_eq_true_eq] at ho
    have ix := ih h nx ho.2
    obtain ⟨j1, j2⟩ := key (y := x) h nx ho.2
    rw [Dd.dbl]
    generalize (Dd.orin k f x).told = hr at k1 k2
    have k3 : (no hr).dp ≤ 15 := by have := d2 k2; omega
    have j3 : x.told.dp ≤ 15 := by omega
    simp [Dd.okf, Fm.ok, ho.1.1, ho.1.2, k1, k3, j1, j3, ix]
  | orout x y z ihx ihy ihz =>
    obtain ⟨k1, k2⟩ := key h hn ho
    have nx := fitN_up hn x (by simp [Dd.up])
    have ny := fitN_up hn y (by simp [Dd.up])
    have nz := fitN_up hn z (by simp [Dd.up])
    simp only [Dd.okf, Bool.and_eq_true] at ho
    simp only [Dd.rt, Bool.and_eq_true] at h
    have ix := ihx h.1.1.1.1 nx ho.1.1
    have iy := ihy h.1.1.1.2 ny ho.1.2
    have iz := ihz h.1.1.2 nz ho.2
    obtain ⟨j1, j2⟩ := key h.1.1.1.1 nx ho.1.1
    have k1 : y.told.ok = true := k1
    have k2 : y.told.dp ≤ 7 := k2
    have k3 : (no y.told).dp ≤ 15 := by have := d2 k2; omega
    have j3 : x.told.dp ≤ 15 := by omega
    simp [Dd.dbl, Dd.okf, Fm.ok, k1, k3, j1, j3, ix, iy, iz]
  | fout f x ih =>
    obtain ⟨k1, k2⟩ := key h hn ho
    have nx := fitN_up hn x (by simp [Dd.up])
    simp only [Dd.okf, Bool.and_eq_true, decide_eq_true_eq] at ho
    simp only [Dd.rt, Bool.and_eq_true] at h
    have ix := ih h.1 nx ho.2
    have k2 : f.dp ≤ 7 := k2
    have k3 : (no f).dp ≤ 15 := by have := d2 k2; omega
    simp [Dd.dbl, Dd.okf, Fm.ok, ho.1.1, k3, ix]
    decide
  | contra f x ih =>
    obtain ⟨k1, k2⟩ := key h hn ho
    have nx := fitN_up hn x (by simp [Dd.up])
    simp only [Dd.okf, Bool.and_eq_true, decide_eq_true_eq] at ho
    simp only [Dd.rt, Bool.and_eq_true] at h
    have ix := ih h.1 nx ho.2
    have k2 : f.dp ≤ 7 := k2
    have k3 : (no f).dp ≤ 15 := by have := d2 k2; omega
    simp [Dd.dbl, Dd.okf, Fm.ok, ho.1.1, k3, ix]
    decide
theorem dbl_ht (x : Dd) : x.dbl.ht ≤ 5 * x.ht + 8 := by
  induction x with
  | asm f => simp [Dd.dbl, Dd.ht]
  | ifin f x ih => simp only [Dd.dbl, Dd.ht]; omega
  | ifout x y ihx ihy => simp only [Dd.dbl, Dd.ht]; omega
  | andin x y ihx ihy => simp only [Dd.dbl, Dd.ht]; omega
  | ando k x ih => simp only [Dd.dbl, Dd.ht]; omega
  | orin k f x ih => simp only [Dd.dbl, Dd.ht]; omega
  | orout x y z ihx ihy ihz => simp only [Dd.dbl, Dd.ht]; omega
  | fout f x ih => simp only [Dd.dbl, Dd.ht]; omega
  | contra f x ih => simp only [Dd.dbl, Dd.ht]; omega
theorem fitN_fit {x : Dd} {n d : Nat} (hn : x.fitN n d = true) (h1 : n ≤ 21) (h2 : d ≤ 8) : x.fit = true := by
  have q := fitN_node hn
  induction x with
  | asm f => simp [Dd.told] at q; simp [Dd.fit]; omega
  | ifin f x ih =>
    have nx := fitN_up hn x (by simp [Dd.up])
    have qx := fitN_node nx
    have q1 := q.1
    simp [Dd.told, Fm.dp] at q1
    exact f_ifin (ih nx qx) (by omega) (by omega) _ (fun g h => h) (by omega)
  | ifout x y ihx ihy =>
    have nx := fitN_up hn x (by simp [Dd.up])
    have ny := fitN_up hn y (by simp [Dd.up])
    have qx := fitN_node nx
    have qy := fitN_node ny
    exact f_ifout (ihx nx qx) (ihy ny qy) (by omega) (by omega) _ (fun g h => h) (by omega)
  | andin x y ihx ihy =>
    have nx := fitN_up hn x (by simp [Dd.up])
    have ny := fitN_up hn y (by simp [Dd.up])
    have qx := fitN_node nx
    have qy := fitN_node ny
    exact f_andin (ihx nx qx) (ihy ny qy) (by omega) (by omega) _ (fun g h => h) (by omega)
  | ando k x ih =>
    have nx := fitN_up hn x (by simp [Dd.up])
    have qx := fitN_node nx
    exact f_ando (ih nx qx) (by omega) _ (fun g h => h) (by omega)
  | orin k f x ih =>
    have nx := fitN_up hn x (by simp [Dd.up])
    have qx := fitN_node nx
    have q1 := q.1
    have : f.dp ≤ d := by cases k <;> simp [Dd.told, Fm.dp] at q1 <;> omega
    exact f_orin (ih nx qx) (by omega) (by omega) _ (fun g h => h) (by omega)
  | orout x y z ihx ihy ihz =>
    have nx := fitN_up hn x (by simp [Dd.up])
    have ny := fitN_up hn y (by simp [Dd.up])
    have nz := fitN_up hn z (by simp [Dd.up])
    have qx := fitN_node nx
    have qy := fitN_node ny
    have qz := fitN_node nz
    exact f_orout (ihx nx qx) (ihy ny qy) (ihz nz qz) (by omega) (by omega) (by omega) _ (fun g h => h) (by omega)
  | fout f x ih =>
    have nx := fitN_up hn x (by simp [Dd.up])
    have qx := fitN_node nx
    have q1 := q.1
    simp only [Dd.told] at q1
    exact f_fout (ih nx qx) (by omega) (by omega) _ (fun g h => h) (by omega)
  | contra f x ih =>
    have nx := fitN_up hn x (by simp [Dd.up])
    have qx := fitN_node nx
    have q1 := q.1
    simp only [Dd.told] at q1
    have := len_sub (opn_nodup (Dd.contra f x)) (fun g h => h) q.2
    simp [Dd.fit, ih nx qx]
    omega
end Law

set_option Elab.async false
set_option linter.all false
set_option maxRecDepth 100000
/-! Deductions made shorter, where no choice is taken apart. -/
namespace Law
open PySem PySem.Spec G

@[simp] theorem cut_to1 (a : D) (r : List D) : cutD (a :: r) none (some 1) = [a] := cut_to (i := 1) (by simp)
@[simp] theorem cut_to2 (a b : D) (r : List D) : cutD (a :: b :: r) none (some 2) = [a, b] := cut_to (i := 2) (by simp)
namespace Dd
/-- no choice taken apart -/
def noor : Dd → Bool
  | .asm _ => true
  | .ifin _ x => x.noor
  | .ifout x y => x.noor && y.noor
  | .andin x y => x.noor && y.noor
  | .ando _ x => x.noor
  | .orin _ _ x => x.noor
  | .orout _ _ _ => false
  | .fout _ x => x.noor
  | .contra _ x => x.noor
def isIfin : Dd → Bool
  | .ifin _ _ => true
  | _ => false
def isAndin : Dd → Bool
  | .andin _ _ => true
  | _ => false
/-- no roundabout at all -/
def dir : Dd → Bool
  | .asm _ => true
  | .ifin _ x => x.dir
  | .ifout x y => !x.isIfin && x.dir && y.dir
  | .andin x y => x.dir && y.dir
  | .ando _ x => !x.isAndin && x.dir
  | .orin _ _ x => x.dir
  | .orout _ _ _ => false
  | .fout _ x => x.dir
  | .contra _ x => x.dir
end Dd
theorem noor_up {x : Dd} (h : x.noor = true) : ∀ y ∈ x.up, y.noor = true := by
  cases x <;> simp_all [Dd.up, Dd.noor]
theorem dir_up {x : Dd} (h : x.dir = true) : ∀ y ∈ x.up, y.dir = true := by
  cases x <;> simp_all [Dd.up, Dd.dir]
def SPut (fp : F1) (f : Fm) (y : Dd) : Prop := ∀ M, fp [encD y, enc f, encD (.asm f)] M = some (encD y, M)
theorem ev_put {fc fp ft : F1} (hc : SCon fc) {f : Fm} (hf : f.dp ≤ 60) {x : Dd} (h : x.noor = true) (ho : x.okf = true) (ih : ∀ y ∈ x.up, SPut fp f y) (M : Mo) :
    fnF 9 (b_put_in_shortening fc fp ft) [encD x, enc f, encD (.asm f)] M = some (encD x, M) := by
  have key : ∀ (lo : Lo), lo.length = 9 → lo[1]? = some (some (enc f)) → lo[2]? = some (some (encD (.asm f))) → compLoop (gName 8) tTrue (mCallN 3 fp (mCons (mVar 8) (mCons (mVar 1) (mCons (mVar 2) mNil)))) [8] (x.up.map encD) lo M = some (x.up.map encD, M) := fun lo hl h1 h2 => by
    have c := comp_map (g := gName 8) (m := mCallN 3 fp (mCons (mVar 8) (mCons (mVar 1) (mCons (mVar 2) mNil)))) (vs := [8]) (lo := lo) (M := M) (ei := encD) (eo := encD) (f := id) x.up fun y hy => by
      have i := ih y hy M
      refine ⟨(wipeD lo [8]).set 8 (some (encD y)), rfl, ?_⟩
      have a8 : ((wipeD lo [8]).set 8 (some (encD y)))[8]? = some (some (encD y)) := by rw [List.getElem?_set_self]; simp [wipeD, hl]
      have a1 : ((wipeD lo [8]).set 8 (some (encD y)))[1]? = some (some (enc f)) := by
        rw [List.getElem?_set_ne (by omega)]
        simp only [wipeD]
        rw [List.getElem?_set_ne (by omega)]
        exact h1
      have a2 : ((wipeD lo [8]).set 8 (some (encD y)))[2]? = some (some (encD (.asm f))) := by
        rw [List.getElem?_set_ne (by omega)]
        simp only [wipeD]
        rw [List.getElem?_set_ne (by omega)]
        exact h2
      simp [a8, a1, a2, i]
    rwa [List.map_id] at c
  cases x with
  | asm g =>
    simp only [Dd.okf, Bool.and_eq_true, decide_eq_true_eq] at ho
    have e := ev_eqf (M := M) (f := g) (g := f) (by omega) (by omega)
    by_cases hg : g = f
    · subst hg
      simp [fnF, b_put_in_shortening, encD, e]
    · simp [fnF, b_put_in_shortening, encD, e, hg]
  | ifin g x =>
    simp only [Dd.okf, Bool.and_eq_true, decide_eq_true_eq] at ho
    have e := ev_eqf (M := M) (f := g) (g := f) (by omega) (by omega)
    by_cases hg : g = f
    · subst hg
      simp [fnF, b_put_in_shortening, encD, e]
    · have k := key [some (encD (.ifin g x)), some (enc f), some (encD (.asm f)), some (.str "ifin"), none, none, some (.int 2), none, none] rfl rfl rfl
      simp [Dd.up, encD] at k
      simp [fnF, b_put_in_shortening, encD, e, hg, k_SIZES_deductions, List.lookup, seqOf, k]
  | ifout x y =>
    have k := key [some (encD (.ifout x y)), some (enc f), some (encD (.asm f)), some (.str "ifout"), none, none, some (.int 1), none, none] rfl rfl rfl
    simp [Dd.up, encD] at k
    simp [fnF, b_put_in_shortening, encD, k_SIZES_deductions, List.lookup, seqOf, k]
  | andin x y =>
    have k := key [some (encD (.andin x y)), some (enc f), some (encD (.asm f)), some (.str "andin"), none, none, some (.int 1), none, none] rfl rfl rfl
    simp [Dd.up, encD] at k
    simp [fnF, b_put_in_shortening, encD, k_SIZES_deductions, List.lookup, seqOf, k]
  | ando b x =>
    cases b
    · have k := key [some (encD (.ando false x)), some (enc f), some (encD (.asm f)), some (.str "andout1"), none, none, some (.int 1), none, none] rfl rfl rfl
      simp [Dd.up, encD] at k
      simp [fnF, b_put_in_shortening, encD, k_SIZES_deductions, List.lookup, seqOf, k]
    · have k := key [some (encD (.ando true x)), some (enc f), some (encD (.asm f)), some (.str "andout2"), none, none, some (.int 1), none, none] rfl rfl rfl
      simp [Dd.up, encD] at k
      simp [fnF, b_put_in_shortening, encD, k_SIZES_deductions, List.lookup, seqOf, k]
  | orin b g x =>
    cases b
    · have k := key [some (encD (.orin false g x)), some (enc f), some (encD (.asm f)), some (.str "orin1"), none, none, some (.int 2), none, none] rfl rfl rfl
      simp [Dd.up, encD] at k
      simp [fnF, b_put_in_shortening, encD, k_SIZES_deductions, List.lookup, seqOf, k]
    · have k := key [some (encD (.orin true g x)), some (enc f), some (encD (.asm f)), some (.str "orin2"), none, none, some (.int 2), none, none] rfl rfl rfl
      simp [Dd.up, encD] at k
      simp [fnF, b_put_in_shortening, encD, k_SIZES_deductions, List.lookup, seqOf, k]
  | orout x y z => simp [Dd.noor] at h
  | fout g x =>
    have k := key [some (encD (.fout g x)), some (enc f), some (encD (.asm f)), some (.str "falseout"), none, none, some (.int 2), none, none] rfl rfl rfl
    simp [Dd.up, encD] at k
    simp [fnF, b_put_in_shortening, encD, k_SIZES_deductions, List.lookup, seqOf, k]
  | contra g x =>
    simp only [Dd.okf, Bool.and_eq_true, decide_eq_true_eq] at ho
    have hn : (no g).dp = g.dp + 1 := dp_no g
    have e := ev_eqf (M := M) (f := no g) (g := f) (by omega) (by omega)
    have c := hc g M
    by_cases hg : no g = f
    · subst hg
      simp [fnF, b_put_in_shortening, encD, c, e]
    · have k := key [some (encD (.contra g x)), some (enc f), some (encD (.asm f)), some (.str "contra"), none, none, some (.int 2), none, none] rfl rfl rfl
      simp [Dd.up, encD] at k
      simp [fnF, b_put_in_shortening, encD, c, e, hg, k_SIZES_deductions, List.lookup, seqOf, k]
/-! ### the steps that take out what was just put in -/
theorem encD_ne (x : Dd) : encD x ≠ .non := by
  cases x with
  | ando b x => cases b <;> simp [encD]
  | orin b f x => cases b <;> simp [encD]
  | _ => simp [encD]
def SSho (fs : F1) (y : Dd) : Prop := ∀ M, fs [encD y] M = some (.non, M)
theorem encD_head (x : Dd) : ∃ (w : String) (r : List D), encD x = .tup (.str (Str.ofString w) :: r) ∧ (x.isIfin = false → w ≠ "ifin") ∧ (x.isAndin = false → w ≠ "andin") := by
  cases x with
  | ando b x => cases b <;> exact ⟨_, _, rfl, by simp, by simp⟩
  | orin b f x => cases b <;> exact ⟨_, _, rfl, by simp, by simp⟩
  | _ => exact ⟨_, _, rfl, by simp [Dd.isIfin], by simp [Dd.isAndin]⟩
theorem ev_shorter_no {fp ft : F1} {x : Dd} (h : x.dir = true) (M : Mo) : fnF 3 (b_shorter fp ft) [encD x] M = some (.non, M) := by
  cases x with
  | ando b x =>
    simp only [Dd.dir, Bool.and_eq_true, Bool.not_eq_true'] at h
    obtain ⟨w, r, e, _, hw⟩ := encD_head x
    have hw := hw h.1
    cases b <;> simp [fnF, b_shorter, encD, inT_words, seqOf, e, hw]
  | orin b f x => cases b <;> simp [fnF, b_shorter, encD, inT_words, seqOf]
  | ifout x y =>
    simp only [Dd.dir, Bool.and_eq_true, Bool.not_eq_true'] at h
    obtain ⟨w, r, e, hw, _⟩ := encD_head x
    have hw := hw h.1.1
    simp [fnF, b_shorter, encD, inT_words, seqOf, e, hw]
  | orout x y z => simp [Dd.dir] at h
  | _ => simp [fnF, b_shorter, encD, inT_words, seqOf]
theorem ev_shorter_use {fp ft : F1} {x : Dd} {f : Fm} (h : SPut fp f x) (M : Mo) : fnF 3 (b_shorter fp ft) [encD (.ifout (.ifin f x) (.asm f))] M = some (encD x, M) := by
  have e := h M
  simp only [encD] at e
  simp [fnF, b_shorter, encD, inT_words, e]
theorem ev_round {fr fs fu : F1} (hu : SUp fu) {x : Dd} {n : Int} {r : Dd → Int} (hs : ∀ M, ∃ d, fs [encD x] M = some (d, M) ∧ (if d = .non then 0 else 1) = n ∧ (∀ M, notNF [d] M = some (.bl (!decide (d = .non)), M))) (ih : ∀ y ∈ x.up, ∀ M, fr [encD y] M = some (.int (r y), M)) (M : Mo) :
    fnF 2 (b_roundabouts fr fs fu) [encD x] M = some (.int (n + (x.up.map r).sum), M) := by
  obtain ⟨d, h1, h2, h3⟩ := hs M
  have c := comp_map (g := gName 1) (m := mCallN 1 fr (mCons (mVar 1) mNil)) (vs := [1]) (lo := [some (encD x), none]) (M := M) (ei := encD) (eo := D.int) (f := r) x.up fun y hy => ⟨_, rfl, by simp [wipeD, ih y hy]⟩
  have hl : x.up.length ≤ 16777216 := by have := up_len x; omega
  have s : sumF [.lst ((x.up.map r).map D.int)] M = some (.int (x.up.map r).sum, M) := by
    unfold sumF
    show (match intsOf ((x.up.map r).map D.int) with | some ns => some (D.int ns.sum, M) | none => none) = _
    rw [intsOf_map]
  have e := hu x M
  have h3 := h3 M
  simp only [List.map_map] at c s
  subst h2
  by_cases hd : d = .non
  · subst hd
    simp at h3
    simp [fnF, b_roundabouts, h1, h3, e, hl, c, s]
  · simp [hd] at h3
    simp [fnF, b_roundabouts, h1, h3, e, hl, c, s, hd]
theorem rg13 : rgD 1 3 = [.int 1, .int 2] := by decide +kernel
theorem rg12 : rgD 1 2 = [.int 1] := by decide +kernel
theorem rg23 : rgD 2 3 = [.int 2] := by decide +kernel
theorem rg22 : rgD 2 2 = [] := by decide +kernel
theorem rg24 : rgD 2 4 = [.int 2, .int 3] := by decide +kernel
theorem rg01 : rgD 0 1 = [.int 0] := by decide +kernel
theorem rg050 : rgD 0 50 = .int 0 :: .int 1 :: rgD 2 50 := by decide +kernel
theorem ev_once_no {fo fs : F1} {x : Dd} (h : x.dir = true) (hs : ∀ M, fs [encD x] M = some (.non, M)) (ih : ∀ y ∈ x.up, ∀ M, fo [encD y] M = some (.non, M)) (M : Mo) : fnF 5 (b_once fo fs) [encD x] M = some (.non, M) := by
  have e := hs M
  cases x with
  | ando b x => cases b <;> simp [Dd.up, encD] at ih e <;> simp [fnF, b_once, encD, e, ih, k_SIZES_deductions, List.lookup, seqOf, rg13, rg12, rg23, rg22, forLoop, runB]
  | orin b f x => cases b <;> simp [Dd.up, encD] at ih e <;> simp [fnF, b_once, encD, e, ih, k_SIZES_deductions, List.lookup, seqOf, rg13, rg12, rg23, rg22, forLoop, runB]
  | orout x y z => simp [Dd.dir] at h
  | _ => simp [Dd.up, encD] at ih e <;> simp [fnF, b_once, encD, e, ih, k_SIZES_deductions, List.lookup, seqOf, rg13, rg12, rg23, rg22, forLoop, runB]
theorem notN_ded (x : Dd) (M : Mo) : notNF [encD x] M = some (.bl true, M) := by
  obtain ⟨w, r, e, _⟩ := encD_head x
  rw [e]
  rfl
theorem isN_ded (x : Dd) (M : Mo) : isNF [encD x] M = some (.bl false, M) := by
  obtain ⟨w, r, e, _⟩ := encD_head x
  rw [e]
  rfl
theorem ev_once_yes {fo fs : F1} {x y : Dd} (hs : ∀ M, fs [encD x] M = some (encD y, M)) (M : Mo) : fnF 5 (b_once fo fs) [encD x] M = some (encD y, M) := by
  simp [fnF, b_once, hs, notN_ded]
theorem ev_short1 {fo : F1} {x y : Dd} (h : ∀ M, fo [encD x] M = some (encD y, M)) (M : Mo) : fnF 4 (b_shortened fo) [encD x, .int 1] M = some (encD y, M) := by
  simp [fnF, b_shortened, rg01, forLoop, runB, h, isN_ded]
theorem ev_short50 {fo : F1} {x y : Dd} (h : ∀ M, fo [encD x] M = some (encD y, M)) (h2 : ∀ M, fo [encD y] M = some (.non, M)) (M : Mo) : fnF 4 (b_shortened fo) [encD x, .int 50] M = some (encD y, M) := by
  simp [fnF, b_shortened, rg050, forLoop, runB, h, h2, isN_ded]
end Law

set_option Elab.async false
set_option linter.all false
set_option maxRecDepth 100000
set_option maxHeartbeats 1000000
/-! Sequent proofs with cuts: forms and faults. -/
namespace Law
open PySem PySem.Spec G

theorem ev_premises_long {fw : F1} (hw : SWith fw) (s : Sq) (o : Op) (l : Bool) (a b : Fm) (r : List D) (M : Mo) (hs : SmallS s) (hm : Fm.bin o a b ∈ (if l then s.1 else s.2)) :
    fnF 8 (b_premises fw) [seqD s, .tup (.str (Str.ofString (o.wd l)) :: enc (.bin o a b) :: r)] M = some (.lst ((prem o l a b s).map seqD), M) := by
  obtain ⟨L, R⟩ := s
  obtain ⟨h1, h2, h3, h4⟩ := hs
  simp only at h1 h2 h3 h4 hm
  have hd : (Fm.bin o a b).dp ≤ 8 := by
    cases l
    · exact h4 _ hm
    · exact h3 _ hm
  have ha : a.dp ≤ 8 := by rw [Fm.dp] at hd; omega
  have hb : b.dp ≤ 8 := by rw [Fm.dp] at hd; omega
  have sL : Small L := ⟨by omega, h3⟩
  have sR : Small R := ⟨by omega, h4⟩
  have wl1 := fun f hf M => hw L f M sL hf
  have wr1 := fun f hf M => hw R f M sR hf
  have wl2 := hw (wOne L a) b
  have wr2 := hw (wOne R a) b
  have sla : Small (wOne L a) := small_wOne (by omega) h3 ha
  have sra : Small (wOne R a) := small_wOne (by omega) h4 ha
  have iL := fun M => ev_nin_enc (f := .bin o a b) (fs := L) (M := M) (by omega) (fun g hg => by have := h3 g hg; omega)
  have iR := fun M => ev_nin_enc (f := .bin o a b) (fs := R) (M := M) (by omega) (fun g hg => by have := h4 g hg; omega)
  obtain ⟨e1, e2, e3, e4, e5, e6⟩ := ends_words
  cases o <;> cases l <;> simp only [if_true, Bool.false_eq_true, if_false] at hm <;>
    simp [fnF, b_premises, seqD, Op.wd, Op.w, prem, adds, addAll, ev_nin_pairs, ev_nin_two, iL, iR, hm, e1, e2, e3, e4, e5, e6, wl1, wr1, wl2, wr2, ha, hb, sla, sra]

theorem cut_over (a : D) : cutD [a] (some 2) none = [] := rfl
theorem isN_lst (es : List D) (M : Mo) : isNF [.lst es] M = some (.bl false, M) := rfl
theorem notN_non (M : Mo) : notNF [.non] M = some (.bl false, M) := rfl
inductive Cp where
  | fls
  | ax (f : Fm)
  | cut (f : Fm) (p q : Cp)
  | one (o : Op) (l : Bool) (a b : Fm) (p : Cp)
  | two (o : Op) (l : Bool) (a b : Fm) (p q : Cp)
def cpD : Cp → D
  | .fls => .tup [.str "false"]
  | .ax f => .tup [.str "axiom", enc f]
  | .cut f p q => .tup [.str "cut", enc f, cpD p, cpD q]
  | .one o l a b p => .tup [.str (Str.ofString (o.wd l)), enc (.bin o a b), cpD p]
  | .two o l a b p q => .tup [.str (Str.ofString (o.wd l)), enc (.bin o a b), cpD p, cpD q]
/-- two premises? -/
def Op.tw : Op → Bool → Bool
  | .imp, l => l
  | .and, l => !l
  | .or, l => l
namespace Cp
def ht : Cp → Nat
  | .fls | .ax _ => 0
  | .cut _ p q => max p.ht q.ht + 1
  | .one _ _ _ _ p => p.ht + 1
  | .two _ _ _ _ p q => max p.ht q.ht + 1
def sz : Cp → Nat
  | .fls | .ax _ => 1
  | .cut _ p q => p.sz + q.sz + 1
  | .one _ _ _ _ p => p.sz + 1
  | .two _ _ _ _ p q => p.sz + q.sz + 1
/-- formulas well made; words with as many proofs as they take -/
def okc : Cp → Bool
  | .fls => true
  | .ax f => f.ok && decide (f.dp ≤ 8)
  | .cut f p q => f.ok && decide (f.dp ≤ 8) && p.okc && q.okc
  | .one o l a b p => (Fm.bin o a b).ok && decide ((Fm.bin o a b).dp ≤ 8) && !o.tw l && p.okc
  | .two o l a b p q => (Fm.bin o a b).ok && decide ((Fm.bin o a b).dp ≤ 8) && o.tw l && p.okc && q.okc
def chk : Sq → Cp → Bool
  | s, .fls => decide (Fm.fls ∈ s.1)
  | s, .ax f => decide (f ∈ s.1) && decide (f ∈ s.2)
  | s, .cut f p q => chk (s.1, wOne s.2 f) p && chk (wOne s.1 f, s.2) q
  | s, .one o l a b p => decide (Fm.bin o a b ∈ (if l then s.1 else s.2)) && (match prem o l a b s with | [t] => chk t p | _ => false)
  | s, .two o l a b p q => decide (Fm.bin o a b ∈ (if l then s.1 else s.2)) && (match prem o l a b s with | [t, u] => chk t p && chk u q | _ => false)
def up : Cp → List Cp
  | .fls | .ax _ => []
  | .cut _ p q => [p, q]
  | .one _ _ _ _ p => [p]
  | .two _ _ _ _ p q => [p, q]
end Cp
def SFc (fh : F1) (p : Cp) : Prop := ∀ (d : Nat) (M : Mo), p.ht < d → fh [cpD p, .int (d : Int)] M = some (.bl true, M)
theorem ev_formc {fh fs : F1} (hs : ∀ f M, f.ok = true → f.dp ≤ 13 → fs [enc f, .int 12] M = some (.bl true, M)) {p : Cp} (ho : p.okc = true) (ih : ∀ y ∈ p.up, SFc fh y) (d : Nat) (M : Mo) (hd : p.ht < d) :
    fnF 3 (b_has_form_sequents fh fs) [cpD p, .int (d : Int)] M = some (.bl true, M) := by
  obtain ⟨e, rfl⟩ : ∃ e, d = e + 1 := ⟨d - 1, by omega⟩
  have z : ¬ ((e : Int) + 1 = 0) := by omega
  have s1 : (e : Int) + 1 - 1 = e := by omega
  cases p with
  | fls => simp [fnF, b_has_form_sequents, cpD, k_SIZES_sequents, List.lookup, seqOf, z, g_DEEPEST_formulas, allF, boolsOf, compLoop, cut_over]
  | ax f =>
    simp only [Cp.okc, Bool.and_eq_true, decide_eq_true_eq] at ho
    have h := hs f M ho.1 (by omega)
    simp [fnF, b_has_form_sequents, cpD, k_SIZES_sequents, List.lookup, seqOf, z, g_DEEPEST_formulas, h, allF, boolsOf, compLoop, cut_over]
  | cut f p q =>
    simp only [Cp.okc, Bool.and_eq_true, decide_eq_true_eq] at ho
    have h := hs f M ho.1.1.1 (by omega)
    rw [Cp.ht] at hd
    have i1 := ih p (by simp [Cp.up]) e M (by omega)
    have i2 := ih q (by simp [Cp.up]) e M (by omega)
    simp [fnF, b_has_form_sequents, cpD, k_SIZES_sequents, List.lookup, seqOf, z, g_DEEPEST_formulas, h, allF, boolsOf, compLoop, s1, i1, i2, wipeD]
  | one o l a b p =>
    simp only [Cp.okc, Bool.and_eq_true, decide_eq_true_eq] at ho
    have h := hs (.bin o a b) M ho.1.1.1 (by omega)
    rw [Cp.ht] at hd
    have i1 := ih p (by simp [Cp.up]) e M (by omega)
    cases o <;> cases l <;> simp [Op.tw] at ho <;> simp [fnF, b_has_form_sequents, cpD, Op.wd, k_SIZES_sequents, List.lookup, seqOf, z, g_DEEPEST_formulas, h, allF, boolsOf, compLoop, s1, i1, wipeD]
  | two o l a b p q =>
    simp only [Cp.okc, Bool.and_eq_true, decide_eq_true_eq] at ho
    have h := hs (.bin o a b) M ho.1.1.1.1 (by omega)
    rw [Cp.ht] at hd
    have i1 := ih p (by simp [Cp.up]) e M (by omega)
    have i2 := ih q (by simp [Cp.up]) e M (by omega)
    cases o <;> cases l <;> simp [Op.tw] at ho <;> simp [fnF, b_has_form_sequents, cpD, Op.wd, k_SIZES_sequents, List.lookup, seqOf, z, g_DEEPEST_formulas, h, allF, boolsOf, compLoop, s1, i1, i2, wipeD]
/-! ### the steps -/
def SStp (fs : F1) (p : Cp) (s : Sq) : Prop := ∀ (n : Int) (M : Mo), fs [seqD s, cpD p, .int n, .bl true] M = some (.tup [.non, .int (n + p.sz)], M)
theorem ev_prem_fls {fw : F1} {s : Sq} (hs : SmallS s) (h : Fm.fls ∈ s.1) (M : Mo) : fnF 8 (b_premises fw) [seqD s, cpD .fls] M = some (.lst [], M) := by
  obtain ⟨L, R⟩ := s
  have i := ev_in_enc (f := .fls) (fs := L) (M := M) (by decide) (fun g hg => by have := hs.dl g hg; omega)
  simp only at h
  simp [fnF, b_premises, seqD, cpD, i, h]
theorem ev_prem_ax {fw : F1} {s : Sq} {f : Fm} (hs : SmallS s) (h1 : f ∈ s.1) (h2 : f ∈ s.2) (M : Mo) : fnF 8 (b_premises fw) [seqD s, cpD (.ax f)] M = some (.lst [], M) := by
  obtain ⟨L, R⟩ := s
  have hf := hs.dl f h1
  have i := ev_in_enc (f := f) (fs := L) (M := M) (by omega) (fun g hg => by have := hs.dl g hg; omega)
  have j := ev_in_enc (f := f) (fs := R) (M := M) (by omega) (fun g hg => by have := hs.dr g hg; omega)
  simp only at h1 h2
  simp [fnF, b_premises, seqD, cpD, i, j, h1, h2]
theorem ev_prem_cut {fw : F1} (hw : SWith fw) {s : Sq} {f : Fm} {p q : Cp} (hs : SmallS s) (hf : f.dp ≤ 8) (M : Mo) : fnF 8 (b_premises fw) [seqD s, cpD (.cut f p q)] M = some (.lst [seqD (s.1, wOne s.2 f), seqD (wOne s.1 f, s.2)], M) := by
  obtain ⟨L, R⟩ := s
  obtain ⟨h1, h2, h3, h4⟩ := hs
  simp only at h1 h2 h3 h4
  have sL : Small L := ⟨by omega, h3⟩
  have sR : Small R := ⟨by omega, h4⟩
  have wl := hw L f M sL hf
  have wr := hw R f M sR hf
  simp [fnF, b_premises, seqD, cpD, wl, wr]
def SPr (fp : F1) (p : Cp) (s : Sq) : Prop := ∀ M, fp [seqD s, cpD p] M = some (.lst (match p with
  | .fls | .ax _ => []
  | .cut f _ _ => [seqD (s.1, wOne s.2 f), seqD (wOne s.1 f, s.2)]
  | .one o l a b _ => (prem o l a b s).map seqD
  | .two o l a b _ _ => (prem o l a b s).map seqD), M)
theorem ev_prems {fw : F1} (hw : SWith fw) {s : Sq} {p : Cp} (hs : SmallS s) (ho : p.okc = true) (hc : p.chk s = true) : SPr (fnF 8 (b_premises fw)) p s := fun M => by
  cases p with
  | fls => exact ev_prem_fls hs (by simpa [Cp.chk] using hc) M
  | ax f =>
    simp [Cp.chk] at hc
    exact ev_prem_ax hs hc.1 hc.2 M
  | cut f p q =>
    simp only [Cp.okc, Bool.and_eq_true, decide_eq_true_eq] at ho
    exact ev_prem_cut hw hs ho.1.1.2 M
  | one o l a b p =>
    simp only [Cp.chk, Bool.and_eq_true, decide_eq_true_eq] at hc
    exact ev_premises_long hw s o l a b _ M hs hc.1
  | two o l a b p q =>
    simp only [Cp.chk, Bool.and_eq_true, decide_eq_true_eq] at hc
    exact ev_premises_long hw s o l a b _ M hs hc.1
/-- the sequents above -/
def Cp.above : Cp → Sq → List (Cp × Sq)
  | .fls, _ | .ax _, _ => []
  | .cut f p q, s => [(p, (s.1, wOne s.2 f)), (q, (wOne s.1 f, s.2))]
  | .one o l a b p, s => match prem o l a b s with | [t] => [(p, t)] | _ => []
  | .two o l a b p q, s => match prem o l a b s with | [t, u] => [(p, t), (q, u)] | _ => []
theorem ev_stepc {fp fs : F1} {s : Sq} {p : Cp} (hc : p.chk s = true) (hp : SPr fp p s) (ih : ∀ x ∈ p.above s, SStp fs x.1 x.2) (n : Int) (M : Mo) :
    fnF 9 (b_step_fault fp fs) [seqD s, cpD p, .int n, .bl true] M = some (.tup [.non, .int (n + p.sz)], M) := by
  have e := hp M
  cases p with
  | fls => simp [fnF, b_step_fault, cpD] at e ⊢ <;> simp [e, Cp.sz, isN_lst, notN_non, cut_over, kindOf, zipD, forLoop, seqOf]
  | ax f => simp [fnF, b_step_fault, cpD] at e ⊢ <;> simp [e, Cp.sz, isN_lst, notN_non, cut_over, kindOf, zipD, forLoop, seqOf]
  | cut f p q =>
    have i1 := fun n => ih (p, (s.1, wOne s.2 f)) (by simp [Cp.above]) n M
    have i2 := fun n => ih (q, (wOne s.1 f, s.2)) (by simp [Cp.above]) n M
    simp only at i1 i2
    have z : n + 1 + (p.sz : Int) + q.sz = n + ((p.sz + q.sz + 1 : Nat) : Int) := by push_cast; omega
    simp [fnF, b_step_fault, cpD] at e ⊢
    simp [e, Cp.sz, isN_lst, notN_non, cut_over, kindOf, zipD, forLoop, runB, seqOf, i1, i2] <;> omega
  | one o l a b p =>
    simp only [Cp.chk, Bool.and_eq_true, decide_eq_true_eq] at hc
    have h2 := hc.2
    simp only [Cp.above] at ih
    simp only at e
    split at h2
    · rename_i t ht
      rw [ht] at ih e
      have i1 := fun n => ih (p, t) (by simp) n M
      simp only at i1
      cases o <;> cases l <;> simp [fnF, b_step_fault, cpD, Op.wd] at e ⊢ <;> simp [e, Cp.sz, isN_lst, notN_non, cut_over, kindOf, zipD, forLoop, runB, seqOf, i1] <;> omega
    · cases h2
  | two o l a b p q =>
    simp only [Cp.chk, Bool.and_eq_true, decide_eq_true_eq] at hc
    have h2 := hc.2
    simp only [Cp.above] at ih
    simp only at e
    split at h2
    · rename_i t u ht
      rw [ht] at ih e
      have i1 := fun n => ih (p, t) (by simp) n M
      have i2 := fun n => ih (q, u) (by simp) n M
      simp only at i1 i2
      cases o <;> cases l <;> simp [fnF, b_step_fault, cpD, Op.wd] at e ⊢ <;> simp [e, Cp.sz, isN_lst, notN_non, cut_over, kindOf, zipD, forLoop, runB, seqOf, i1, i2] <;> omega
    · cases h2
end Law

set_option Elab.async false
set_option linter.all false
set_option maxRecDepth 100000
set_option maxHeartbeats 1000000
/-! Deductions made to sequent proofs with cuts. -/
namespace Law
open PySem PySem.Spec G

namespace Dd
def lh : Fm → Fm
  | .bin _ a _ => a
  | _ => .fls
def rh : Fm → Fm
  | .bin _ _ b => b
  | _ => .fls
def cuts : Dd → Cp
  | .asm f => .ax f
  | .ifin f x => .one .imp false f x.told x.cuts
  | .ifout x y => .cut x.told x.cuts (.two .imp true (lh x.told) (rh x.told) y.cuts (.ax (Dd.ifout x y).told))
  | .andin x y => .two .and false x.told y.told x.cuts y.cuts
  | .ando k x => .cut x.told x.cuts (.one .and true (lh x.told) (rh x.told) (.ax (Dd.ando k x).told))
  | .orin k f x => .one .or false (lh (Dd.orin k f x).told) (rh (Dd.orin k f x).told) x.cuts
  | .orout x y z => .cut x.told x.cuts (.two .or true (lh x.told) (rh x.told) y.cuts z.cuts)
  | .fout f x => .cut .fls x.cuts .fls
  | .contra f x => .cut (no f) (.one .imp false f .fls (.ax f)) (.cut .fls x.cuts .fls)
end Dd
theorem imp_of_rt {x y : Dd} (h : (Dd.ifout x y).rt = true) : ∃ b, x.told = .bin .imp y.told b := by
  simp only [Dd.rt, Bool.and_eq_true] at h
  have h2 := h.2
  split at h2
  · rename_i a b e
    rw [decide_eq_true_eq] at h2
    exact ⟨b, by rw [e, h2]⟩
  · cases h2
theorem isB_imp {o : Op} {f : Fm} (h : Dd.isB o f = true) : ∃ a b, f = .bin o a b := by
  cases f with
  | bin p a b =>
    simp only [Dd.isB, decide_eq_true_eq] at h
    exact ⟨a, b, by rw [h]⟩
  | _ => cases h
@[simp] theorem at_lst2 (a b c : D) (r : List D) (M : Mo) : atF [.lst (a :: b :: c :: r), .int 2] M = some (c, M) := ev_at (t := false) (i := 2) rfl rfl
theorem enc_fls : enc .fls = .tup [.str "false"] := rfl
theorem enc_no (f : Fm) : enc (no f) = .tup [.str "if", enc f, .tup [.str "false"]] := rfl
theorem ev_tocuts {fc ft ftl fu : F1} (hc : SCon fc) (hu : SUp fu) {x : Dd} (hr : x.rt = true) (htx : STld ftl x) (htu : ∀ y ∈ x.up, STld ftl y) (ih : ∀ y ∈ x.up, ∀ M, ft [encD y] M = some (cpD y.cuts, M)) (M : Mo) :
    fnF 7 (b_to_cuts fc ft ftl fu) [encD x] M = some (cpD x.cuts, M) := by
  have e := hu x M
  have t := htx M
  cases x with
  | asm f => simp [fnF, b_to_cuts, encD, Dd.cuts, cpD]
  | ifin f x =>
    have t1 := htu x (by simp [Dd.up]) M
    have c1 := ih x (by simp [Dd.up]) M
    simp [encD, Dd.up, Dd.told] at e t
    simp [fnF, b_to_cuts, encD, Dd.cuts, cpD, e, t, t1, c1, compLoop, wipeD, seqOf, Op.wd]
  | ifout x y =>
    obtain ⟨b, hb⟩ := imp_of_rt hr
    have t1 := htu x (by simp [Dd.up]) M
    have c1 := ih x (by simp [Dd.up]) M
    have t2 := htu y (by simp [Dd.up]) M
    have c2 := ih y (by simp [Dd.up]) M
    simp [encD, Dd.up, Dd.told, hb] at e t
    rw [hb] at t1
    simp [fnF, b_to_cuts, encD, Dd.cuts, cpD, e, t, t1, c1, t2, c2, compLoop, wipeD, seqOf, Op.wd, hb, Dd.lh, Dd.rh, Dd.told]
  | andin x y =>
    have t1 := htu x (by simp [Dd.up]) M
    have c1 := ih x (by simp [Dd.up]) M
    have t2 := htu y (by simp [Dd.up]) M
    have c2 := ih y (by simp [Dd.up]) M
    simp [encD, Dd.up, Dd.told] at e t
    simp [fnF, b_to_cuts, encD, Dd.cuts, cpD, e, t, t1, c1, t2, c2, compLoop, wipeD, seqOf, Op.wd, Dd.told]
  | ando k x =>
    simp only [Dd.rt, Bool.and_eq_true] at hr
    obtain ⟨a, b, hb⟩ := isB_imp hr.2
    have t1 := htu x (by simp [Dd.up]) M
    have c1 := ih x (by simp [Dd.up]) M
    rw [hb] at t1
    cases k <;> simp [encD, Dd.up, Dd.told, hb] at e t <;>
      simp [fnF, b_to_cuts, encD, Dd.cuts, cpD, e, t, t1, c1, compLoop, wipeD, seqOf, Op.wd, hb, Dd.lh, Dd.rh, Dd.told, inT_words]
  | orin k f x =>
    have t1 := htu x (by simp [Dd.up]) M
    have c1 := ih x (by simp [Dd.up]) M
    cases k <;> simp [encD, Dd.up, Dd.told] at e t <;>
      simp [fnF, b_to_cuts, encD, Dd.cuts, cpD, e, t, t1, c1, compLoop, wipeD, seqOf, Op.wd, Dd.lh, Dd.rh, Dd.told, inT_words]
  | orout x y z =>
    simp only [Dd.rt, Bool.and_eq_true] at hr
    obtain ⟨a, b, hb⟩ := isB_imp hr.1.2
    have t1 := htu x (by simp [Dd.up]) M
    have c1 := ih x (by simp [Dd.up]) M
    have t2 := htu y (by simp [Dd.up]) M
    have c2 := ih y (by simp [Dd.up]) M
    have t3 := htu z (by simp [Dd.up]) M
    have c3 := ih z (by simp [Dd.up]) M
    simp [encD, Dd.up, Dd.told, hb] at e t
    rw [hb] at t1
    simp [fnF, b_to_cuts, encD, Dd.cuts, cpD, e, t, t1, c1, t2, c2, t3, c3, compLoop, wipeD, seqOf, Op.wd, hb, Dd.lh, Dd.rh, Dd.told, inT_words]
  | fout f x =>
    have t1 := htu x (by simp [Dd.up]) M
    have c1 := ih x (by simp [Dd.up]) M
    simp [encD, Dd.up, Dd.told] at e t
    simp [fnF, b_to_cuts, encD, Dd.cuts, cpD, e, t, t1, c1, compLoop, wipeD, seqOf, Op.wd, inT_words, enc_fls]
  | contra f x =>
    have t1 := htu x (by simp [Dd.up]) M
    have c1 := ih x (by simp [Dd.up]) M
    have cc := hc f M
    simp [encD, Dd.up, Dd.told] at e t
    simp [fnF, b_to_cuts, encD, Dd.cuts, cpD, e, t, t1, c1, cc, compLoop, wipeD, seqOf, Op.wd, inT_words, enc_fls]
/-! ### what they prove -/
theorem cuts_chk {x : Dd} (h : x.rt = true) : ∀ s : Sq, (∀ g ∈ x.opn, g ∈ s.1) → x.told ∈ s.2 → x.cuts.chk s = true := by
  induction x with
  | asm f => intro s h1 h2; simp [Dd.cuts, Cp.chk, h1 f (by simp [Dd.opn])]; simpa [Dd.told] using h2
  | ifin f x ih =>
    intro s h1 h2
    rw [Dd.told] at h2
    simp only [Dd.cuts, Cp.chk, Bool.and_eq_true, decide_eq_true_eq, prem, adds, List.map_cons, List.map_nil, addAll, List.foldl_cons, List.foldl_nil]
    refine ⟨by simpa using h2, ih h _ (fun g hg => mem_wOne.mpr ?_) (mem_wOne.mpr (.inr rfl))⟩
    by_cases e : g = f
    · exact .inr e
    · exact .inl (h1 g (o_ifin.mpr ⟨hg, e⟩))
  | ifout x y ihx ihy =>
    intro s h1 h2
    obtain ⟨b, hb⟩ := imp_of_rt h
    simp only [Dd.rt, Bool.and_eq_true] at h
    rw [t_ifout hb] at h2
    simp only [Dd.cuts, hb, t_ifout hb, Dd.lh, Dd.rh, Cp.chk, Bool.and_eq_true, decide_eq_true_eq, prem, adds, List.map_cons, List.map_nil, addAll, List.foldl_cons, List.foldl_nil, if_true]
    refine ⟨ihx h.1.1 _ (fun g hg => h1 g (o_ifout.mpr (.inl hg))) (mem_wOne.mpr (.inr hb)), mem_wOne.mpr (.inr rfl), ihy h.1.2 _ (fun g hg => mem_wOne.mpr (.inl (h1 g (o_ifout.mpr (.inr hg))))) (mem_wOne.mpr (.inr rfl)), mem_wOne.mpr (.inr rfl), h2⟩
  | andin x y ihx ihy =>
    intro s h1 h2
    simp only [Dd.rt, Bool.and_eq_true] at h
    rw [Dd.told] at h2
    simp only [Dd.cuts, Cp.chk, Bool.and_eq_true, decide_eq_true_eq, prem, adds, List.map_cons, List.map_nil, addAll, List.foldl_cons, List.foldl_nil]
    exact ⟨by simpa using h2, ihx h.1 _ (fun g hg => h1 g (o_andin.mpr (.inl hg))) (mem_wOne.mpr (.inr rfl)), ihy h.2 _ (fun g hg => h1 g (o_andin.mpr (.inr hg))) (mem_wOne.mpr (.inr rfl))⟩
  | ando k x ih =>
    intro s h1 h2
    simp only [Dd.rt, Bool.and_eq_true] at h
    obtain ⟨a, b, hb⟩ := isB_imp h.2
    have ht : (Dd.ando k x).told = if k then b else a := by rw [Dd.told, hb]
    rw [ht] at h2
    simp only [Dd.cuts, hb, ht, Dd.lh, Dd.rh, Cp.chk, Bool.and_eq_true, decide_eq_true_eq, prem, adds, List.map_cons, List.map_nil, addAll, List.foldl_cons, List.foldl_nil, if_true]
    refine ⟨ih h.1 _ (fun g hg => h1 g (o_ando.mpr hg)) (mem_wOne.mpr (.inr hb)), mem_wOne.mpr (.inr rfl), ?_, h2⟩
    cases k
    · exact mem_wOne.mpr (.inl (mem_wOne.mpr (.inr rfl)))
    · exact mem_wOne.mpr (.inr rfl)
  | orin k f x ih =>
    intro s h1 h2
    have hx : ∀ g ∈ x.opn, g ∈ s.1 := fun g hg => h1 g (o_orin.mpr hg)
    cases k
    · have ht : (Dd.orin false f x).told = .bin .or x.told f := rfl
      rw [ht] at h2
      simp only [Dd.cuts, ht, Dd.lh, Dd.rh, Cp.chk, Bool.and_eq_true, decide_eq_true_eq, prem, adds, List.map_cons, List.map_nil, addAll, List.foldl_cons, List.foldl_nil]
      exact ⟨by simpa using h2, ih h _ hx (mem_wOne.mpr (.inl (mem_wOne.mpr (.inr rfl))))⟩
    · have ht : (Dd.orin true f x).told = .bin .or f x.told := rfl
      rw [ht] at h2
      simp only [Dd.cuts, ht, Dd.lh, Dd.rh, Cp.chk, Bool.and_eq_true, decide_eq_true_eq, prem, adds, List.map_cons, List.map_nil, addAll, List.foldl_cons, List.foldl_nil]
      exact ⟨by simpa using h2, ih h _ hx (mem_wOne.mpr (.inr rfl))⟩
  | orout x y z ihx ihy ihz =>
    intro s h1 h2
    simp only [Dd.rt, Bool.and_eq_true, decide_eq_true_eq] at h
    obtain ⟨a, b, hb⟩ := isB_imp h.1.2
    rw [Dd.told] at h2
    simp only [Dd.cuts, hb, Dd.lh, Dd.rh, Cp.chk, Bool.and_eq_true, decide_eq_true_eq, prem, adds, List.map_cons, List.map_nil, addAll, List.foldl_cons, List.foldl_nil, if_true]
    refine ⟨ihx h.1.1.1.1 _ (fun g hg => h1 g ((o_orout hb).mpr (.inl hg))) (mem_wOne.mpr (.inr hb)), mem_wOne.mpr (.inr rfl), ihy h.1.1.1.2 _ (fun g hg => ?_) h2, ihz h.1.1.2 _ (fun g hg => ?_) (by rw [← h.2]; exact h2)⟩
    · by_cases e : g = a
      · exact mem_wOne.mpr (.inr e)
      · exact mem_wOne.mpr (.inl (mem_wOne.mpr (.inl (h1 g ((o_orout hb).mpr (.inr (.inl ⟨hg, e⟩)))))))
    · by_cases e : g = b
      · exact mem_wOne.mpr (.inr e)
      · exact mem_wOne.mpr (.inl (mem_wOne.mpr (.inl (h1 g ((o_orout hb).mpr (.inr (.inr ⟨hg, e⟩)))))))
  | fout f x ih =>
    intro s h1 h2
    simp only [Dd.rt, Bool.and_eq_true, decide_eq_true_eq] at h
    simp only [Dd.cuts, Cp.chk, Bool.and_eq_true, decide_eq_true_eq]
    exact ⟨ih h.1 _ (fun g hg => h1 g (o_fout.mpr hg)) (mem_wOne.mpr (.inr h.2)), mem_wOne.mpr (.inr rfl)⟩
  | contra f x ih =>
    intro s h1 h2
    simp only [Dd.rt, Bool.and_eq_true, decide_eq_true_eq] at h
    rw [Dd.told] at h2
    simp only [Dd.cuts, Cp.chk, Bool.and_eq_true, decide_eq_true_eq, prem, adds, List.map_cons, List.map_nil, addAll, List.foldl_cons, List.foldl_nil]
    refine ⟨⟨by simpa [no] using mem_wOne.mpr (.inr rfl), mem_wOne.mpr (.inr rfl), mem_wOne.mpr (.inl (mem_wOne.mpr (.inl h2)))⟩, ih h.1 _ (fun g hg => ?_) (mem_wOne.mpr (.inr h.2)), mem_wOne.mpr (.inr rfl)⟩
    by_cases e : g = no f
    · exact mem_wOne.mpr (.inr e)
    · exact mem_wOne.mpr (.inl (h1 g (o_contra.mpr ⟨hg, e⟩)))
end Law

set_option Elab.async false
set_option linter.all false
set_option maxRecDepth 100000
set_option maxHeartbeats 1000000
/-! Sequent proofs with cuts: no fault. -/
namespace Law
open PySem PySem.Spec G

/-- with room for n steps -/
structure Sm (n : Nat) (s : Sq) : Prop where
  l : s.1.length + 2 * n < 60
  r : s.2.length + 2 * n < 60
  dl : ∀ f ∈ s.1, f.dp ≤ 8
  dr : ∀ f ∈ s.2, f.dp ≤ 8
theorem Sm.sm {n : Nat} {s : Sq} (h : Sm n s) : SmallS s := ⟨by have := h.l; omega, by have := h.r; omega, h.dl, h.dr⟩
theorem Sm.le {n m : Nat} {s : Sq} (h : Sm n s) (hm : m ≤ n) : Sm m s := ⟨by have := h.l; omega, by have := h.r; omega, h.dl, h.dr⟩
theorem wOne_dp {s : List Fm} {f : Fm} {n : Nat} (h : ∀ g ∈ s, g.dp ≤ n) (hf : f.dp ≤ n) : ∀ g ∈ wOne s f, g.dp ≤ n := fun g hg => (mem_wOne.mp hg).elim (h g) fun e => by rw [e]; exact hf
theorem Sm.cutl {n : Nat} {s : Sq} {f : Fm} (h : Sm (n + 1) s) (hf : f.dp ≤ 8) : Sm n (wOne s.1 f, s.2) := ⟨by have := h.l; have := wOne_len s.1 f; simp only; omega, by have := h.r; simp only; omega, wOne_dp h.dl hf, h.dr⟩
theorem Sm.cutr {n : Nat} {s : Sq} {f : Fm} (h : Sm (n + 1) s) (hf : f.dp ≤ 8) : Sm n (s.1, wOne s.2 f) := ⟨by have := h.l; simp only; omega, by have := h.r; have := wOne_len s.2 f; simp only; omega, h.dl, wOne_dp h.dr hf⟩
theorem Sm.prem {n : Nat} {s t : Sq} {o : Op} {l : Bool} {a b : Fm} (h : Sm (n + 1) s) (ha : a.dp ≤ 8) (hb : b.dp ≤ 8) (ht : t ∈ prem o l a b s) : Sm n t := by
  have h1 := h.l
  have h2 := h.r
  have la := wOne_len s.1 a
  have lb := wOne_len s.1 b
  have ra := wOne_len s.2 a
  have rb := wOne_len s.2 b
  have lab := wOne_len (wOne s.1 a) b
  have rab := wOne_len (wOne s.2 a) b
  have dla := wOne_dp h.dl ha
  have dlb := wOne_dp h.dl hb
  have dra := wOne_dp h.dr ha
  have drb := wOne_dp h.dr hb
  have dlab := wOne_dp dla hb
  have drab := wOne_dp dra hb
  cases o <;> cases l <;> simp only [Law.prem, adds, addAll, List.map_cons, List.map_nil, List.foldl_cons, List.foldl_nil, List.mem_cons, List.not_mem_nil, or_false] at ht
  · subst ht; exact ⟨by simp only; omega, by simp only; omega, dla, drb⟩
  · rcases ht with rfl | rfl
    · exact ⟨by simp only; omega, by simp only; omega, h.dl, dra⟩
    · exact ⟨by simp only; omega, by simp only; omega, dlb, h.dr⟩
  · rcases ht with rfl | rfl
    · exact ⟨by simp only; omega, by simp only; omega, h.dl, dra⟩
    · exact ⟨by simp only; omega, by simp only; omega, h.dl, drb⟩
  · subst ht; exact ⟨by simp only; omega, by simp only; omega, dlab, h.dr⟩
  · subst ht; exact ⟨by simp only; omega, by simp only; omega, h.dl, drab⟩
  · rcases ht with rfl | rfl
    · exact ⟨by simp only; omega, by simp only; omega, dla, h.dr⟩
    · exact ⟨by simp only; omega, by simp only; omega, dlb, h.dr⟩
theorem step_tower {fS fP : Nat → F1} (h1 : ∀ k, fS (k + 1) = fnF 9 (b_step_fault (fP k) (fS k))) (h2 : ∀ k p s, 2 ≤ k → SmallS s → Cp.okc p = true → p.chk s = true → SPr (fP k) p s) :
    ∀ (p : Cp) (s : Sq) (k : Nat), p.okc = true → p.chk s = true → Sm (p.ht + 1) s → p.ht + 3 ≤ k → SStp (fS k) p s := by
  intro p
  induction p with
  | fls =>
    intro s k ho hc hs hk n M
    obtain ⟨k, rfl⟩ : ∃ j, k = j + 1 := ⟨k - 1, by omega⟩
    rw [h1]
    exact ev_stepc hc (h2 k _ s (by omega) hs.sm ho hc) (fun x hx => by simp [Cp.above] at hx) n M
  | ax f =>
    intro s k ho hc hs hk n M
    obtain ⟨k, rfl⟩ : ∃ j, k = j + 1 := ⟨k - 1, by omega⟩
    rw [h1]
    exact ev_stepc hc (h2 k _ s (by omega) hs.sm ho hc) (fun x hx => by simp [Cp.above] at hx) n M
  | cut f p q ihp ihq =>
    intro s k ho hc hs hk n M
    obtain ⟨k, rfl⟩ : ∃ j, k = j + 1 := ⟨k - 1, by omega⟩
    rw [h1]
    rw [Cp.ht] at hk hs
    refine ev_stepc hc (h2 k _ s (by omega) hs.sm ho hc) (fun x hx => ?_) n M
    simp only [Cp.okc, Bool.and_eq_true, decide_eq_true_eq] at ho
    simp only [Cp.chk, Bool.and_eq_true] at hc
    simp only [Cp.above, List.mem_cons, List.not_mem_nil, or_false] at hx
    rcases hx with rfl | rfl
    · exact ihp _ k ho.1.2 hc.1 ((hs.cutr ho.1.1.2).le (by omega)) (by omega)
    · exact ihq _ k ho.2 hc.2 ((hs.cutl ho.1.1.2).le (by omega)) (by omega)
  | one o l a b p ih =>
    intro s k ho hc hs hk n M
    obtain ⟨k, rfl⟩ : ∃ j, k = j + 1 := ⟨k - 1, by omega⟩
    rw [h1]
    rw [Cp.ht] at hk hs
    refine ev_stepc hc (h2 k _ s (by omega) hs.sm ho hc) (fun x hx => ?_) n M
    simp only [Cp.okc, Fm.dp, Bool.and_eq_true, decide_eq_true_eq] at ho
    simp only [Cp.chk, Bool.and_eq_true] at hc
    have hc2 := hc.2
    simp only [Cp.above] at hx
    split at hc2
    · rename_i t ht
      rw [ht] at hx
      simp only [List.mem_cons, List.not_mem_nil, or_false] at hx
      subst hx
      have hdp := of_decide_eq_true ho.1.1.2
      exact ih _ k ho.2 hc2 ((hs.prem (t := t) (o := o) (l := l) (a := a) (b := b) (by omega) (by omega) (by rw [ht]; simp)).le (by omega)) (by omega)
    · cases hc2
  | two o l a b p q ihp ihq =>
    intro s k ho hc hs hk n M
    obtain ⟨k, rfl⟩ : ∃ j, k = j + 1 := ⟨k - 1, by omega⟩
    rw [h1]
    rw [Cp.ht] at hk hs
    refine ev_stepc hc (h2 k _ s (by omega) hs.sm ho hc) (fun x hx => ?_) n M
    simp only [Cp.okc, Fm.dp, Bool.and_eq_true, decide_eq_true_eq] at ho
    simp only [Cp.chk, Bool.and_eq_true] at hc
    have hc2 := hc.2
    simp only [Cp.above] at hx
    split at hc2
    · rename_i t u ht
      rw [ht] at hx
      rw [Bool.and_eq_true] at hc2
      simp only [List.mem_cons, List.not_mem_nil, or_false] at hx
      have hdp := of_decide_eq_true ho.1.1.1.2
      rcases hx with rfl | rfl
      · exact ihp _ k ho.1.2 hc2.1 ((hs.prem (t := t) (o := o) (l := l) (a := a) (b := b) (by omega) (by omega) (by rw [ht]; simp)).le (by omega)) (by omega)
      · exact ihq _ k ho.2 hc2.2 ((hs.prem (t := u) (o := o) (l := l) (a := a) (b := b) (by omega) (by omega) (by rw [ht]; simp)).le (by omega)) (by omega)
    · cases hc2
theorem form_tower {fH fS : Nat → F1} (h1 : ∀ k, fH (k + 1) = fnF 3 (b_has_form_sequents (fH k) (fS k))) {m : Nat} (h2 : ∀ k f M, m ≤ k → f.ok = true → f.dp ≤ 13 → fS k [enc f, .int 12] M = some (.bl true, M)) :
    ∀ (p : Cp) (k : Nat), p.okc = true → p.ht + m + 1 ≤ k → SFc (fH k) p := by
  intro p
  have go : ∀ (p : Cp) (k : Nat), p.okc = true → m + 1 ≤ k → (∀ y ∈ p.up, SFc (fH (k - 1)) y) → SFc (fH k) p := fun p k ho hk ih d M hd => by
    obtain ⟨k, rfl⟩ : ∃ j, k = j + 1 := ⟨k - 1, by omega⟩
    rw [h1]
    exact ev_formc (fun f M => h2 k f M (by omega)) ho ih d M hd
  induction p with
  | fls => exact fun k ho hk => go _ k ho (by omega) fun y hy => by simp [Cp.up] at hy
  | ax f => exact fun k ho hk => go _ k ho (by omega) fun y hy => by simp [Cp.up] at hy
  | cut f p q ihp ihq =>
    intro k ho hk
    rw [Cp.ht] at hk
    have h := ho
    simp only [Cp.okc, Bool.and_eq_true] at h
    refine go _ k ho (by omega) fun y hy => ?_
    simp only [Cp.up, List.mem_cons, List.not_mem_nil, or_false] at hy
    rcases hy with rfl | rfl
    · exact ihp _ h.1.2 (by omega)
    · exact ihq _ h.2 (by omega)
  | one o l a b p ih =>
    intro k ho hk
    rw [Cp.ht] at hk
    have h := ho
    simp only [Cp.okc, Bool.and_eq_true] at h
    refine go _ k ho (by omega) fun y hy => ?_
    simp only [Cp.up, List.mem_cons, List.not_mem_nil, or_false] at hy
    subst hy
    exact ih _ h.2 (by omega)
  | two o l a b p q ihp ihq =>
    intro k ho hk
    rw [Cp.ht] at hk
    have h := ho
    simp only [Cp.okc, Bool.and_eq_true] at h
    refine go _ k ho (by omega) fun y hy => ?_
    simp only [Cp.up, List.mem_cons, List.not_mem_nil, or_false] at hy
    rcases hy with rfl | rfl
    · exact ihp _ h.1.2 (by omega)
    · exact ihq _ h.2 (by omega)
theorem ev_sfault {fh fs : F1} {s : Sq} {p : Cp} (hh : SFc fh p) (hd : p.ht < 300) (hs : SStp fs p s) (M : Mo) : fnF 3 (b_sequent_fault fh fs) [seqD s, cpD p, .bl true] M = some (.non, M) := by
  have e1 := hh 300 M hd
  have e2 := hs 0 M
  simp at e1
  simp [fnF, b_sequent_fault, g_DEEPEST_PROOF_sequents, e1, e2]
theorem cuts_ht (x : Dd) : x.cuts.ht ≤ 2 * x.ht := by
  induction x <;> simp only [Dd.cuts, Cp.ht, Dd.ht] <;> omega
theorem cuts_okc {x : Dd} (h : x.rt = true) (hn : x.fitN 18 7 = true) (ho : x.okf = true) : x.cuts.okc = true := by
  have key : ∀ {y : Dd}, y.rt = true → y.fitN 18 7 = true → y.okf = true → y.told.ok = true ∧ y.told.dp ≤ 8 := fun h hn ho => ⟨told_ok h ho, by have := (fitN_node hn).1; omega⟩
  have k0 := key h hn ho
  induction x with
  | asm f =>
    rw [Dd.told] at k0
    simp [Dd.cuts, Cp.okc, k0]
  | ifin f x ih =>
    have nx := fitN_up hn x (by simp [Dd.up])
    have ox := okf_up ho x (by simp [Dd.up])
    rw [Dd.told] at k0
    simp [Dd.cuts, Cp.okc, Op.tw, k0, ih h nx ox (key h nx ox)]
  | ifout x y ihx ihy =>
    obtain ⟨b, hb⟩ := imp_of_rt h
    simp only [Dd.rt, Bool.and_eq_true] at h
    have nx := fitN_up hn x (by simp [Dd.up])
    have ox := okf_up ho x (by simp [Dd.up])
    have ny := fitN_up hn y (by simp [Dd.up])
    have oy := okf_up ho y (by simp [Dd.up])
    have kx := key h.1.1 nx ox
    have ex := ihx h.1.1 nx ox kx
    have ey := ihy h.1.2 ny oy (key h.1.2 ny oy)
    rw [t_ifout hb] at k0
    rw [hb] at kx
    simp [Dd.cuts, Cp.okc, Op.tw, k0, kx, hb, Dd.lh, Dd.rh, t_ifout hb, ex, ey]
  | andin x y ihx ihy =>
    simp only [Dd.rt, Bool.and_eq_true] at h
    have nx := fitN_up hn x (by simp [Dd.up])
    have ox := okf_up ho x (by simp [Dd.up])
    have ny := fitN_up hn y (by simp [Dd.up])
    have oy := okf_up ho y (by simp [Dd.up])
    rw [Dd.told] at k0
    simp [Dd.cuts, Cp.okc, Op.tw, k0, ihx h.1 nx ox (key h.1 nx ox), ihy h.2 ny oy (key h.2 ny oy)]
  | ando k x ih =>
    simp only [Dd.rt, Bool.and_eq_true] at h
    obtain ⟨a, b, hb⟩ := isB_imp h.2
    have nx := fitN_up hn x (by simp [Dd.up])
    have ox := okf_up ho x (by simp [Dd.up])
    have kx := key h.1 nx ox
    have ex := ih h.1 nx ox kx
    rw [hb] at kx
    simp [Dd.cuts, Cp.okc, Op.tw, k0, kx, hb, Dd.lh, Dd.rh, ex]
  | orin k f x ih =>
    have nx := fitN_up hn x (by simp [Dd.up])
    have ox := okf_up ho x (by simp [Dd.up])
    have ex := ih h nx ox (key h nx ox)
    cases k <;> rw [Dd.told] at k0 <;> simp at k0 <;> simp [Dd.cuts, Dd.told, Cp.okc, Op.tw, k0, Dd.lh, Dd.rh, ex]
  | orout x y z ihx ihy ihz =>
    simp only [Dd.rt, Bool.and_eq_true] at h
    obtain ⟨a, b, hb⟩ := isB_imp h.1.2
    have nx := fitN_up hn x (by simp [Dd.up])
    have ox := okf_up ho x (by simp [Dd.up])
    have ny := fitN_up hn y (by simp [Dd.up])
    have oy := okf_up ho y (by simp [Dd.up])
    have nz := fitN_up hn z (by simp [Dd.up])
    have oz := okf_up ho z (by simp [Dd.up])
    have kx := key h.1.1.1.1 nx ox
    have ex := ihx h.1.1.1.1 nx ox kx
    have ey := ihy h.1.1.1.2 ny oy (key h.1.1.1.2 ny oy)
    have ez := ihz h.1.1.2 nz oz (key h.1.1.2 nz oz)
    rw [hb] at kx
    simp [Dd.cuts, Cp.okc, Op.tw, kx, hb, Dd.lh, Dd.rh, ex, ey, ez]
  | fout f x ih =>
    simp only [Dd.rt, Bool.and_eq_true] at h
    have nx := fitN_up hn x (by simp [Dd.up])
    have ox := okf_up ho x (by simp [Dd.up])
    simp [Dd.cuts, Cp.okc, Fm.ok, Fm.dp, ih h.1 nx ox (key h.1 nx ox)]
  | contra f x ih =>
    simp only [Dd.rt, Bool.and_eq_true] at h
    have nx := fitN_up hn x (by simp [Dd.up])
    have ox := okf_up ho x (by simp [Dd.up])
    have k2 := (fitN_node hn).1
    rw [Dd.told] at k0 k2
    have hd : (no f).dp ≤ 8 := by rw [dp_no]; omega
    have hd2 : (Fm.bin .imp f .fls).dp ≤ 8 := hd
    have hfl : Fm.fls.dp ≤ 8 := by decide
    have hk : (no f).ok = true := by simp [no, Fm.ok, k0]
    have hk2 : (Fm.bin .imp f .fls).ok = true := hk
    simp [Dd.cuts, Cp.okc, Op.tw, k0, hd, hk, hd2, hk2, hfl, Fm.ok, ih h.1 nx ox (key h.1 nx ox)]
end Law

set_option Elab.async false
set_option linter.all false
set_option maxRecDepth 100000
/-! The law's draws. -/
namespace Law
open PySem PySem.Spec G

theorem ev_mul_r {a b : Int} (M : Mo) (h1 : -(2 ^ 64) < b) (h2 : b < 2 ^ 64) : mulF [.int a, .int b] M = some (.int (a * b), M) := by
  show (if _ then _ else _) = _
  rw [if_pos]
  simp only [Bool.or_eq_true, Bool.and_eq_true, decide_eq_true_eq]
  exact .inr ⟨h1, h2⟩
theorem cut_map (ns : List Int) (a b : Option Int) : ∃ ms : List Int, cutD (ns.map D.int) a b = ms.map D.int := by
  unfold cutD
  rw [← List.map_drop, ← List.map_take]
  exact ⟨_, rfl⟩
def poolD (ns : List Int) (i left count salt : Int) : List D := [.lst (ns.map .int), .int i, .int left, .int count, .int salt]
theorem ev_pool (ns : List Int) : ∃ salt, fnFK 3 b__law_pool [.rol (ns.map .int)] [] = some (.ref 0, [.lst (poolD ns 0 0 0 salt)]) := by
  obtain ⟨ms, hm⟩ := cut_map ns none (some 63)
  obtain ⟨lo', M', e, rfl, x, rfl⟩ := for_inv (g := gName 2) (body := sSet (mBin modF (mCall intF (mCons (mBin addF (mBin mulF (mVar 1) (mC (.int 31))) (mVar 2)) mNil)) (mC (.int 1000003))) (gName 1)) (ei := D.int) (step := fun (s c : Int) => (s * 31 + c) % 1000003)
    (R := fun s lo M => M = [] ∧ ∃ x, lo = [some (.rol (ns.map .int)), some (.int s), x]) ms 7 [some (.rol (ns.map .int)), some (.int 7), none] [] (fun s c lo M _ ⟨hM, x, hlo⟩ => by
      subst hM hlo
      refine ⟨[some (.rol (ns.map .int)), some (.int ((s * 31 + c) % 1000003)), some (.int c)], [], ?_, rfl, _, rfl⟩
      simp [ev_mul_r]) ⟨rfl, none, rfl⟩
  refine ⟨ms.foldl (fun (s c : Int) => (s * 31 + c) % 1000003) 7, ?_⟩
  simp [fnFK, b__law_pool, seqOf, hm, e, poolD]
theorem rgD4 : rgD 0 4 = ([0, 1, 2, 3] : List Int).map D.int := by decide +kernel
theorem ev_spread (c : Int) (M : Mo) : ∃ t, fnF 4 b__law_spread [.int c] M = some (.int t, M) := by
  obtain ⟨lo', M', e, rfl, a, t, x, rfl⟩ := for_inv (g := gName 3) (body := sSeq (sSet (mBin modF (mCall intF (mCons (mBin addF (mBin addF (mBin mulF (mVar 1) (mC (.int 48271))) (mC (.int 12345))) (mVar 3)) mNil)) (mC (.int 2147483647))) (gName 1)) (sSet (mBin addF (mBin mulF (mVar 2) (mC (.int 2147483647))) (mVar 1)) (gName 2)))
    (ei := D.int) (step := fun (s : Unit) (c : Int) => ()) (R := fun _ lo M' => M' = M ∧ ∃ a t x, lo = [some (.int c), some (.int a), some (.int t), x]) [0, 1, 2, 3] () [some (.int c), some (.int (c % 2147483647)), some (.int 1), none] M (fun s k lo M' _ ⟨hM, a, t, x, hlo⟩ => by
      subst hM hlo
      refine ⟨[some (.int c), some (.int ((a * 48271 + 12345 + k) % 2147483647)), some (.int (t * 2147483647 + (a * 48271 + 12345 + k) % 2147483647)), some (.int k)], M', ?_, rfl, _, _, _, rfl⟩
      simp [ev_mul_r]) ⟨rfl, _, _, _, rfl⟩
  refine ⟨t, ?_⟩
  rw [← rgD4] at e
  simp [fnF, b__law_spread, e]

/-! ### the pool, at the store's first place -/
@[simp] theorem pl_at0 (a b c d e : D) (R : Mo) : atF [.ref 0, .int 0] (.lst [a, b, c, d, e] :: R) = some (a, .lst [a, b, c, d, e] :: R) := ev_at (t := false) (i := 0) rfl rfl
@[simp] theorem pl_at1 (a b c d e : D) (R : Mo) : atF [.ref 0, .int 1] (.lst [a, b, c, d, e] :: R) = some (b, .lst [a, b, c, d, e] :: R) := ev_at (t := false) (i := 1) rfl rfl
@[simp] theorem pl_at2 (a b c d e : D) (R : Mo) : atF [.ref 0, .int 2] (.lst [a, b, c, d, e] :: R) = some (c, .lst [a, b, c, d, e] :: R) := ev_at (t := false) (i := 2) rfl rfl
@[simp] theorem pl_at3 (a b c d e : D) (R : Mo) : atF [.ref 0, .int 3] (.lst [a, b, c, d, e] :: R) = some (d, .lst [a, b, c, d, e] :: R) := ev_at (t := false) (i := 3) rfl rfl
@[simp] theorem pl_at4 (a b c d e : D) (R : Mo) : atF [.ref 0, .int 4] (.lst [a, b, c, d, e] :: R) = some (e, .lst [a, b, c, d, e] :: R) := ev_at (t := false) (i := 4) rfl rfl
@[simp] theorem pl_set1 (a b c d e v : D) (R : Mo) : setL (.ref 0) (.int 1) v (.lst [a, b, c, d, e] :: R) = some (.lst [a, v, c, d, e] :: R) := rfl
@[simp] theorem pl_set2 (a b c d e v : D) (R : Mo) : setL (.ref 0) (.int 2) v (.lst [a, b, c, d, e] :: R) = some (.lst [a, b, v, d, e] :: R) := rfl
@[simp] theorem pl_set3 (a b c d e v : D) (R : Mo) : setL (.ref 0) (.int 3) v (.lst [a, b, c, d, e] :: R) = some (.lst [a, b, c, v, e] :: R) := rfl
@[simp] theorem exit_same_len (a b : MO) (R : Mo) (d : D) : exitF (a :: R) d (b :: R) = (d, b :: R) := by
  unfold exitF
  rw [if_pos (by simp)]
/-- the pool of a script -/
def PoolOk (P : List D) : Prop := ∃ ns i left count salt, 0 ≤ i ∧ P = poolD ns i left count salt
theorem ev_draw {fs : F1} (hs : ∀ c M, ∃ t, fs [.int c] M = some (.int t, M)) {P : List D} (hP : PoolOk P) (R : Mo) (many : Int) (h1 : 0 < many) (h2 : many < 1073741824) :
    ∃ v P', fnF 5 (b__law_draw fs) [.ref 0, .int many] (.lst P :: R) = some (.int v, .lst P' :: R) ∧ 0 ≤ v ∧ v < many ∧ PoolOk P' := by
  obtain ⟨ns, i, left, count, salt, hi, rfl⟩ := hP
  have m0 : ∀ a : Int, 0 ≤ a % many ∧ a % many < many := fun a => ⟨Int.emod_nonneg _ (by omega), Int.emod_lt_of_pos _ h1⟩
  have first : ∃ i' left' x, 0 ≤ i' ∧ (sIf (tAndM (tru (mBin leF (mBin atF (mVar 0) (mC (.int 2))) (mC (.int 0)))) (tru (mBin ltF (mBin atF (mVar 0) (mC (.int 1))) (mCall lenF (mCons (mBin atF (mVar 0) (mC (.int 0))) mNil))))) (sSeq (sSet (mBin atF (mBin atF (mVar 0) (mC (.int 0))) (mBin atF (mVar 0) (mC (.int 1)))) (gName 2)) (sSeq (sSet (mBin addF (mBin atF (mVar 0) (mC (.int 1))) (mC (.int 1))) (gSub (mVar 0) (mC (.int 1)) setL)) (sSeq (sSet (mVar 2) (gSub (mVar 0) (mC (.int 2)) setL)) (sIf (tru (mBin ltF (mVar 2) (mC (.int 1000000000000000000)))) (sSet (mCallN 1 fs (mCons (mVar 2) mNil)) (gSub (mVar 0) (mC (.int 2)) setL)) sNext)))) sNext)
      [some (.ref 0), some (.int many), none, none, none] (.lst (poolD ns i left count salt) :: R) = some (.nx [some (.ref 0), some (.int many), x, none, none] (.lst (poolD ns i' left' count salt) :: R)) := by
    by_cases c1 : left ≤ 0
    · by_cases c2 : i < ns.length
      · obtain ⟨cell, hc⟩ : ∃ c, ns[i.toNat]? = some c := ⟨_, List.getElem?_eq_getElem (by omega)⟩
        have hat : ∀ R, atF [.lst (ns.map .int), .int i] R = some (.int cell, R) := fun R => by
          have := ev_at (c := .lst (ns.map D.int)) (t := false) (i := i.toNat) (e := .int cell) (M := R) rfl (by rw [List.getElem?_map, hc]; rfl)
          rwa [show ((i.toNat : Nat) : Int) = i by omega] at this
        by_cases c3 : cell < 1000000000000000000
        · obtain ⟨t, ht⟩ := hs cell (.lst [.lst (ns.map .int), .int (i + 1), .int cell, .int count, .int salt] :: R)
          exact ⟨i + 1, t, some (.int cell), by omega, by simp [poolD, c1, c2, c3, hat, ht]⟩
        · exact ⟨i + 1, cell, some (.int cell), by omega, by simp [poolD, c1, c2, c3, hat]⟩
      · exact ⟨i, left, none, hi, by simp [poolD, c1, c2]⟩
    · exact ⟨i, left, none, hi, by simp [poolD, c1]⟩
  obtain ⟨i', left', x, hi', e1⟩ := first
  have rest : ∃ v P', (sSeq (sSet (mBin addF (mBin atF (mVar 0) (mC (.int 3))) (mC (.int 1))) (gSub (mVar 0) (mC (.int 3)) setL)) (sSeq (sIf (tru (mBin leF (mBin atF (mVar 0) (mC (.int 2))) (mC (.int 0)))) (sSeq (sSet (mBin modF (mCall intF (mCons (mBin addF (mBin addF (mBin mulF (mBin atF (mVar 0) (mC (.int 4))) (mC (.int 48271))) (mBin mulF (mBin atF (mVar 0) (mC (.int 3))) (mC (.int 69621)))) (mC (.int 1))) mNil)) (mC (.int 2147483647))) (gName 3)) (sSeq (sSet (mBin modF (mCall intF (mCons (mBin addF (mBin mulF (mVar 3) (mC (.int 16807))) (mBin atF (mVar 0) (mC (.int 3)))) mNil)) (mC (.int 2147483629))) (gName 3)) (sRet (mBin modF (mBin fdivF (mVar 3) (mC (.int 5))) (mVar 1))))) sNext) (sSeq (sSet (mBin modF (mCall intF (mCons (mBin atF (mVar 0) (mC (.int 2))) mNil)) (mVar 1)) (gName 4)) (sSeq (sSet (mBin fdivF (mBin atF (mVar 0) (mC (.int 2))) (mVar 1)) (gSub (mVar 0) (mC (.int 2)) setL)) (sRet (mVar 4))))))
      [some (.ref 0), some (.int many), x, none, none] (.lst (poolD ns i' left' count salt) :: R) = some (.rt (.int v) (.lst P' :: R)) ∧ 0 ≤ v ∧ v < many ∧ PoolOk P' := by
    by_cases c : left' ≤ 0
    · refine ⟨(((salt * 48271 + (count + 1) * 69621 + 1) % 2147483647 * 16807 + (count + 1)) % 2147483629 / 5) % many, poolD ns i' left' (count + 1) salt, ?_, (m0 _).1, (m0 _).2, ⟨_, _, _, _, _, hi', rfl⟩⟩
      simp [c, ev_mul_r, h1, poolD]
    · refine ⟨left' % many, poolD ns i' (left' / many) (count + 1) salt, ?_, (m0 _).1, (m0 _).2, ⟨_, _, _, _, _, hi', rfl⟩⟩
      simp [c, ev_mul_r, h1, h2, poolD]
  obtain ⟨v, P', e2, e3, e4, e5⟩ := rest
  refine ⟨v, P', ?_, e3, e4, e5⟩
  have eb : b__law_draw fs [some (.ref 0), some (.int many), none, none, none] (.lst (poolD ns i left count salt) :: R) = some (.rt (.int v) (.lst P' :: R)) := by
    unfold b__law_draw
    rw [sSeq_e, e1]
    exact e2
  simp [fnF, eb]
end Law

set_option Elab.async false
set_option linter.all false
set_option maxRecDepth 100000
set_option maxHeartbeats 1000000
/-! The laws' little formulas, picks. -/
namespace Law
open PySem PySem.Spec G

/-- fd draws -/
def SDrw (fd : F1) : Prop := ∀ P R (many : Int), PoolOk P → 0 < many → many < 1073741824 → ∃ v P', fd [.ref 0, .int many] (.lst P :: R) = some (.int v, .lst P' :: R) ∧ 0 ≤ v ∧ v < many ∧ PoolOk P'
def SLit (fs : F1) (deep : Nat) : Prop := ∀ P R (c : Nat), PoolOk P → 0 < c → c ≤ 4 → ∃ f P', fs [.ref 0, .int (deep : Int), .int (c : Int)] (.lst P :: R) = some (enc f, .lst P' :: R) ∧ f.dp ≤ deep + 1 ∧ f.ok = true ∧ PoolOk P'
theorem ev_little {fd fs : F1} (hd : SDrw fd) {deep : Nat} (hs : ∀ d, d + 1 = deep → SLit fs d) : SLit (fnF 5 (b__law_little fd fs)) deep := by
  intro P R c hP hc1 hc2
  have leaf : ∀ P, PoolOk P → ∃ f P', (sRet (mIf (tru (mBin gtF (mCallN 2 fd (mCons (mVar 0) (mCons (mC (.int 9)) mNil))) (mC (.int 0)))) (mTup (mCons (mC (.str "letter")) (mCons (mCallN 2 fd (mCons (mVar 0) (mCons (mVar 2) mNil))) mNil))) (mTup (mCons (mC (.str "false")) mNil))))
      [some (.ref 0), some (.int (deep : Int)), some (.int (c : Int)), none, none] (.lst P :: R) = some (.rt (enc f) (.lst P' :: R)) ∧ f.dp = 1 ∧ f.ok = true ∧ PoolOk P' := fun P hP => by
    obtain ⟨v, P1, e1, v0, v9, hP1⟩ := hd P R 9 hP (by omega) (by omega)
    by_cases c1 : 0 < v
    · obtain ⟨w, P2, e2, w0, w9, hP2⟩ := hd P1 R c hP1 (by omega) (by omega)
      refine ⟨.lt w.toNat, P2, ?_, rfl, by simp [Fm.ok]; omega, hP2⟩
      simp [e1, e2, c1, enc]
      omega
    · exact ⟨.fls, P1, by simp [e1, c1, enc], rfl, rfl, hP1⟩
  by_cases c0 : deep = 0
  · obtain ⟨f, P', e, h1, h2, h3⟩ := leaf P hP
    refine ⟨f, P', ?_, by omega, h2, h3⟩
    have eb : b__law_little fd fs [some (.ref 0), some (.int (deep : Int)), some (.int (c : Int)), none, none] (.lst P :: R) = some (.rt (enc f) (.lst P' :: R)) := by
      unfold b__law_little
      rw [sSeq_e, sIf_e]
      have t : (tOrM (tru (mBin eqF (mVar 1) (mC (.int 0)))) (tru (mBin eqF (mCallN 2 fd (mCons (mVar 0) (mCons (mC (.int 4)) mNil))) (mC (.int 0))))) [some (.ref 0), some (.int (deep : Int)), some (.int (c : Int)), none, none] (.lst P :: R) = some (true, .lst P :: R) := by
        simp [c0]
      rw [t]
      simp only [e]
    simp [fnF, eb]
  · obtain ⟨v, P1, e1, v0, v9, hP1⟩ := hd P R 4 hP (by omega) (by omega)
    by_cases c1 : v = 0
    · obtain ⟨f, P', e, h1, h2, h3⟩ := leaf P1 hP1
      refine ⟨f, P', ?_, by omega, h2, h3⟩
      have eb : b__law_little fd fs [some (.ref 0), some (.int (deep : Int)), some (.int (c : Int)), none, none] (.lst P :: R) = some (.rt (enc f) (.lst P' :: R)) := by
        unfold b__law_little
        rw [sSeq_e, sIf_e]
        have t : (tOrM (tru (mBin eqF (mVar 1) (mC (.int 0)))) (tru (mBin eqF (mCallN 2 fd (mCons (mVar 0) (mCons (mC (.int 4)) mNil))) (mC (.int 0))))) [some (.ref 0), some (.int (deep : Int)), some (.int (c : Int)), none, none] (.lst P :: R) = some (true, .lst P1 :: R) := by
          simp [c0, e1, c1]
        rw [t]
        simp only [e]
      simp [fnF, eb]
    · obtain ⟨d, rfl⟩ : ∃ d, d + 1 = deep := ⟨deep - 1, by omega⟩
      obtain ⟨u, P2, e2, u0, u9, hP2⟩ := hd P1 R 4 hP1 (by omega) (by omega)
      obtain ⟨f, P3, e3, f1, f2, hP3⟩ := hs d rfl P2 R c hP2 hc1 hc2
      obtain ⟨g, P4, e4, g1, g2, hP4⟩ := hs d rfl P3 R c hP3 hc1 hc2
      have ed : ((d + 1 : Nat) : Int) - 1 = (d : Int) := by omega
      have hcases : u = 0 ∨ u = 1 ∨ u = 2 ∨ u = 3 := by omega
      have fin : ∀ o : Op, u = 0 ∧ o = .imp ∨ u = 1 ∧ o = .imp ∨ u = 2 ∧ o = .and ∨ u = 3 ∧ o = .or → ∃ f P', fnF 5 (b__law_little fd fs) [.ref 0, .int ((d + 1 : Nat) : Int), .int (c : Int)] (.lst P :: R) = some (enc f, .lst P' :: R) ∧ f.dp ≤ d + 1 + 1 ∧ f.ok = true ∧ PoolOk P' := fun o ho => by
        refine ⟨.bin o f g, P4, ?_, by rw [Fm.dp]; omega, by simp [Fm.ok, f2, g2], hP4⟩
        have c00 : ¬ (d : Int) + 1 = 0 := by omega
        rcases ho with ⟨rfl, rfl⟩ | ⟨rfl, rfl⟩ | ⟨rfl, rfl⟩ | ⟨rfl, rfl⟩ <;> simp [fnF, b__law_little, c00, e1, c1, e2, e3, e4, enc, Op.w]
      rcases hcases with rfl | rfl | rfl | rfl
      · exact fin .imp (.inl ⟨rfl, rfl⟩)
      · exact fin .imp (.inr (.inl ⟨rfl, rfl⟩))
      · exact fin .and (.inr (.inr (.inl ⟨rfl, rfl⟩)))
      · exact fin .or (.inr (.inr (.inr ⟨rfl, rfl⟩)))
theorem ev_pickG {α : Type} (ei : α → D) {fd : F1} (hd : SDrw fd) {P : List D} (hP : PoolOk P) (R : Mo) (xs : List α) (h0 : 0 < xs.length) (h1 : xs.length < 100) : ∃ f P', f ∈ xs ∧ fnF 2 (b__law_pick fd) [.ref 0, .lst (xs.map ei)] (.lst P :: R) = some (ei f, .lst P' :: R) ∧ PoolOk P' := by
  obtain ⟨v, P1, e1, v0, v9, hP1⟩ := hd P R xs.length hP (by omega) (by omega)
  obtain ⟨n, rfl⟩ : ∃ n : Nat, (n : Int) = v := ⟨v.toNat, by omega⟩
  have hn : n < xs.length := by omega
  have hat : atF [.lst (xs.map ei), .int (n : Int)] (.lst P1 :: R) = some (ei xs[n], .lst P1 :: R) := ev_at (t := false) rfl (by rw [List.getElem?_map, List.getElem?_eq_getElem hn]; rfl)
  exact ⟨xs[n], P1, List.getElem_mem hn, by simp [fnF, b__law_pick, e1, hat], hP1⟩
theorem ev_deny (f : Fm) (M : Mo) : fnF 1 b__law_deny [enc f] M = some (enc (.bin .imp f .fls), M) := by
  simp [fnF, b__law_deny]
  rfl
end Law

set_option Elab.async false
set_option linter.all false
set_option maxRecDepth 100000
set_option maxHeartbeats 4000000
/-! k80: the law's rows, its run. -/
namespace Law
open PySem PySem.Spec G

/-! ### sides in order -/
theorem canon_self {s : List Fm} (h : IsCanon s) : canon s = s := (canon_is s).ext h fun f => mem_canon
theorem opn_canon {x : Dd} (h : x.rt = true) : IsCanon x.opn := by
  cases x with
  | asm g => exact ⟨by simp [Dd.opn], by simp [Dd.opn]⟩
  | orout x y z =>
    simp only [Dd.rt, Bool.and_eq_true] at h
    obtain ⟨a, b, hb⟩ := isB_imp h.1.2
    rw [Dd.opn, hb]
    exact canon_is _
  | _ => exact canon_is _
theorem sort_canon {s : List Fm} (h : IsCanon s) : sortBy fle s = s := by
  have h1 : (sortBy fle s).Pairwise (fun a b => fle a b = true) := sortBy_sorted (le := fle) (fun a b => leD_total (enc a) (enc b)) (fun a b c h1 h2 => leD_trans (enc a) (enc b) (enc c) h1 h2) _
  exact (sortBy_perm fle s).eq_of_pairwise (fun a b _ _ h1 h2 => fle_antisymm h1 h2) h1 h.2
theorem ev_sort_canon {s : List Fm} (h : IsCanon s) (hd : ∀ f ∈ s, f.dp ≤ 8) (M : Mo) : sortF [.tup (s.map enc)] M = some (.lst (s.map enc), M) := by
  have e : sortD (s.map enc) = s.map enc := by
    rw [sortD, sortBy_map]
    exact congrArg _ (sort_canon h)
  unfold sortF
  show (if tupsOk (s.map enc) = true then some (D.lst (sortD (s.map enc)), M) else none) = _
  rw [if_pos (tupsOk_enc hd), e]
@[simp] theorem ev_ne_bl (a b : Bool) (M : Mo) : neF [.bl a, .bl b] M = some (.bl (a != b), M) := by cases a <;> cases b <;> rfl
theorem ev_ne_self {d : D} (h : d.dat = true) (h2 : d.dep ≤ 64) (M : Mo) : neF [d, d] M = some (.bl false, M) := by
  rw [ev_ne h h h2 h2]
  simp
theorem ev_ne_eq {d e : D} (q : d = e) (h : d.dat = true) (h2 : d.dep ≤ 64) (M : Mo) : neF [d, e] M = some (.bl false, M) := by
  subst q
  exact ev_ne_self h h2 M
/-! ### the rows -/
def rows (a b c : Fm) : List Dd := [.asm b, .orin false c (.asm b), .andin (.asm a) (.asm b), .ifin c (.asm b), .ifout (.asm (.bin .imp b a)) (.asm b), .fout c (.ifout (.asm (no b)) (.asm b)), .contra c (.ifout (.asm (no b)) (.asm b))]
structure RowOk (x : Dd) : Prop where
  rt : x.rt = true
  fn : x.fitN 18 7 = true
  td : x.told.dp ≤ 3
  ol : x.opn.length ≤ 2
  od : ∀ f ∈ x.opn, f.dp ≤ 3
  ok : x.okf = true
  dir : x.dir = true
  noor : x.noor = true
  ht : x.ht ≤ 2
  wd : ∃ w r, encD x = .tup (.str (Str.ofString w) :: r) ∧ x.pln = !decide (w = "contra")
theorem canon_le {fs : List Fm} {n : Nat} (h : fs.length ≤ n) : (canon fs).length ≤ n := Nat.le_trans (canon_len fs) h
theorem without_le (g : Fm) (fs : List Fm) : (Dd.without g fs).length ≤ fs.length := List.length_filter_le _ _
theorem canon_w {g : Fm} {fs : List Fm} {n : Nat} (h : fs.length ≤ n) : (canon (Dd.without g fs)).length ≤ n := canon_le (Nat.le_trans (without_le g fs) h)
theorem row_ok {a b c : Fm} (da : a.dp ≤ 2) (db : b.dp ≤ 2) (dc : c.dp ≤ 2) (oa : a.ok = true) (ob : b.ok = true) (oc : c.ok = true) {x : Dd} (hx : x ∈ rows a b c) : RowOk x := by
  have nb : (no b).dp ≤ 3 := by rw [dp_no]; omega
  have nb7 : (no b).dp ≤ 7 := by omega
  have nb15 : (no b).dp ≤ 15 := by omega
  have onb : (no b).ok = true := by simp [no, Fm.ok, ob]
  have ia : (Fm.bin .imp b a).dp ≤ 3 := by rw [Fm.dp]; omega
  have ia7 : (Fm.bin .imp b a).dp ≤ 7 := by omega
  have ia15 : (Fm.bin .imp b a).dp ≤ 15 := by omega
  have a7 : a.dp ≤ 7 := by omega
  have b7 : b.dp ≤ 7 := by omega
  have c7 : c.dp ≤ 7 := by omega
  have a15 : a.dp ≤ 15 := by omega
  have b15 : b.dp ≤ 15 := by omega
  have c15 : c.dp ≤ 15 := by omega
  have L : ∀ (u v : Fm) (n : Nat), 2 ≤ n → (canon [u, v]).length ≤ n := fun u v n hn => canon_le (by simpa using hn)
  have L1 : ∀ (u : Fm) (n : Nat), 1 ≤ n → (canon [u]).length ≤ n := fun u n hn => canon_le (by simpa using hn)
  have L2 : ∀ (g u v : Fm) (n : Nat), 2 ≤ n → (canon (Dd.without g (canon [u, v]))).length ≤ n := fun g u v n hn => canon_w (L u v n hn)
  have L3 : ∀ (g u : Fm) (n : Nat), 1 ≤ n → (canon (Dd.without g [u])).length ≤ n := fun g u n hn => canon_w (by simpa using hn)
  have L4 : ∀ (u v : Fm) (n : Nat), 2 ≤ n → (canon (canon [u, v])).length ≤ n := fun u v n hn => canon_le (L u v n hn)
  have nt : (Dd.ifout (.asm (no b)) (.asm b)).told = .fls := rfl
  have nr : (Dd.ifout (.asm (no b)) (.asm b)).rt = true := by simp [Dd.rt, Dd.told, no]
  simp only [rows, List.mem_cons, List.not_mem_nil, or_false] at hx
  rcases hx with rfl | rfl | rfl | rfl | rfl | rfl | rfl
  · exact ⟨rfl, by simp [Dd.fitN, Dd.nodeOk, Dd.told, Dd.opn, b7], by simp [Dd.told]; omega, by simp [Dd.opn], by simp [Dd.opn]; omega, by simp [Dd.okf, ob, b15], rfl, rfl, by simp [Dd.ht], _, _, rfl, by simp [Dd.pln]⟩
  · refine ⟨rfl, ?_, ?_, ?_, ?_, by simp [Dd.okf, ob, b15, oc, c15], rfl, rfl, by simp [Dd.ht], _, _, rfl, by simp [Dd.pln]⟩
    · have : (Fm.bin .or b c).dp ≤ 7 := by rw [Fm.dp]; omega
      simp [Dd.fitN, Dd.nodeOk, Dd.told, Dd.opn, b7, this, L1]
    · simp [Dd.told, Fm.dp]; omega
    · simp [Dd.opn, L1]
    · intro f hf; rw [Dd.opn, mem_canon] at hf; simp [Dd.opn] at hf; subst hf; omega
  · refine ⟨rfl, ?_, ?_, ?_, ?_, by simp [Dd.okf, ob, b15, oa, a15], rfl, rfl, by simp [Dd.ht], _, _, rfl, by simp [Dd.pln]⟩
    · have : (Fm.bin .and a b).dp ≤ 7 := by rw [Fm.dp]; omega
      simp [Dd.fitN, Dd.nodeOk, Dd.told, Dd.opn, a7, b7, this, L]
    · simp [Dd.told, Fm.dp]; omega
    · simp [Dd.opn, L]
    · intro f hf; rw [Dd.opn, mem_canon] at hf; simp [Dd.opn] at hf; rcases hf with rfl | rfl <;> omega
  · refine ⟨rfl, ?_, ?_, ?_, ?_, by simp [Dd.okf, ob, b15, oc, c15], rfl, rfl, by simp [Dd.ht], _, _, rfl, by simp [Dd.pln]⟩
    · have : (Fm.bin .imp c b).dp ≤ 7 := by rw [Fm.dp]; omega
      simp [Dd.fitN, Dd.nodeOk, Dd.told, Dd.opn, b7, this, L3]
    · simp [Dd.told, Fm.dp]; omega
    · simp [Dd.opn, L3]
    · intro f hf; rw [Dd.opn, mem_canon, mem_without] at hf; simp [Dd.opn] at hf; rw [hf.1]; omega
  · refine ⟨by simp [Dd.rt, Dd.told], ?_, ?_, ?_, ?_, by simp [Dd.okf, Fm.ok, ob, b15, oa, ia15], rfl, rfl, by simp [Dd.ht], _, _, rfl, by simp [Dd.pln]⟩
    · simp [Dd.fitN, Dd.nodeOk, Dd.told, Dd.opn, a7, b7, ia7, L]
    · simp [Dd.told]; omega
    · simp [Dd.opn, L]
    · intro f hf; rw [Dd.opn, mem_canon] at hf; simp [Dd.opn] at hf; rcases hf with rfl | rfl <;> omega
  · refine ⟨by show ((Dd.ifout (.asm (no b)) (.asm b)).rt && decide ((Dd.ifout (.asm (no b)) (.asm b)).told = .fls)) = true; rw [nr, nt]; rfl, ?_, ?_, ?_, ?_, by simp [Dd.okf, ob, b15, oc, c15, onb, nb15], rfl, rfl, by simp [Dd.ht], _, _, rfl, by simp [Dd.pln]⟩
    · have : Fm.fls.dp ≤ 7 := by decide
      simp [Dd.fitN, Dd.nodeOk, nt, this, Dd.told, Dd.opn, c7, b7, nb7, L, L4]
    · simp [Dd.told]; omega
    · simp [Dd.opn, L4]
    · intro f hf; rw [Dd.opn, mem_canon] at hf; rw [Dd.opn, mem_canon] at hf; simp [Dd.opn] at hf; rcases hf with rfl | rfl <;> omega
  · refine ⟨by show ((Dd.ifout (.asm (no b)) (.asm b)).rt && decide ((Dd.ifout (.asm (no b)) (.asm b)).told = .fls)) = true; rw [nr, nt]; rfl, ?_, ?_, ?_, ?_, by simp [Dd.okf, ob, b15, oc, c15, onb, nb15], rfl, rfl, by simp [Dd.ht], _, _, rfl, by simp [Dd.pln]⟩
    · have : Fm.fls.dp ≤ 7 := by decide
      simp [Dd.fitN, Dd.nodeOk, nt, this, Dd.told, Dd.opn, c7, b7, nb7, L, L2]
    · simp [Dd.told]; omega
    · simp [Dd.opn, L2]
    · intro f hf; rw [Dd.opn, mem_canon, mem_without] at hf; have hf := hf.1; rw [Dd.opn, mem_canon] at hf; simp [Dd.opn] at hf; rcases hf with rfl | rfl <;> omega
end Law

set_option Elab.async false
set_option linter.all false
set_option maxRecDepth 100000
set_option maxHeartbeats 8000000
/-! k80: the law's run. -/
namespace Law
open PySem PySem.Spec G

def eitherD (c : Fm) (x : Dd) : Dd := if x.told = c then .orout (.orin false c x) (.asm x.told) (.asm x.told) else .orin true c x
structure Told80 (fdeny flit fpick fpool ff fdb fpl frb fsf fsh fsz fcut ftl ftw : F1) (sc : D) (P0 P1 P2 P3 P4 : List D) (a b c : Fm) (x : Dd) : Prop where
  pool : fpool [sc] [] = some (.ref 0, [.lst P0])
  lit1 : flit [.ref 0, .int 1, .int 3] [.lst P0] = some (enc a, [.lst P1])
  lit2 : flit [.ref 0, .int 1, .int 3] [.lst P1] = some (enc b, [.lst P2])
  lit3 : flit [.ref 0, .int 1, .int 3] [.lst P2] = some (enc c, [.lst P3])
  deny : ∀ f M, fdeny [enc f] M = some (enc (no f), M)
  pick : fpick [.ref 0, .lst ((rows a b c).map encD)] [.lst P3] = some (encD x, [.lst P4])
  od : ∀ f ∈ x.opn, f.dp ≤ 3
  ol : x.opn.length ≤ 2
  oc : IsCanon x.opn
  td : x.told.dp ≤ 3
  db2 : b.dp ≤ 2
  dc2 : c.dp ≤ 2
  tl1 : ∀ M, ftl [encD x] M = some (.tup [enc x.told, fsD x.opn], M)
  fa1 : ∀ M, ff [fsD x.opn, enc x.told, encD x] M = some (.non, M)
  fa2 : ∀ M, ff [.tup (x.opn.map enc ++ [enc c, enc a]), enc x.told, encD x] M = some (.non, M)
  fa3 : ∀ M, ff [fsD (Dd.without b x.opn), enc (.bin .imp b x.told), encD (.ifin b x)] M = some (.non, M)
  sz1 : ∀ M, fsz [encD x] M = some (.int x.sz, M)
  sz2 : ∀ M, fsz [encD (.ifin b x)] M = some (.int (x.sz + 1), M)
  tl2 : ∀ M, ftl [encD (.ifin b x)] M = some (.tup [enc (.bin .imp b x.told), fsD (Dd.without b x.opn)], M)
  fa4 : ∀ M, ff [fsD (canon (Dd.without b x.opn ++ [b])), enc x.told, encD (.ifout (.ifin b x) (.asm b))] M = some (.non, M)
  rb1 : ∀ M, frb [encD (.ifout (.ifin b x) (.asm b))] M = some (.int 1, M)
  sh1 : ∀ M, fsh [encD (.ifout (.ifin b x) (.asm b)), .int 1] M = some (encD x, M)
  fa5 : ∀ M, ff [.tup (x.opn.map enc ++ [enc b]), enc x.told, encD x] M = some (.non, M)
  sz3 : ∀ M, fsz [encD (.ifout (.ifin b x) (.asm b))] M = some (.int (x.sz + 3), M)
  sh50 : ∀ M, fsh [encD (.ifout (.ifin b x) (.asm b)), .int 50] M = some (encD x, M)
  rb0 : ∀ M, frb [encD x] M = some (.int 0, M)
  tl3 : ∀ M, ftl [encD (.andin x (.asm c))] M = some (.tup [enc (.bin .and x.told c), fsD (canon (x.opn ++ [c]))], M)
  tl4 : ∃ w, ∀ M, ftl [encD (.ando false (.andin x (.asm c)))] M = some (.tup [enc x.told, w], M)
  tl5 : ∃ w, ∀ M, ftl [encD (.ando true (.andin x (.asm c)))] M = some (.tup [enc c, w], M)
  fa6 : ∀ M, ff [fsD x.opn, enc (if x.told = c then x.told else .bin .or c x.told), encD (eitherD c x)] M = some (.non, M)
  db : ∀ M, fdb [encD x] M = some (encD x.dbl, M)
  pl1 : ∀ M, fpl [encD x.dbl] M = some (.bl true, M)
  tw : ∀ M, ftw [enc x.told] M = some (enc (no (no x.told)), M)
  fa7 : ∀ M, ff [fsD x.opn, enc (no (no x.told)), encD x.dbl] M = some (.non, M)
  pl2 : ∀ M, fpl [encD x] M = some (.bl x.pln, M)
  fa8 : ∀ p ∈ x.opn, ∀ M, ff [fsD (Dd.without p x.opn), enc x.told, encD x] M = some (.tup [.str "open", .int 1], M)
  fa9 : ∀ M, ff [fsD x.opn, enc (no x.told), encD x] M = some (.tup [.str "goal", .int 0], M)
  cu : ∀ M, fcut [encD x] M = some (cpD x.cuts, M)
  sf : ∀ M, fsf [seqD (x.opn, [x.told]), cpD x.cuts, .bl true] M = some (.non, M)
  wd : ∃ w r, encD x = .tup (.str (Str.ofString w) :: r) ∧ x.pln = !decide (w = "contra")
theorem comp_wo {j : Nat} {p : Fm} {O : List Fm} {lo : Lo} {M : Mo} (hO : ∀ f ∈ O, f.dp ≤ 3) (hp : p.dp ≤ 3) (hj : j ≠ 18) (hl : lo.length = 19) (hv : lo[j]? = some (some (enc p))) :
    compLoop (gName 18) (tru (mBin neF (mVar 18) (mVar j))) (mVar 18) [18] (O.map enc) lo M = some ((Dd.without p O).map enc, M) := by
  have c := comp_typed (g := gName 18) (c := tru (mBin neF (mVar 18) (mVar j))) (m := mVar 18) (vs := [18]) (lo := lo) (M := M) (ei := enc) (eo := enc) (p := fun f => decide (f ≠ p)) (f := id) O fun f hf => by
    have e := ev_nef (M := M) (f := f) (g := p) (by have := hO f hf; omega) (by omega)
    refine ⟨(wipeD lo [18]).set 18 (some (enc f)), rfl, ?_, fun _ => ?_⟩
    · have a18 : ((wipeD lo [18]).set 18 (some (enc f)))[18]? = some (some (enc f)) := by rw [List.getElem?_set_self]; simp [wipeD, hl]
      have aj : ((wipeD lo [18]).set 18 (some (enc f)))[j]? = some (some (enc p)) := by
        rw [List.getElem?_set_ne (by omega)]
        simp only [wipeD]
        rw [List.getElem?_set_ne (by omega)]
        exact hv
      simp [a18, aj, e]
    · have a18 : ((wipeD lo [18]).set 18 (some (enc f)))[18]? = some (some (enc f)) := by rw [List.getElem?_set_self]; simp [wipeD, hl]
      simp [a18]
  rw [List.map_id] at c
  exact c
theorem rg03 : rgD 0 3 = [.int 0, .int 1, .int 2] := by decide +kernel
theorem e_ifin (b : Fm) (x : Dd) : D.tup [.str "ifin", enc b, encD x] = encD (.ifin b x) := rfl
theorem e_ifout (x y : Dd) : D.tup [.str "ifout", encD x, encD y] = encD (.ifout x y) := rfl
theorem e_asm (b : Fm) : D.tup [.str "assume", enc b] = encD (.asm b) := rfl
theorem e_andin (x y : Dd) : D.tup [.str "andin", encD x, encD y] = encD (.andin x y) := rfl
theorem e_ao1 (x : Dd) : D.tup [.str "andout1", encD x] = encD (.ando false x) := rfl
theorem e_ao2 (x : Dd) : D.tup [.str "andout2", encD x] = encD (.ando true x) := rfl
theorem e_oi1 (c : Fm) (x : Dd) : D.tup [.str "orin1", enc c, encD x] = encD (.orin false c x) := rfl
theorem e_oi2 (c : Fm) (x : Dd) : D.tup [.str "orin2", enc c, encD x] = encD (.orin true c x) := rfl
theorem e_orout (x y z : Dd) : D.tup [.str "orout", encD x, encD y, encD z] = encD (.orout x y z) := rfl
theorem e_fout (c : Fm) (x : Dd) : D.tup [.str "falseout", enc c, encD x] = encD (.fout c x) := rfl
theorem e_contra (c : Fm) (x : Dd) : D.tup [.str "contra", enc c, encD x] = encD (.contra c x) := rfl
theorem e_imp (a b : Fm) : D.tup [.str "if", enc a, enc b] = enc (.bin .imp a b) := rfl
theorem e_and (a b : Fm) : D.tup [.str "and", enc a, enc b] = enc (.bin .and a b) := rfl
theorem e_or (a b : Fm) : D.tup [.str "or", enc a, enc b] = enc (.bin .or a b) := rfl
theorem e_seq (O : List Fm) (t : Fm) : D.tup [.tup (O.map enc), .tup [enc t]] = seqD (O, [t]) := rfl
section
variable {fdeny flit fpick fpool ff fdb fpl frb fsf fsh fsz fcut ftl ftw : F1} {sc : D} {P0 P1 P2 P3 P4 : List D} {a b c : Fm} {x : Dd}
theorem law_runs80 (T : Told80 fdeny flit fpick fpool ff fdb fpl frb fsf fsh fsz fcut ftl ftw sc P0 P1 P2 P3 P4 a b c x) :
    ∃ M, fnF 19 (b_law fdeny flit fpick fpool ff fdb fpl frb fsf fsh fsz fcut ftl ftw) [sc] [] = some (.bl true, M) := by
  obtain ⟨pool, lit1, lit2, lit3, deny, pick, od, ol, oc, td, db2, dc2, tl1, fa1, fa2, fa3, sz1, sz2, tl2, fa4, rb1, sh1, fa5, sz3, sh50, rb0, tl3, tl4, tl5, fa6, db, pl1, tw, fa7, pl2, fa8, fa9, cu, sf, wd⟩ := T
  obtain ⟨w1, tl4⟩ := tl4
  obtain ⟨w2, tl5⟩ := tl5
  obtain ⟨w, r, ew, hw⟩ := wd
  have at0 : ∀ M, atF [encD x, .int 0] M = some (.str (Str.ofString w), M) := fun M => by rw [ew]; exact ev_at0 _ _ _
  simp only [rows, List.map_cons, List.map_nil] at pick
  have l1 : x.opn.length ≤ 16777216 := by omega
  have l2 : x.opn.length ≤ 16777215 := by omega
  have l3 : x.opn.length ≤ 16777214 := by omega
  have lw : (Dd.without b x.opn).length ≤ 2 := Nat.le_trans (without_le _ _) ol
  have l4 : (Dd.without b x.opn).length ≤ 16777216 := by omega
  have l5 : (Dd.without b x.opn).length ≤ 16777215 := by omega
  have c3 : ∀ lo M, lo.length = 19 → lo[3]? = some (some (enc b)) → compLoop (gName 18) (tru (mBin neF (mVar 18) (mVar 3))) (mVar 18) [18] (x.opn.map enc) lo M = some ((Dd.without b x.opn).map enc, M) := fun lo M h1 h2 => comp_wo od (by omega) (by decide) h1 h2
  have st1 : ∀ M, sortSetF [.tup (List.map enc (Dd.without b x.opn) ++ [enc b])] M = some (.lst ((canon (Dd.without b x.opn ++ [b])).map enc), M) := fun M =>
    ev_sortset_enc (t := true) (fs := Dd.without b x.opn ++ [b]) (by rw [List.map_append]; rfl) (by simp) (by simp; omega) (fun f hf => by
      rcases List.mem_append.mp hf with h | h
      · have := od f (mem_without.mp h).1; omega
      · simp at h; subst h; omega)
  have st2 : ∀ M, sortSetF [.tup (List.map enc x.opn ++ [enc c])] M = some (.lst ((canon (x.opn ++ [c])).map enc), M) := fun M =>
    ev_sortset_enc (t := true) (fs := x.opn ++ [c]) (by rw [List.map_append]; rfl) (by simp) (by simp; omega) (fun f hf => by
      rcases List.mem_append.mp hf with h | h
      · have := od f h; omega
      · simp at h; subst h; omega)
  have lc1 : (canon (Dd.without b x.opn ++ [b])).length ≤ 16777216 := by have := canon_len (Dd.without b x.opn ++ [b]); simp at this; omega
  have lc2 : (canon (x.opn ++ [c])).length ≤ 16777216 := by have := canon_len (x.opn ++ [c]); simp at this; omega
  have so : ∀ M, sortF [.tup (x.opn.map enc)] M = some (.lst (x.opn.map enc), M) := fun M => ev_sort_canon oc (fun f hf => by have := od f hf; omega) M
  have dO : D.deps (x.opn.map enc) ≤ 3 := encs_deps od
  have dL : D.deps ((Dd.without b x.opn).map enc) ≤ 3 := encs_deps fun f hf => od f (mem_without.mp hf).1
  have dC : D.deps ((canon (x.opn ++ [c])).map enc) ≤ 3 := encs_deps fun f hf => by
    rw [mem_canon] at hf
    rcases List.mem_append.mp hf with h | h
    · exact od f h
    · simp at h; subst h; omega
  have ibt : (Fm.bin .imp b x.told).dp ≤ 4 := by rw [Fm.dp]; omega
  have atc : (Fm.bin .and x.told c).dp ≤ 4 := by rw [Fm.dp]; omega
  have n1 : ∀ M, neF [.tup [enc (.bin .imp b x.told), .tup ((Dd.without b x.opn).map enc)], .tup [enc (.bin .imp b x.told), .tup ((Dd.without b x.opn).map enc)]] M = some (.bl false, M) := fun M =>
    ev_ne_self (by simp [D.dat, D.dats]) (by simp [D.dep, D.deps, enc_dep]; omega) M
  have n2 : ∀ M, neF [.tup [enc (.bin .and x.told c), .tup ((canon (x.opn ++ [c])).map enc)], .tup [enc (.bin .and x.told c), .tup ((canon (x.opn ++ [c])).map enc)]] M = some (.bl false, M) := fun M =>
    ev_ne_self (by simp [D.dat, D.dats]) (by simp [D.dep, D.deps, enc_dep]; omega) M
  have n3 : ∀ M, neF [enc x.told, enc x.told] M = some (.bl false, M) := fun M => ev_ne_self (by simp) (by rw [enc_dep]; omega) M
  have n4 : ∀ M, neF [enc c, enc c] M = some (.bl false, M) := fun M => ev_ne_self (by simp) (by rw [enc_dep]; omega) M
  have n5 : ∀ M, neF [.tup [.str "open", .int 1], .tup [.str "open", .int 1]] M = some (.bl false, M) := fun M => ev_ne_self (by decide +kernel) (by decide +kernel) M
  have q1 : ∀ M, eqF [enc x.told, enc c] M = some (.bl (decide (x.told = c)), M) := fun M => ev_eqf (by omega) (by omega)
  have q2 : ∀ M, eqF [.tup [.str "goal", .int 0], .tup [.str "goal", .int 0]] M = some (.bl true, M) := fun M => by
    rw [ev_eq (by decide +kernel) (by decide +kernel) (by decide +kernel) (by decide +kernel)]; simp
  have szn : ¬ ((x.sz : Int) + 3 ≤ x.sz) := by omega
  have et : eitherD c x = (if x.told = c then Dd.orout (.orin false c x) (.asm x.told) (.asm x.told) else .orin true c x) := rfl
  let lo0 : Option D → Lo := fun u => [some sc, some (.ref 0), some (enc a), some (enc b), some (enc c), some (encD x), some (enc x.told), some (.tup (x.opn.map enc)), some (encD (.ifin b x)), some (.tup ((Dd.without b x.opn).map enc)), some (encD (.ifout (.ifin b x) (.asm b))), some (encD x), some (encD (.asm c)), some (encD (.andin x (.asm c))), some (encD (eitherD c x)), some (encD x.dbl), u, none, none]
  obtain ⟨lo', M', eF, rfl, u, rfl⟩ := for_inv (g := gName 16) (body := sIf (tru (mBin neF (mCallN 3 ff (mCons (mCall tupleF (mCons (mCompS (mVar 7) (gName 18) (tru (mBin neF (mVar 18) (mVar 16))) (mVar 18) [18]) mNil)) (mCons (mVar 6) (mCons (mVar 5) mNil)))) (mTup (mCons (mC (.str "open")) (mCons (mC (.int 1)) mNil))))) (sRet (mC (.bl false))) sNext) (ei := enc)
    (step := fun (s : Unit) (p : Fm) => ()) (R := fun _ lo M => M = [MO.lst P4] ∧ ∃ u, lo = lo0 u) x.opn () (lo0 none) [MO.lst P4] (fun _ p lo M hp ⟨hM, u, hlo⟩ => by
      subst hM hlo
      refine ⟨lo0 (some (enc p)), [MO.lst P4], ?_, rfl, _, rfl⟩
      have c16 : ∀ lo M, lo.length = 19 → lo[16]? = some (some (enc p)) → compLoop (gName 18) (tru (mBin neF (mVar 18) (mVar 16))) (mVar 18) [18] (x.opn.map enc) lo M = some ((Dd.without p x.opn).map enc, M) := fun lo M h1 h2 => comp_wo od (od p hp) (by decide) h1 h2
      have lp : (Dd.without p x.opn).length ≤ 16777216 := by have := without_le p x.opn; omega
      have f8 := fa8 p hp
      simp [lo0, c16, lp, f8, n5, l1]) ⟨rfl, none, rfl⟩
  have run : b_law fdeny flit fpick fpool ff fdb fpl frb fsf fsh fsz fcut ftl ftw [some sc, none, none, none, none, none, none, none, none, none, none, none, none, none, none, none, none, none, none] [] = some (.rt (.bl true) [.lst P4]) := by
    unfold b_law
    simp only [lo0] at eF
    by_cases ht : x.told = c
    · rw [if_pos ht] at fa6 et
      rw [et] at fa6 eF
      have q1t : ∀ M, eqF [enc x.told, enc c] M = some (.bl true, M) := fun M => by rw [q1, decide_eq_true ht]
      simp [e_ifin, e_ifout, e_asm, e_andin, e_ao1, e_ao2, e_oi1, e_oi2, e_orout, e_fout, e_contra, e_imp, e_and, e_or, e_seq, pool, lit1, lit2, lit3, deny, pick, tl1, fa1, fa2, fa3, sz1, sz2, tl2, fa4, rb1, sh1, fa5, sz3, sh50, rb0, tl3, tl4, tl5, fa6, db, pl1, tw, fa7, pl2, fa9, cu, sf,
        at0, hw, l1, l2, l3, l4, l5, c3, st1, st2, lc1, lc2, so, n1, n2, n3, n4, q1t, q2, szn, eF, rg03, compLoop, wipeD]
    · rw [if_neg ht] at fa6 et
      rw [et] at fa6 eF
      simp [e_ifin, e_ifout, e_asm, e_andin, e_ao1, e_ao2, e_oi1, e_oi2, e_orout, e_fout, e_contra, e_imp, e_and, e_or, e_seq, pool, lit1, lit2, lit3, deny, pick, tl1, fa1, fa2, fa3, sz1, sz2, tl2, fa4, rb1, sh1, fa5, sz3, sh50, rb0, tl3, tl4, tl5, fa6, db, pl1, tw, fa7, pl2, fa9, cu, sf,
        at0, hw, l1, l2, l3, l4, l5, c3, st1, st2, lc1, lc2, so, n1, n2, n3, n4, q1, q2, ht, szn, eF, rg03, compLoop, wipeD]
  have ex := exit_cut (M := []) (E := [.lst P4]) (d := .bl true) (by simp [D.closed])
  exact ⟨[], by simp [fnF, run]; exact ex⟩
end
end Law

set_option Elab.async false
set_option linter.all false
set_option maxRecDepth 100000
set_option maxHeartbeats 2000000
/-! The levels: deductions, doubles, shortening, cuts. -/
namespace Law
open PySem PySem.Spec G

abbrev W (k i : Nat) : F1 := Fk fns k i
theorem lv {k : Nat} (h : 1 ≤ k) : ∃ j, k = j + 1 := ⟨k - 1, by omega⟩
theorem ht_ind {P : Dd → Prop} (h : ∀ x, (∀ y ∈ x.up, P y) → P x) : ∀ x, P x := by
  have : ∀ n x, x.ht ≤ n → P x := by
    intro n
    induction n with
    | zero => exact fun x hx => h x fun y hy => by have := ht_up hy; omega
    | succ n ih => exact fun x hx => h x fun y hy => ih y (by have := ht_up hy; omega)
  exact fun x => this _ x (Nat.le_refl _)
theorem m_contrary {k : Nat} (hk : 1 ≤ k) : SCon (W k n_contrary) := by
  obtain ⟨k, rfl⟩ := lv hk
  exact fun f M => (show W (k + 1) n_contrary = fnF 1 b_contrary from rfl) ▸ ev_contrary_ f M
theorem m_uppers {k : Nat} (hk : 1 ≤ k) : SUp (W k n_uppers) := by
  obtain ⟨k, rfl⟩ := lv hk
  exact fun x M => (show W (k + 1) n_uppers = fnF 1 b_uppers from rfl) ▸ ev_uppers_ded x M
theorem m_result {k : Nat} (hk : 1 ≤ k) : SRs (W k n_result_of) := by
  obtain ⟨k, rfl⟩ := lv hk
  exact fun x n M hr hf hm => (show W (k + 1) n_result_of = fnF 3 b_result_of from rfl) ▸ ev_result hr hf hm
theorem m_open {k : Nat} (hk : 2 ≤ k) : SOp (W k n_open_of) := by
  obtain ⟨k, rfl⟩ := lv (by omega : 1 ≤ k)
  exact fun x n m M hr hf hn hm => (show W (k + 1) n_open_of = fnF 7 (b_open_of (W k n_contrary)) from rfl) ▸ ev_open (m_contrary (by omega)) hr hf hn hm
theorem m_worked : ∀ x : Dd, ∀ k, x.rt = true → x.fit = true → x.ht + 3 ≤ k → SWk (W k n_worked_deductions) x := by
  refine ht_ind fun x ih k hr hf hk n M => ?_
  obtain ⟨k, rfl⟩ := lv (by omega : 1 ≤ k)
  exact (show W (k + 1) n_worked_deductions = fnF 9 (b_worked_deductions (W k n_open_of) (W k n_result_of) (W k n_uppers) (W k n_worked_deductions)) from rfl) ▸
    ev_worked (m_open (by omega)) (m_result (by omega)) (m_uppers (by omega)) hr hf (fun y hy => ih y hy k (rt_up hr y hy) (fit_up hf y hy) (by have := ht_up hy; omega)) n M
theorem m_told {x : Dd} {k : Nat} (hr : x.rt = true) (hf : x.fit = true) (hk : x.ht + 4 ≤ k) : STld (W k n_told_by) x := by
  obtain ⟨k, rfl⟩ := lv (by omega : 1 ≤ k)
  exact fun M => (show W (k + 1) n_told_by = fnF 1 (b_told_by (W k n_worked_deductions)) from rfl) ▸ ev_told (m_worked x k hr hf (by omega)) M
theorem m_from {k : Nat} (hk : 2 ≤ k) (i a b : Int) (M : Mo) : W k n_is_from [.int i, .int a, .int b] M = some (.bl (decide (a ≤ i) && decide (i ≤ b)), M) := by
  obtain ⟨k, rfl⟩ : ∃ j, k = j + 1 + 1 := ⟨k - 2, by omega⟩
  exact (show W (k + 1 + 1) n_is_from = fnF 3 (b_is_from (W (k + 1) n_is_whole)) from rfl) ▸ ev_from (fun i M => (show W (k + 1) n_is_whole = fnF 1 b_is_whole from rfl) ▸ ev_whole i M) i a b M
theorem m_shape : ∀ k, SShp (W k n_has_shape) fun f => f.dp + 2 ≤ k := by
  intro k
  induction k with
  | zero => exact fun f d M hq => absurd hq (by omega)
  | succ k ih =>
    intro f d M hq ho hd
    have h0 : 1 ≤ f.dp := ev_shape.dp_pos f 0 f
    have hq : f.dp + 2 ≤ k + 1 := hq
    exact (show W (k + 1) n_has_shape = fnF 2 (b_has_shape (W k n_has_shape) (W k n_is_from)) from rfl) ▸ ev_shape (fun i a b M => m_from (k := k) (by omega) i a b M) ih f d M ho hd fun o a b e => by
      subst e
      rw [Fm.dp] at hq
      exact ⟨by omega, by omega⟩
theorem m_formd : ∀ x : Dd, ∀ k, x.okf = true → x.ht + 18 ≤ k → SFrm (W k n_has_form_deductions) x := by
  refine ht_ind fun x ih k ho hk d M hd => ?_
  obtain ⟨k, rfl⟩ := lv (by omega : 1 ≤ k)
  exact (show W (k + 1) n_has_form_deductions = fnF 5 (b_has_form_deductions (W k n_has_form_deductions) (W k n_has_shape)) from rfl) ▸
    ev_form (fun f M h1 h2 => m_shape k f 14 M (by omega) h1 (by omega)) ho (fun y hy => ih y hy k (okf_up ho y hy) (by have := ht_up hy; omega)) d M hd
theorem m_fault {x : Dd} {k : Nat} (hr : x.rt = true) (hf : x.fit = true) (ho : x.okf = true) (hk : x.ht + 20 ≤ k) (hh : x.ht < 300) {fs : List Fm} {g : Fm} (hfs : ∀ f ∈ fs, f.dp ≤ 63) (hg : x.told.dp ≤ 64) (hg2 : g.dp ≤ 64) (M : Mo) :
    W k n_deduction_fault [fsD fs, enc g, encD x] M = some (faultD x fs g, M) := by
  obtain ⟨k, rfl⟩ := lv (by omega : 1 ≤ k)
  exact (show W (k + 1) n_deduction_fault = fnF 8 (b_deduction_fault (W k n_has_form_deductions) (W k n_worked_deductions)) from rfl) ▸
    ev_fault hf (fun M => m_formd x k ho (by omega) 300 M hh) (m_worked x k hr hf (by omega)) hfs hg hg2 M
theorem m_size : ∀ x : Dd, ∀ k, x.ht + 2 ≤ k → ∀ M, W k n_size [encD x] M = some (.int x.sz, M) := by
  refine ht_ind fun x ih k hk M => ?_
  obtain ⟨k, rfl⟩ := lv (by omega : 1 ≤ k)
  exact (show W (k + 1) n_size = fnF 2 (b_size (W k n_size) (W k n_uppers)) from rfl) ▸ ev_size (m_uppers (by omega)) (fun y hy => ih y hy k (by have := ht_up hy; omega)) M
theorem m_plain : ∀ x : Dd, ∀ k, x.ht + 2 ≤ k → ∀ M, W k n_is_plain [encD x] M = some (.bl x.pln, M) := by
  refine ht_ind fun x ih k hk M => ?_
  obtain ⟨k, rfl⟩ := lv (by omega : 1 ≤ k)
  exact (show W (k + 1) n_is_plain = fnF 2 (b_is_plain (W k n_is_plain) (W k n_uppers)) from rfl) ▸ ev_plain (m_uppers (by omega)) (fun y hy => ih y hy k (by have := ht_up hy; omega)) M
theorem m_doubled : ∀ x : Dd, ∀ k, x.rt = true → x.fit = true → x.ht + 5 ≤ k → ∀ M, W k n_doubled [encD x] M = some (encD x.dbl, M) := by
  refine ht_ind fun x ih k hr hf hk M => ?_
  obtain ⟨k, rfl⟩ : ∃ j, k = j + 1 + 1 := ⟨k - 2, by omega⟩
  have hc : SCon (W k n_contrary) := m_contrary (by omega)
  exact (show W (k + 1 + 1) n_doubled = fnF 11 (b_doubled (W (k + 1) n_clash_doubles) (W (k + 1) n_contrary) (W (k + 1) n_denied) (W (k + 1) n_doubled) (W (k + 1) n_taken) (W (k + 1) n_told_by) (W (k + 1) n_uppers)) from rfl) ▸
    ev_doubled ((show W (k + 1) n_clash_doubles = fnF 2 (b_clash_doubles (W k n_contrary)) from rfl) ▸ ev_clash hc) (m_contrary (by omega)) ((show W (k + 1) n_denied = fnF 2 (b_denied (W k n_contrary)) from rfl) ▸ ev_denied hc)
      ((show W (k + 1) n_taken = fnF 3 b_taken from rfl) ▸ ev_taken) (m_uppers (by omega)) hr (m_told hr hf (by omega)) (fun y hy => m_told (rt_up hr y hy) (fit_up hf y hy) (by have := ht_up hy; omega))
      (fun y hy => ih y hy (k + 1) (rt_up hr y hy) (fit_up hf y hy) (by have := ht_up hy; omega)) M
theorem m_twice {k : Nat} (hk : 2 ≤ k) (f : Fm) (M : Mo) : W k n_twice [enc f] M = some (enc (no (no f)), M) := by
  obtain ⟨k, rfl⟩ := lv (by omega : 1 ≤ k)
  exact (show W (k + 1) n_twice = fnF 1 (b_twice (W k n_contrary)) from rfl) ▸ ev_twice (m_contrary (by omega)) f M
end Law

set_option Elab.async false
set_option linter.all false
set_option maxRecDepth 100000
set_option maxHeartbeats 2000000
/-! The levels: shortening, cuts. -/
namespace Law
open PySem PySem.Spec G

theorem m_put : ∀ x : Dd, ∀ k (f : Fm), f.dp ≤ 60 → x.noor = true → x.okf = true → x.ht + 2 ≤ k → SPut (W k n_put_in_shortening) f x := by
  refine ht_ind fun x ih k f hf hn ho hk M => ?_
  obtain ⟨k, rfl⟩ := lv (by omega : 1 ≤ k)
  exact (show W (k + 1) n_put_in_shortening = fnF 9 (b_put_in_shortening (W k n_contrary) (W k n_put_in_shortening) (W k n_told_by)) from rfl) ▸
    ev_put (m_contrary (by omega)) hf hn ho (fun y hy => ih y hy k f hf (noor_up hn y hy) (okf_up ho y hy) (by have := ht_up hy; omega)) M
theorem m_shorter_no {x : Dd} {k : Nat} (h : x.dir = true) (hk : 1 ≤ k) (M : Mo) : W k n_shorter [encD x] M = some (.non, M) := by
  obtain ⟨k, rfl⟩ := lv hk
  exact (show W (k + 1) n_shorter = fnF 3 (b_shorter (W k n_put_in_shortening) (W k n_told_by)) from rfl) ▸ ev_shorter_no h M
theorem m_shorter_use {x : Dd} {f : Fm} {k : Nat} (hf : f.dp ≤ 60) (hn : x.noor = true) (ho : x.okf = true) (hk : x.ht + 3 ≤ k) (M : Mo) : W k n_shorter [encD (.ifout (.ifin f x) (.asm f))] M = some (encD x, M) := by
  obtain ⟨k, rfl⟩ := lv (by omega : 1 ≤ k)
  exact (show W (k + 1) n_shorter = fnF 3 (b_shorter (W k n_put_in_shortening) (W k n_told_by)) from rfl) ▸ ev_shorter_use (m_put x k f hf hn ho (by omega)) M
theorem m_round0 : ∀ x : Dd, ∀ k, x.dir = true → x.ht + 2 ≤ k → ∀ M, W k n_roundabouts [encD x] M = some (.int 0, M) := by
  refine ht_ind fun x ih k hd hk M => ?_
  obtain ⟨k, rfl⟩ := lv (by omega : 1 ≤ k)
  have e := ev_round (fr := W k n_roundabouts) (fs := W k n_shorter) (fu := W k n_uppers) (m_uppers (by omega)) (x := x) (n := 0) (r := fun _ => 0) (fun M => ⟨.non, m_shorter_no hd (by omega) M, by simp, fun M => by rw [notN_non]; simp⟩)
    (fun y hy => ih y hy k (dir_up hd y hy) (by have := ht_up hy; omega)) M
  have z : (0 : Int) + (x.up.map fun _ => (0 : Int)).sum = 0 := by
    have : ∀ l : List Dd, (l.map fun _ => (0 : Int)).sum = 0 := fun l => by induction l with
      | nil => rfl
      | cons a l ih => rw [List.map_cons, List.sum_cons, ih]; rfl
    rw [this]; rfl
  rw [z] at e
  exact (show W (k + 1) n_roundabouts = fnF 2 (b_roundabouts (W k n_roundabouts) (W k n_shorter) (W k n_uppers)) from rfl) ▸ e
theorem m_round1 {x : Dd} {f : Fm} {k : Nat} (hf : f.dp ≤ 60) (hd : x.dir = true) (hn : x.noor = true) (ho : x.okf = true) (hk : x.ht + 4 ≤ k) (M : Mo) : W k n_roundabouts [encD (.ifout (.ifin f x) (.asm f))] M = some (.int 1, M) := by
  obtain ⟨k, rfl⟩ := lv (by omega : 1 ≤ k)
  have e := ev_round (fr := W k n_roundabouts) (fs := W k n_shorter) (fu := W k n_uppers) (m_uppers (by omega)) (x := .ifout (.ifin f x) (.asm f)) (n := 1) (r := fun _ => 0) (fun M => ⟨encD x, m_shorter_use hf hn ho (by omega) M, by rw [if_neg (encD_ne x)], fun M => by rw [notN_ded]; simp [encD_ne x]⟩)
    (fun y hy => by
      simp only [Dd.up, List.mem_cons, List.not_mem_nil, or_false] at hy
      rcases hy with rfl | rfl
      · exact m_round0 _ k (by simpa [Dd.dir] using hd) (by simp only [Dd.ht]; omega)
      · exact m_round0 _ k (by simp [Dd.dir]) (by simp only [Dd.ht]; omega)) M
  exact (show W (k + 1) n_roundabouts = fnF 2 (b_roundabouts (W k n_roundabouts) (W k n_shorter) (W k n_uppers)) from rfl) ▸ e
theorem m_once_no : ∀ x : Dd, ∀ k, x.dir = true → x.ht + 2 ≤ k → ∀ M, W k n_once [encD x] M = some (.non, M) := by
  refine ht_ind fun x ih k hd hk M => ?_
  obtain ⟨k, rfl⟩ := lv (by omega : 1 ≤ k)
  exact (show W (k + 1) n_once = fnF 5 (b_once (W k n_once) (W k n_shorter)) from rfl) ▸
    ev_once_no hd (fun M => m_shorter_no hd (by omega) M) (fun y hy => ih y hy k (dir_up hd y hy) (by have := ht_up hy; omega)) M
theorem m_once_use {x : Dd} {f : Fm} {k : Nat} (hf : f.dp ≤ 60) (hn : x.noor = true) (ho : x.okf = true) (hk : x.ht + 4 ≤ k) (M : Mo) : W k n_once [encD (.ifout (.ifin f x) (.asm f))] M = some (encD x, M) := by
  obtain ⟨k, rfl⟩ := lv (by omega : 1 ≤ k)
  exact (show W (k + 1) n_once = fnF 5 (b_once (W k n_once) (W k n_shorter)) from rfl) ▸ ev_once_yes (fun M => m_shorter_use hf hn ho (by omega) M) M
theorem m_short1 {x : Dd} {f : Fm} {k : Nat} (hf : f.dp ≤ 60) (hn : x.noor = true) (ho : x.okf = true) (hk : x.ht + 5 ≤ k) (M : Mo) : W k n_shortened [encD (.ifout (.ifin f x) (.asm f)), .int 1] M = some (encD x, M) := by
  obtain ⟨k, rfl⟩ := lv (by omega : 1 ≤ k)
  exact (show W (k + 1) n_shortened = fnF 4 (b_shortened (W k n_once)) from rfl) ▸ ev_short1 (fun M => m_once_use hf hn ho (by omega) M) M
theorem m_short50 {x : Dd} {f : Fm} {k : Nat} (hf : f.dp ≤ 60) (hd : x.dir = true) (hn : x.noor = true) (ho : x.okf = true) (hk : x.ht + 5 ≤ k) (M : Mo) : W k n_shortened [encD (.ifout (.ifin f x) (.asm f)), .int 50] M = some (encD x, M) := by
  obtain ⟨k, rfl⟩ := lv (by omega : 1 ≤ k)
  exact (show W (k + 1) n_shortened = fnF 4 (b_shortened (W k n_once)) from rfl) ▸ ev_short50 (fun M => m_once_use hf hn ho (by omega) M) (fun M => m_once_no x k hd (by omega) M) M
theorem m_cuts : ∀ x : Dd, ∀ k, x.rt = true → x.fit = true → x.ht + 5 ≤ k → ∀ M, W k n_to_cuts [encD x] M = some (cpD x.cuts, M) := by
  refine ht_ind fun x ih k hr hf hk M => ?_
  obtain ⟨k, rfl⟩ := lv (by omega : 1 ≤ k)
  exact (show W (k + 1) n_to_cuts = fnF 7 (b_to_cuts (W k n_contrary) (W k n_to_cuts) (W k n_told_by) (W k n_uppers)) from rfl) ▸
    ev_tocuts (m_contrary (by omega)) (m_uppers (by omega)) hr (m_told hr hf (by omega)) (fun y hy => m_told (rt_up hr y hy) (fit_up hf y hy) (by have := ht_up hy; omega))
      (fun y hy => ih y hy k (rt_up hr y hy) (fit_up hf y hy) (by have := ht_up hy; omega)) M
theorem m_with {k : Nat} (hk : 1 ≤ k) : SWith (W k n_with_one) := by
  obtain ⟨k, rfl⟩ := lv hk
  exact fun s f M hs hf => (show W (k + 1) n_with_one = fnF 2 b_with_one from rfl) ▸ ev_with_one hs hf
theorem m_prems (k : Nat) (p : Cp) (s : Sq) (hk : 2 ≤ k) (hs : SmallS s) (ho : p.okc = true) (hc : p.chk s = true) : SPr (W k n_premises) p s := by
  obtain ⟨k, rfl⟩ := lv (by omega : 1 ≤ k)
  exact (show W (k + 1) n_premises = fnF 8 (b_premises (W k n_with_one)) from rfl) ▸ ev_prems (m_with (by omega)) hs ho hc
theorem m_sfault {p : Cp} {s : Sq} {k : Nat} (ho : p.okc = true) (hc : p.chk s = true) (hs : Sm (p.ht + 1) s) (hk : p.ht + 20 ≤ k) (hh : p.ht < 300) (M : Mo) : W k n_sequent_fault [seqD s, cpD p, .bl true] M = some (.non, M) := by
  obtain ⟨k, rfl⟩ := lv (by omega : 1 ≤ k)
  exact (show W (k + 1) n_sequent_fault = fnF 3 (b_sequent_fault (W k n_has_form_sequents) (W k n_step_fault)) from rfl) ▸
    ev_sfault (form_tower (fH := fun k => W k n_has_form_sequents) (fS := fun k => W k n_has_shape) (fun k => rfl) (m := 15) (fun k f M hk h1 h2 => m_shape k f 12 M (by omega) h1 (by omega)) p k ho (by omega)) hh
      (step_tower (fS := fun k => W k n_step_fault) (fP := fun k => W k n_premises) (fun k => rfl) m_prems p s k ho hc hs (by omega)) M
end Law

set_option Elab.async false
set_option linter.all false
set_option maxRecDepth 100000
set_option maxHeartbeats 2000000
/-! The levels: the law's draws. -/
namespace Law
open PySem PySem.Spec G

theorem ml_draw {k : Nat} (hk : 2 ≤ k) : SDrw (Fk fns k n__law_draw) := by
  obtain ⟨k, rfl⟩ : ∃ j, k = j + 1 + 1 := ⟨k - 2, by omega⟩
  exact fun P R many hP h1 h2 => (show Fk fns (k + 1 + 1) n__law_draw = fnF 5 (b__law_draw (Fk fns (k + 1) n__law_spread)) from rfl) ▸ ev_draw (fun c M => (show Fk fns (k + 1) n__law_spread = fnF 4 b__law_spread from rfl) ▸ ev_spread c M) hP R many h1 h2
theorem ml_little : ∀ (d k : Nat), d + 3 ≤ k → SLit (Fk fns k n__law_little) d := by
  intro d
  induction d with
  | zero =>
    intro k hk
    obtain ⟨k, rfl⟩ : ∃ j, k = j + 1 := ⟨k - 1, by omega⟩
    exact (show Fk fns (k + 1) n__law_little = fnF 5 (b__law_little (Fk fns k n__law_draw) (Fk fns k n__law_little)) from rfl) ▸ ev_little (ml_draw (by omega)) fun e he => by omega
  | succ d ih =>
    intro k hk
    obtain ⟨k, rfl⟩ : ∃ j, k = j + 1 := ⟨k - 1, by omega⟩
    exact (show Fk fns (k + 1) n__law_little = fnF 5 (b__law_little (Fk fns k n__law_draw) (Fk fns k n__law_little)) from rfl) ▸ ev_little (ml_draw (by omega)) fun e he => by
      have : e = d := by omega
      subst this
      exact ih k (by omega)
end Law

set_option Elab.async false
set_option linter.all false
set_option maxRecDepth 100000
set_option maxHeartbeats 4000000
/-! k80: the law. -/
namespace Law
open PySem PySem.Spec G

theorem fault_none {x : Dd} {fs : List Fm} {g : Fm} (h : x.told = g) (hs : ∀ f ∈ x.opn, f ∈ fs) : faultD x fs g = .non := by
  have : leftO x fs = [] := List.filter_eq_nil_iff.mpr fun f hf => by simp [hs f hf]
  unfold faultD
  rw [if_neg (by simp [h]), if_pos this]
theorem filter_one : ∀ {l : List Fm} {p : Fm}, l.Nodup → p ∈ l → (l.filter fun f => decide (f = p)).length = 1
  | [], _, _, h => absurd h (by simp)
  | f :: l, p, hn, h => by
    obtain ⟨h1, h2⟩ := List.nodup_cons.mp hn
    rw [List.filter_cons]
    by_cases e : f = p
    · subst e
      have : l.filter (fun g => decide (g = f)) = [] := List.filter_eq_nil_iff.mpr fun g hg => by
        have : g ≠ f := fun z => h1 (z ▸ hg)
        simp [this]
      simp [this]
    · rcases List.mem_cons.mp h with z | z
      · exact absurd z.symm e
      · simp [e, filter_one h2 z]
theorem fault_open {x : Dd} {p : Fm} (hp : p ∈ x.opn) : faultD x (Dd.without p x.opn) x.told = .tup [.str "open", .int 1] := by
  have e : leftO x (Dd.without p x.opn) = x.opn.filter fun f => decide (f = p) := by
    refine List.filter_congr fun f hf => ?_
    by_cases h : f = p
    · simp [h, mem_without]
    · simp [h, mem_without, hf]
  have l := filter_one (opn_nodup x) hp
  rw [← e] at l
  unfold faultD
  rw [if_neg (by simp), if_neg (fun z => by rw [z] at l; cases l), l]
  rfl
theorem no_ne (f : Fm) : f ≠ no f := fun e => by
  have := congrArg Fm.dp e
  rw [dp_no] at this
  omega
theorem asm_fn {f : Fm} (h : f.dp ≤ 7) : (Dd.asm f).fitN 18 7 = true := by simp [Dd.fitN, Dd.nodeOk, Dd.told, Dd.opn, h]
theorem fs_app (fs gs : List Fm) : fsD (fs ++ gs) = .tup (fs.map enc ++ gs.map enc) := congrArg D.tup List.map_append
/-- all that is asked of a deduction -/
structure Fine (x : Dd) : Prop where
  rt : x.rt = true
  fit : x.fit = true
  ok : x.okf = true
  ht : x.ht ≤ 60
  td : x.told.dp ≤ 60
theorem Fine.none {x : Dd} (F : Fine x) {fs : List Fm} {g : Fm} (e : x.told = g) (hs : ∀ f ∈ x.opn, f ∈ fs) (hd : ∀ f ∈ fs, f.dp ≤ 63) (M : Mo) : W 114 n_deduction_fault [fsD fs, enc g, encD x] M = some (.non, M) := by
  have ht := F.ht
  have td := F.td
  rw [m_fault F.rt F.fit F.ok (by omega) (by omega) hd (by omega) (by rw [← e]; omega) M, fault_none e hs]
theorem Fine.tl {x : Dd} (F : Fine x) (M : Mo) : W 114 n_told_by [encD x] M = some (.tup [enc x.told, fsD x.opn], M) := m_told F.rt F.fit (by have := F.ht; omega) M
theorem Fine.sz {x : Dd} (F : Fine x) (M : Mo) : W 114 n_size [encD x] M = some (.int x.sz, M) := m_size x 114 (by have := F.ht; omega) M
theorem fine_of {x : Dd} (h : x.rt = true) (hn : x.fitN 18 7 = true) (ho : x.okf = true) (hh : x.ht ≤ 60) : Fine x := ⟨h, fitN_fit hn (by omega) (by omega), ho, hh, by have := (fitN_node hn).1; omega⟩
theorem law_true (ns : List Int) (_ : ns.length ≤ 63) : ∃ M, Fk fns lev 35 [.rol (ns.map D.int)] [] = some (.bl true, M) := by
  obtain ⟨salt, hpool⟩ := ev_pool ns
  have hP0 : PoolOk (poolD ns 0 0 0 salt) := ⟨ns, 0, 0, 0, salt, by omega, rfl⟩
  obtain ⟨a, P1, e1, da, oa, hP1⟩ := ml_little 1 114 (by omega) _ [] 3 hP0 (by omega) (by omega)
  obtain ⟨b, P2, e2, db, ob, hP2⟩ := ml_little 1 114 (by omega) P1 [] 3 hP1 (by omega) (by omega)
  obtain ⟨c, P3, e3, dc, oc, hP3⟩ := ml_little 1 114 (by omega) P2 [] 3 hP2 (by omega) (by omega)
  obtain ⟨x, P4, m4, e4, hP4⟩ := ev_pickG encD (ml_draw (k := 113) (by omega)) hP3 [] (rows a b c) (by simp [rows]) (by simp [rows])
  have R := row_ok (by omega) (by omega) (by omega) oa ob oc m4
  have rt := R.rt
  have td := R.td
  have ol := R.ol
  have od := R.od
  have ht := R.ht
  have hb : b.dp ≤ 2 := by omega
  have hc : c.dp ≤ 2 := by omega
  have hok : x.okf = true := R.ok
  have ic := opn_canon rt
  have Fx : Fine x := fine_of rt R.fn hok (by omega)
  have tok : x.told.ok = true := told_ok rt hok
  -- what is made of the row
  have wl : (Dd.without b x.opn).length ≤ 2 := Nat.le_trans (without_le _ _) ol
  have wcan : IsCanon (Dd.without b x.opn) := ⟨ic.1.sublist List.filter_sublist, ic.2.sublist List.filter_sublist⟩
  have oc1 : (Dd.ifin b x).opn = Dd.without b x.opn := by rw [Dd.opn]; exact canon_self wcan
  have n1 : (Dd.ifin b x).fitN 18 7 = true := by
    have h1 : (Dd.ifin b x).told.dp ≤ 7 := by rw [Dd.told, Fm.dp]; omega
    have h2 : (Dd.ifin b x).opn.length ≤ 18 := by rw [oc1]; omega
    simp [Dd.fitN, Dd.nodeOk, R.fn, h1, h2]
  have F1 : Fine (.ifin b x) := fine_of rt n1 (by simp [Dd.okf, ob, hok]; omega) (by rw [Dd.ht]; omega)
  have oa1 : ∀ f ∈ (Dd.ifout (.ifin b x) (.asm b)).opn, f ∈ canon (Dd.without b x.opn ++ [b]) := fun f hf => by
    rw [o_ifout, oc1] at hf
    rw [mem_canon, List.mem_append]
    exact hf.imp id fun h => by simpa [Dd.opn] using h
  have l2 : (canon (Dd.without b x.opn ++ [b])).length ≤ 3 := by have := canon_len (Dd.without b x.opn ++ [b]); simp at this; omega
  have r2 : (Dd.ifout (.ifin b x) (.asm b)).rt = true := by simp [Dd.rt, rt, Dd.told]
  have t2 : (Dd.ifout (.ifin b x) (.asm b)).told = x.told := rfl
  have n2 : (Dd.ifout (.ifin b x) (.asm b)).fitN 18 7 = true := by
    have h1 : (Dd.ifout (.ifin b x) (.asm b)).told.dp ≤ 7 := by rw [t2]; omega
    have h2 : (Dd.ifout (.ifin b x) (.asm b)).opn.length ≤ 18 := by
      have := canon_len ((Dd.ifin b x).opn ++ (Dd.asm b).opn)
      rw [oc1] at this
      rw [Dd.opn, oc1]
      simp [Dd.opn] at this ⊢
      omega
    have h3 : (Dd.asm b).fitN 18 7 = true := asm_fn (by omega)
    rw [Dd.fitN, n1, h3]
    simp [Dd.nodeOk, h1, h2]
  have F2 : Fine (.ifout (.ifin b x) (.asm b)) := fine_of r2 n2 (by simp [Dd.okf, ob, hok]; omega) (by simp only [Dd.ht]; omega)
  have n3 : (Dd.andin x (.asm c)).fitN 18 7 = true := by
    have h1 : (Dd.andin x (.asm c)).told.dp ≤ 7 := by rw [Dd.told, Fm.dp, Dd.told]; omega
    have h2 : (Dd.andin x (.asm c)).opn.length ≤ 18 := by
      have := canon_len (x.opn ++ (Dd.asm c).opn)
      rw [Dd.opn]
      simp [Dd.opn] at this ⊢
      omega
    have h3 : (Dd.asm c).fitN 18 7 = true := asm_fn (by omega)
    rw [Dd.fitN, R.fn, h3]
    simp [Dd.nodeOk, h1, h2]
  have k3 : (Dd.andin x (.asm c)).okf = true := by simp [Dd.okf, oc, hok]; omega
  have F3 : Fine (.andin x (.asm c)) := fine_of (by simp [Dd.rt, rt]) n3 k3 (by simp only [Dd.ht]; omega)
  have l3 : (Dd.andin x (.asm c)).opn.length ≤ 18 := (fitN_node n3).2
  have n4 : ∀ k, (Dd.ando k (Dd.andin x (.asm c))).fitN 18 7 = true := fun k => by
    have h1 : (Dd.ando k (Dd.andin x (.asm c))).told.dp ≤ 7 := by
      rw [Dd.told, Dd.told, Dd.told]
      simp only
      cases k <;> simp <;> omega
    have h2 : (Dd.ando k (Dd.andin x (.asm c))).opn.length ≤ 18 := by rw [Dd.opn]; exact Nat.le_trans (canon_len _) l3
    rw [Dd.fitN, n3]
    simp [Dd.nodeOk, h1, h2]
  have F4 : ∀ k, Fine (.ando k (Dd.andin x (.asm c))) := fun k => fine_of (by simp [Dd.rt, rt, Dd.told, Dd.isB]) (n4 k) k3 (by simp only [Dd.ht]; omega)
  have F5 : Fine (eitherD c x) ∧ (eitherD c x).told = (if x.told = c then x.told else .bin .or c x.told) ∧ ∀ f ∈ (eitherD c x).opn, f ∈ x.opn := by
    unfold eitherD
    by_cases h : x.told = c
    · rw [if_pos h, if_pos h]
      have h0 : (Dd.orin false c x).told = .bin .or x.told c := rfl
      have oo : ∀ f ∈ (Dd.orout (.orin false c x) (.asm x.told) (.asm x.told)).opn, f ∈ x.opn := fun f hf => by
        rw [o_orout h0, o_orin] at hf
        rcases hf with hf | ⟨hf, h2⟩ | ⟨hf, h2⟩
        · exact hf
        · simp [Dd.opn] at hf; exact absurd hf h2
        · simp [Dd.opn] at hf; rw [h] at hf; exact absurd hf h2
      have n5 : (Dd.orout (.orin false c x) (.asm x.told) (.asm x.told)).fitN 18 7 = true := by
        have h1 : (Dd.orin false c x).told.dp ≤ 7 := by rw [h0, Fm.dp]; omega
        have h2 : (Dd.orin false c x).opn.length ≤ 18 := by rw [Dd.opn]; exact Nat.le_trans (canon_len _) (by omega)
        have h3 : (Dd.asm x.told).fitN 18 7 = true := asm_fn (by omega)
        have h4 : (Dd.orout (.orin false c x) (.asm x.told) (.asm x.told)).told.dp ≤ 7 := by rw [Dd.told, Dd.told]; omega
        have h5 : (Dd.orout (.orin false c x) (.asm x.told) (.asm x.told)).opn.length ≤ 18 := len_sub (opn_nodup _) oo (by omega)
        have h6 : (Dd.orin false c x).fitN 18 7 = true := by
          rw [Dd.fitN, R.fn]
          simp [Dd.nodeOk, h1, h2]
        rw [Dd.fitN, h6, h3]
        simp [Dd.nodeOk, h4, h5]
      exact ⟨fine_of (by simp [Dd.rt, rt, Dd.told, Dd.isB]) n5 (by simp [Dd.okf, oc, hok, tok]; omega) (by simp only [Dd.ht]; omega), rfl, oo⟩
    · rw [if_neg h, if_neg h]
      have h0 : (Dd.orin true c x).told = .bin .or c x.told := rfl
      have n5 : (Dd.orin true c x).fitN 18 7 = true := by
        have h1 : (Dd.orin true c x).told.dp ≤ 7 := by rw [h0, Fm.dp]; omega
        have h2 : (Dd.orin true c x).opn.length ≤ 18 := by rw [Dd.opn]; exact Nat.le_trans (canon_len _) (by omega)
        rw [Dd.fitN, R.fn]
        simp [Dd.nodeOk, h1, h2]
      exact ⟨fine_of rt n5 (by simp [Dd.okf, oc, hok]; omega) (by simp only [Dd.ht]; omega), rfl, fun f hf => o_orin.mp hf⟩
  have dh := dbl_ht x
  have F6 : Fine x.dbl := ⟨dbl_rt rt, dbl_fit rt R.fn, dbl_okf rt R.fn hok, by omega, by rw [dbl_told rt, dp_no, dp_no]; omega⟩
  have d63 : ∀ f ∈ x.opn, f.dp ≤ 63 := fun f hf => by have := od f hf; omega
  have w63 : ∀ f ∈ Dd.without b x.opn, f.dp ≤ 63 := fun f hf => d63 f (mem_without.mp hf).1
  have ch := cuts_ht x
  have T : Told80 (W 114 n__law_deny) (W 114 n__law_little) (W 114 n__law_pick) (W 114 n__law_pool) (W 114 n_deduction_fault) (W 114 n_doubled) (W 114 n_is_plain) (W 114 n_roundabouts) (W 114 n_sequent_fault) (W 114 n_shortened) (W 114 n_size) (W 114 n_to_cuts) (W 114 n_told_by) (W 114 n_twice)
      (.rol (ns.map D.int)) (poolD ns 0 0 0 salt) P1 P2 P3 P4 a b c x :=
    { pool := hpool
      lit1 := e1
      lit2 := e2
      lit3 := e3
      deny := fun f M => (show W 114 n__law_deny = fnF 1 b__law_deny from rfl) ▸ ev_deny f M
      pick := (show W 114 n__law_pick = fnF 2 (b__law_pick (W 113 n__law_draw)) from rfl) ▸ e4
      od := od
      ol := ol
      oc := ic
      td := td
      db2 := hb
      dc2 := hc
      tl1 := Fx.tl
      fa1 := Fx.none rfl (fun f hf => hf) d63
      fa2 := fun M => by
        have := Fx.none (fs := x.opn ++ [c, a]) rfl (fun f hf => List.mem_append_left _ hf) (fun f hf => by
          rcases List.mem_append.mp hf with h | h
          · exact d63 f h
          · simp at h; rcases h with rfl | rfl <;> omega) M
        rwa [fs_app] at this
      fa3 := F1.none rfl (fun f hf => by rwa [oc1] at hf) w63
      sz1 := Fx.sz
      sz2 := fun M => by have := F1.sz M; rw [Dd.sz] at this; simpa using this
      tl2 := fun M => by have := F1.tl M; rw [oc1] at this; exact this
      fa4 := F2.none rfl oa1 (fun f hf => by
        rw [mem_canon, List.mem_append] at hf
        rcases hf with h | h
        · exact w63 f h
        · simp at h; subst h; omega)
      rb1 := fun M => m_round1 (by omega) R.dir R.noor hok (by omega) M
      sh1 := fun M => m_short1 (by omega) R.noor hok (by omega) M
      fa5 := fun M => by
        have := Fx.none (fs := x.opn ++ [b]) rfl (fun f hf => List.mem_append_left _ hf) (fun f hf => by
          rcases List.mem_append.mp hf with h | h
          · exact d63 f h
          · simp at h; subst h; omega) M
        rwa [fs_app] at this
      sz3 := fun M => by
        have := F2.sz M
        have e : (Dd.ifout (.ifin b x) (.asm b)).sz = x.sz + 3 := by simp only [Dd.sz]
        rw [e] at this
        simpa using this
      sh50 := fun M => m_short50 (by omega) R.dir R.noor hok (by omega) M
      rb0 := fun M => m_round0 x 114 R.dir (by omega) M
      tl3 := F3.tl
      tl4 := ⟨_, (F4 false).tl⟩
      tl5 := ⟨_, (F4 true).tl⟩
      fa6 := F5.1.none F5.2.1 F5.2.2 d63
      db := fun M => m_doubled x 114 rt Fx.fit (by omega) M
      pl1 := fun M => by rw [m_plain x.dbl 114 (by omega) M, dbl_pln]
      tw := fun M => m_twice (by omega) _ M
      fa7 := F6.none (dbl_told rt) (dbl_opn rt) d63
      pl2 := fun M => m_plain x 114 (by omega) M
      fa8 := fun p hp M => by
        rw [m_fault rt Fx.fit hok (by omega) (by omega) (fun f hf => d63 f (mem_without.mp hf).1) (by omega) (by omega) M, fault_open hp]
      fa9 := fun M => by
        rw [m_fault rt Fx.fit hok (by omega) (by omega) d63 (by omega) (by rw [dp_no]; omega) M]
        unfold faultD
        rw [if_pos (no_ne _)]
      cu := fun M => m_cuts x 114 rt Fx.fit (by omega) M
      sf := fun M => m_sfault (cuts_okc rt R.fn hok) (cuts_chk rt _ (fun g hg => hg) (by simp)) ⟨by simp only; omega, by simp; omega, fun f hf => by have := od f hf; omega, fun f hf => by simp at hf; subst hf; omega⟩ (by omega) (by omega) M
      wd := R.wd }
  exact (show Fk fns lev 35 = fnF 19 (b_law (W 114 n__law_deny) (W 114 n__law_little) (W 114 n__law_pick) (W 114 n__law_pool) (W 114 n_deduction_fault) (W 114 n_doubled) (W 114 n_is_plain) (W 114 n_roundabouts) (W 114 n_sequent_fault) (W 114 n_shortened) (W 114 n_size) (W 114 n_to_cuts) (W 114 n_told_by) (W 114 n_twice)) from rfl) ▸ law_runs80 T
end Law

open PySem PySem.W PyProof.Rows
theorem PySem.Challenge.cw_everyproof_k80_whole_assumptions_let_go_holds : PySem.Challenge.rw_everyproof_k80_whole_assumptions_let_go.Holds := by
  exact law_head Law.law_true
