import PyProof.Rows.All
import Wide.All
import OpenK.AllK
import Wide.FinOn
import HandS.ForMost
import HandS.Deep
import HandS.Zip
import HandS.Walk
import HandS.TupAny
import HandS.TupMul
import HandS.Style
import HandS.IsInst
import HandS.Conv
import HandS.ForExc
import KE.KDictKeyed
import KE.KeyNested
import HandS.ExcIs
import HandS.HotCalls
import HandS.OwnEq
import KE.GoesEnum
import KE.KEqDeep
import KE.KDictPairs
import KE.KTupSum
import KE.SortData
import KE.DataMinMax
import KE.GoesMore
import HandS.More
import HandS.SetBool
import HandS.Strs
import HandS.ExcBuiltin
import KE.DataFind
import HandS.Text
import PySem.Challenge.RW_askahead_k02_whole_ways
set_option Elab.async false
set_option linter.all false
set_option autoImplicit false
set_option maxRecDepth 100000
/-! ML1: mirrors of Python code as functions over plain data; the state relation. -/
namespace MM
open PySem PySem.Spec PyProof.Rows L2

abbrev PD := PyData

/-! ### what never changes -/
def Fz : HO → Bool
  | .tup _ => true
  | .frz _ _ => true
  | _ => false
def Im (H H' : Hp) : Prop := ∀ a o, H a = some o → Fz o = true → H' a = some o
theorem Im.refl (H : Hp) : Im H H := fun _ _ h _ => h
theorem Im.trans {H H1 H2 : Hp} (a : Im H H1) (b : Im H1 H2) : Im H H2 := fun p o h f => b p o (a p o h f) f

/-- a list that is locked for good -/
def SqF (H : Hp) (a : Addr) (xs : List V) : Prop := ∃ o, H a = some (.frz o (.lst xs))
theorem SqF.rd {H : Hp} {a : Addr} {xs : List V} (h : SqF H a xs) : Rd H a (.lst xs) := .inr h
theorem SqF.im {H H' : Hp} {a : Addr} {xs : List V} (m : Im H H') (h : SqF H a xs) : SqF H' a xs := let ⟨o, h⟩ := h; ⟨o, m _ _ h rfl⟩
/-- the script: locked, or an object of the module -/
def SqS (K : PySem.W.Frag) (H : Hp) (a : Addr) (xs : List V) : Prop := SqF H a xs ∨ SqL K (fun _ => none) a xs
theorem SqS.sq {K : PySem.W.Frag} {H : Hp} {a : Addr} {xs : List V} (h : SqS K H a xs) : SqL K H a xs := by
  rcases h with h | h
  · exact .inl h.rd
  · rcases h with (h | ⟨_, h⟩) | h
    · cases h
    · cases h
    · exact .inr h
theorem SqS.im {K : PySem.W.Frag} {H H' : Hp} {a : Addr} {xs : List V} (m : Im H H') (h : SqS K H a xs) : SqS K H' a xs := h.imp (fun z => z.im m) id
theorem sqT_im {K : PySem.W.Frag} {H H' : Hp} {a : Addr} {xs : List V} (m : Im H H') (h : SqT K H a xs) : SqT K H' a xs := by
  rcases h with (h | ⟨o, h⟩) | h
  · exact .inl (.inl (m _ _ h rfl))
  · exact .inl (.inr ⟨o, m _ _ h rfl⟩)
  · exact .inr h

/-! ### keys that are tuples -/
mutual
def kyD : PD → Option NestedKey
  | .int i => some (.num i)
  | .tuple ds => (kysD ds).map .tup
  | _ => none
def kysD : List PD → Option (List NestedKey)
  | [] => some []
  | d :: ds => (kyD d).bind fun k => (kysD ds).map (k :: ·)
end
/-- a tuple that can be a key -/
def keyD (d : PD) : Option NestedKey := match d with
  | .tuple ds => (kysD ds).bind fun ks => if (NestedKey.tup ks).depth ≤ 8 then some (.tup ks) else none
  | _ => none
mutual
def khash : NestedKey → Int
  | .none => 0
  | .num i => hashInt i
  | .text _ => 0
  | .tup ks => reduceHash (Builtin.Tuple.tupleHashOf (khashes ks))
def khashes : List NestedKey → List Int
  | [] => []
  | k :: ks => khash k :: khashes ks
end
abbrev NE : Type := NestedKey × Addr × Value
def entN (x : NE) : DictEntry := ⟨khash x.1, .ref x.2.1, x.2.2⟩
/-- a dict with such keys -/
def dnO (a : Addr) (xs : List NE) : HO := .ext fun h => (a == sysModules) = false ∧ xs.length ≤ sizeLine ∧ ∃ o es ep, h.get? a = some o ∧ o.ExactDict ∧ o.data = .dict es ep ∧ es.toList = xs.map entN ∧ (xs.map (·.1)).Nodup
/-- a locked dict, as data -/
abbrev lockN (kvs : List (PD × PD)) : PD := .dict ((.bool true, .none) :: kvs)
/-- a caught exception of the class x; the def x; a locked instance of the class x -/
abbrev excD (x : Str) : PD := .dict [(.bool false, .str x)]
abbrev fnD (x : Str) : PD := .dict [(.bool false, .int 0), (.str x, .none)]
abbrev objD (x : Str) (fs : List (Str × PD)) : PD := .dict [(.bool false, .int 1), (.str x, .dict (fs.map fun p => (.str p.1, p.2)))]
/-- the built-in class x -/
abbrev tyD (x : Str) : PD := .dict [(.bool false, .int 2), (.str x, .none)]
/-- the module's name x holds what stands at a -/
def nmR (K : PySem.W.Frag) (x : Str) (a : Addr) : Prop := PySem.W.nsIn K mainGlobals x = some (some (.ref a))

mutual
/-- a value that never changes, as plain data -/
inductive Rp (K : PySem.W.Frag) (H : Hp) : V → PD → Prop
  | non : Rp K H .non .none
  | bl (b : Bool) : Rp K H (.bl b) (.bool b)
  | int (i : Int) : Rp K H (.int i) (.int i)
  | str (x : Str) : Rp K H (.str x) (.str x)
  | lst {a : Addr} {xs : List V} {ds : List PD} : SqF H a xs → RpA K H xs ds → Rp K H (.ref a) (.list ds)
  | scr {a : Addr} {ns : List Int} : SqS K H a (ns.map V.int) → Rp K H (.ref a) (.dict (ns.map fun n => (.int n, .none)))
  | tup {a : Addr} {xs : List V} {ds : List PD} : SqT K H a xs → RpA K H xs ds → Rp K H (.ref a) (.tuple ds)
  /-- a tuple of which it is known that it has no dict of its own -/
  | ptu {a : Addr} {o : Obj} {xs : List V} {ds : List PD} : H a = some (.frz o (.tup xs)) → o.dict = none → RpA K H xs ds → Rp K H (.ref a) (.dict [(.none, .tuple ds)])
  /-- a locked dict with tuples as keys -/
  | dnl {a : Addr} {o : Obj} {xs : List NE} {kvs : List (PD × PD)} : H a = some (.frz o (dnO a xs)) → RpN K H xs kvs → Rp K H (.ref a) (lockN kvs)
  /-- an exception that was caught -/
  | exc {a C : Addr} {o : Obj} {u : HO} {x : Str} : H a = some (.frz o u) → Zc (.ref C) none o → (∃ vs, o.data = .fields vs) → nmR K x C → Rp K H (.ref a) (excD x)
  /-- a def of the module -/
  | fn {f : Addr} {x : Str} : nmR K x f → Rp K H (.ref f) (fnD x)
  | ty {n : String} {x : Str} : bootBuiltins x = some (.type n) → Rp K H (.ty n) (tyD x)
  /-- a locked instance -/
  | ins {a C dx : Addr} {o : Obj} {x : Str} {vs : List (Str × V)} {fs : List (Str × PD)} : H a = some (.frz o (.ins C dx vs)) → nmR K x C → RpF K H vs fs → Rp K H (.ref a) (objD x fs)
inductive RpF (K : PySem.W.Frag) (H : Hp) : List (Str × V) → List (Str × PD) → Prop
  | nil : RpF K H [] []
  | cons {f : Str} {v : V} {d : PD} {vs : List (Str × V)} {fs : List (Str × PD)} : Rp K H v d → RpF K H vs fs → RpF K H ((f, v) :: vs) ((f, d) :: fs)
inductive RpN (K : PySem.W.Frag) (H : Hp) : List NE → List (PD × PD) → Prop
  | nil : RpN K H [] []
  | cons {k : NestedKey} {b : Addr} {u : Value} {v : V} {d e : PD} {xs : List NE} {kvs : List (PD × PD)} : keyD d = some k → Rp K H (.ref b) d → RelV v u → Rp K H v e → RpN K H xs kvs → RpN K H ((k, b, u) :: xs) ((d, e) :: kvs)
inductive RpA (K : PySem.W.Frag) (H : Hp) : List V → List PD → Prop
  | nil : RpA K H [] []
  | cons {v : V} {vs : List V} {d : PD} {ds : List PD} : Rp K H v d → RpA K H vs ds → RpA K H (v :: vs) (d :: ds)
end
section
variable {K : PySem.W.Frag} {H H' : Hp}
mutual
theorem Rp.im' (m : Im H H') : ∀ {d : PD} {v : V}, Rp K H v d → Rp K H' v d
  | _, _, .non => .non
  | _, _, .bl b => .bl b
  | _, _, .int i => .int i
  | _, _, .str x => .str x
  | _, _, .lst hs ha => .lst (hs.im m) (RpA.im' m ha)
  | _, _, .scr hs => .scr (hs.im m)
  | _, _, .tup hs ha => .tup (sqT_im m hs) (RpA.im' m ha)
  | _, _, .ptu h1 h2 ha => .ptu (m _ _ h1 rfl) h2 (RpA.im' m ha)
  | _, _, .dnl h1 h2 => .dnl (m _ _ h1 rfl) (RpN.im' m h2)
  | _, _, .exc h1 h2 h3 h4 => .exc (m _ _ h1 rfl) h2 h3 h4
  | _, _, .fn h1 => .fn h1
  | _, _, .ty h1 => .ty h1
  | _, _, .ins h1 h2 h3 => .ins (m _ _ h1 rfl) h2 (RpF.im' m h3)
theorem RpF.im' (m : Im H H') : ∀ {fs : List (Str × PD)} {vs : List (Str × V)}, RpF K H vs fs → RpF K H' vs fs
  | _, _, .nil => .nil
  | _, _, .cons h1 h2 => .cons (Rp.im' m h1) (RpF.im' m h2)
theorem RpN.im' (m : Im H H') : ∀ {xs : List NE} {kvs : List (PD × PD)}, RpN K H xs kvs → RpN K H' xs kvs
  | _, _, .nil => .nil
  | _, _, .cons h1 h2 h3 h4 h5 => .cons h1 (Rp.im' m h2) h3 (Rp.im' m h4) (RpN.im' m h5)
theorem RpA.im' (m : Im H H') : ∀ {ds : List PD} {vs : List V}, RpA K H vs ds → RpA K H' vs ds
  | _, _, .nil => .nil
  | _, _, .cons h1 h2 => .cons (Rp.im' m h1) (RpA.im' m h2)
end
theorem Rp.im (m : Im H H') (d : PD) (v : V) (h : Rp K H v d) : Rp K H' v d := Rp.im' m h
theorem RpA.im (m : Im H H') (ds : List PD) (vs : List V) (h : RpA K H vs ds) : RpA K H' vs ds := RpA.im' m h
mutual
theorem Rp.dp : ∀ (d : PD) (v : V), d.canLay0 = true → Rp K H v d → Dp K H v d
  | .none, _, _, h => by cases h; exact .non
  | .bool b, _, _, h => by cases h; exact .bl b
  | .int i, _, _, h => by cases h; exact .int i
  | .str x, _, _, h => by cases h; exact .str x
  | .list ds, _, q, h => by
    cases h with
    | lst hs ha => exact .lst (.inl hs.rd) (RpA.dp ds _ q ha)
  | .tuple ds, _, q, h => by
    cases h with
    | tup hs ha => exact .tup hs (RpA.dp ds _ q ha)
  | .dict _, _, q, h => by cases q
theorem RpA.dp : ∀ (ds : List PD) (vs : List V), PyData.canLayAll0 ds = true → RpA K H vs ds → DpAll K H vs ds
  | [], _, _, h => by cases h; exact .nil
  | d :: ds, _, q, h => by
    have q' : d.canLay0 = true ∧ PyData.canLayAll0 ds = true := by simpa [PyData.canLayAll0] using q
    cases h with
    | cons h1 h2 => exact .cons (Rp.dp d _ q'.1 h1) (RpA.dp ds _ q'.2 h2)
end
theorem RpA.length : ∀ {vs : List V} {ds : List PD}, RpA K H vs ds → vs.length = ds.length
  | _, _, .nil => rfl
  | _, _, .cons _ t => by simp [RpA.length t]
theorem RpA.append : ∀ {vs ws : List V} {ds es : List PD}, RpA K H vs ds → RpA K H ws es → RpA K H (vs ++ ws) (ds ++ es)
  | _, _, _, _, .nil, h => h
  | _, _, _, _, .cons a t, h => .cons a (RpA.append t h)
theorem RpA.get : ∀ {vs : List V} {ds : List PD} {i : Nat} {d : PD}, RpA K H vs ds → ds[i]? = some d → ∃ v, vs[i]? = some v ∧ Rp K H v d
  | _, _, _, _, .nil, e => by simp at e
  | _, _, 0, _, .cons a _, e => by simp at e; subst e; exact ⟨_, rfl, a⟩
  | _, _, i + 1, d, .cons _ t, e => by
    obtain ⟨v, h1, h2⟩ := RpA.get (i := i) (d := d) t (by simpa using e)
    exact ⟨v, by simpa using h1, h2⟩
theorem RpA.getV : ∀ {vs : List V} {ds : List PD} {i : Nat} {v : V}, RpA K H vs ds → vs[i]? = some v → ∃ d, ds[i]? = some d ∧ Rp K H v d
  | _, _, _, _, .nil, e => by simp at e
  | _, _, 0, _, .cons a _, e => by simp at e; subst e; exact ⟨_, rfl, a⟩
  | _, _, i + 1, d, .cons _ t, e => by
    obtain ⟨v, h1, h2⟩ := RpA.getV (i := i) (v := d) t (by simpa using e)
    exact ⟨v, by simpa using h1, h2⟩
theorem RpA.take : ∀ {vs : List V} {ds : List PD} (n : Nat), RpA K H vs ds → RpA K H (vs.take n) (ds.take n)
  | _, _, 0, _ => .nil
  | _, _, _ + 1, .nil => .nil
  | _, _, n + 1, .cons r t => .cons r (RpA.take n t)
theorem RpA.drop : ∀ {vs : List V} {ds : List PD} (n : Nat), RpA K H vs ds → RpA K H (vs.drop n) (ds.drop n)
  | _, _, 0, r => r
  | _, _, _ + 1, .nil => .nil
  | _, _, n + 1, .cons _ t => RpA.drop n t
theorem RpA.set {v : V} {d : PD} (r : Rp K H v d) : ∀ {vs : List V} {ds : List PD} (i : Nat), RpA K H vs ds → RpA K H (vs.set i v) (ds.set i d)
  | _, _, _, .nil => .nil
  | _, _, 0, .cons _ t => .cons r t
  | _, _, i + 1, .cons q t => .cons q (RpA.set r i t)
theorem RpA.reverse {vs : List V} {ds : List PD} (h : RpA K H vs ds) : RpA K H vs.reverse ds.reverse := by
  induction vs generalizing ds with
  | nil => cases h; exact .nil
  | cons v vs ih =>
    cases h with
    | cons a t =>
      rw [List.reverse_cons, List.reverse_cons]
      exact (ih t).append (.cons a .nil)
theorem RpA.rep {vs : List V} {ds : List PD} (h : RpA K H vs ds) : ∀ k : Nat, RpA K H (List.replicate k vs).flatten (List.replicate k ds).flatten
  | 0 => .nil
  | k + 1 => by
    rw [List.replicate_succ, List.replicate_succ, List.flatten_cons, List.flatten_cons]
    exact h.append (RpA.rep h k)
theorem RpA.ints {ns : List Int} : RpA K H (ns.map V.int) (ns.map PyData.int) := by
  induction ns with
  | nil => exact .nil
  | cons n ns ih => exact .cons (.int n) ih
end

/-! ### own objects, slots -/
/-- an instance's attribute: a value that never changes, an own list -/
inductive Fd where
  | v (d : PD)
  | l (ds : List PD)
/-- an object that only one name holds -/
inductive Ob where
  | l (ds : List PD)
  | dk (kvs : List (Int × PD))
  | dn (kvs : List (PD × PD))
  /-- a list of own lists -/
  | ll (dss : List (List PD))
  /-- an instance, some of its attributes own lists -/
  | ins (x : Str) (fs : List (Str × Fd))
def FdR (K : PySem.W.Frag) (H : Hp) : V → Fd → Prop
  | v, .v d => Rp K H v d
  | v, .l ds => ∃ b xs, v = .ref b ∧ H b = some (.lst xs) ∧ RpA K H xs ds
def FsR (K : PySem.W.Frag) (H : Hp) : List (Str × V) → List (Str × Fd) → Prop
  | [], [] => True
  | (f, v) :: vs, (g, d) :: fs => f = g ∧ FdR K H v d ∧ FsR K H vs fs
  | _, _ => False
/-- the addresses of the own lists -/
def fAdr : List (Str × V) → List (Str × Fd) → List Addr
  | (_, .ref b) :: vs, (_, .l _) :: fs => b :: fAdr vs fs
  | _ :: vs, _ :: fs => fAdr vs fs
  | _, _ => []
def LlR (K : PySem.W.Frag) (H : Hp) : List Addr → List (List PD) → Prop
  | [], [] => True
  | b :: bs, ds :: dss => (∃ xs, H b = some (.lst xs) ∧ RpA K H xs ds) ∧ LlR K H bs dss
  | _, _ => False
def DkR (K : PySem.W.Frag) (H : Hp) (xs : List (Key × V)) (kvs : List (Int × PD)) : Prop := Paired (fun (p : Key × V) (q : Int × PD) => p.1 = .inl q.1 ∧ Rp K H p.2 q.2) xs kvs
theorem DkR.im {K : PySem.W.Frag} {H H' : Hp} (m : Im H H') {xs : List (Key × V)} {kvs : List (Int × PD)} (h : DkR K H xs kvs) : DkR K H' xs kvs :=
  Paired.mapP h fun _ _ z => ⟨z.1, Rp.im m _ _ z.2⟩
def ObR (K : PySem.W.Frag) (H : Hp) : Ob → V → Prop
  | .l ds, v => ∃ a xs, v = .ref a ∧ H a = some (.lst xs) ∧ RpA K H xs ds
  | .dk kvs, v => ∃ a xs, v = .ref a ∧ H a = some (.dK xs) ∧ DkR K H xs kvs
  | .dn kvs, v => ∃ a xs, v = .ref a ∧ H a = some (dnO a xs) ∧ RpN K H xs kvs
  | .ll dss, v => ∃ (a : Addr) (bs : List Addr), v = .ref a ∧ H a = some (.lst (bs.map V.ref)) ∧ (a :: bs).Nodup ∧ LlR K H bs dss
  | .ins x fs, v => ∃ a C dx vs, v = .ref a ∧ H a = some (.ins C dx vs) ∧ nmR K x C ∧ (fAdr vs fs).Nodup ∧ FsR K H vs fs
/-- its addresses -/
def Ft (H : Hp) : Ob → V → Addr → Prop
  | .l _, v, b => v = .ref b
  | .dk _, v, b => v = .ref b
  | .dn _, v, b => v = .ref b
  | .ll _, v, b => ∃ (a : Addr) (bs : List Addr), v = .ref a ∧ H a = some (.lst (bs.map V.ref)) ∧ (b = a ∨ b ∈ bs)
  | .ins _ fs, v, b => ∃ a C dx vs, v = .ref a ∧ H a = some (.ins C dx vs) ∧ (b = a ∨ b ∈ fAdr vs fs)
section
variable {K : PySem.W.Frag} {H H' : Hp} {o : Ob} {v : V}
theorem LlR.at : ∀ {bs : List Addr} {dss : List (List PD)} {b : Addr}, LlR K H bs dss → b ∈ bs → ∃ xs, H b = some (.lst xs)
  | c :: bs, ds :: dss, b, h, m => by
    rcases List.mem_cons.mp m with e | m
    · subst e; exact ⟨_, h.1.choose_spec.1⟩
    · exact LlR.at h.2 m
  | c :: bs, [], b, h, _ => h.elim
theorem LlR.keep (m : Im H H') : ∀ {bs : List Addr} {dss : List (List PD)}, LlR K H bs dss → (∀ b u, b ∈ bs → H b = some u → H' b = some u) → LlR K H' bs dss
  | [], [], _, _ => trivial
  | c :: bs, ds :: dss, ⟨⟨xs, h1, h2⟩, h3⟩, k => ⟨⟨xs, k c _ List.mem_cons_self h1, RpA.im m _ _ h2⟩, LlR.keep m h3 fun b u hb => k b u (List.mem_cons_of_mem _ hb)⟩
  | [], _ :: _, h, _ => h.elim
  | _ :: _, [], h, _ => h.elim
theorem FsR.at : ∀ {vs : List (Str × V)} {fs : List (Str × Fd)} {b : Addr}, FsR K H vs fs → b ∈ fAdr vs fs → ∃ xs, H b = some (.lst xs)
  | [], [], b, _, m => by cases m
  | [], _ :: _, b, h, _ => h.elim
  | _ :: _, [], b, h, _ => h.elim
  | (f, v) :: vs, (g, .v d) :: fs, b, h, m => by
    cases v <;> exact FsR.at h.2.2 m
  | (f, v) :: vs, (g, .l ds) :: fs, b, h, m => by
    obtain ⟨c, xs, rfl, h1, _⟩ := h.2.1
    rcases List.mem_cons.mp m with e | m
    · subst e; exact ⟨xs, h1⟩
    · exact FsR.at h.2.2 m
theorem FsR.keep (m : Im H H') : ∀ {vs : List (Str × V)} {fs : List (Str × Fd)}, FsR K H vs fs → (∀ b u, b ∈ fAdr vs fs → H b = some u → H' b = some u) → FsR K H' vs fs
  | [], [], _, _ => trivial
  | [], _ :: _, h, _ => h.elim
  | _ :: _, [], h, _ => h.elim
  | (f, v) :: vs, (g, .v d) :: fs, ⟨h1, h2, h3⟩, k => ⟨h1, Rp.im m _ _ h2, FsR.keep m h3 fun b u hb => k b u (by cases v <;> exact hb)⟩
  | (f, v) :: vs, (g, .l ds) :: fs, ⟨h1, ⟨c, xs, e, h2, h4⟩, h3⟩, k => by
    subst e
    exact ⟨h1, ⟨c, xs, rfl, k c _ List.mem_cons_self h2, RpA.im m _ _ h4⟩, FsR.keep m h3 fun b u hb => k b u (List.mem_cons_of_mem _ hb)⟩
theorem ObR.trk (h : ObR K H o v) {b : Addr} (f : Ft H o v b) : ∃ u, H b = some u ∧ Fz u = false ∧ Mut (some u) := by
  cases o with
  | l ds =>
    obtain ⟨a, xs, rfl, e, _⟩ := h
    cases f
    exact ⟨_, e, rfl, trivial⟩
  | dk kvs =>
    obtain ⟨a, xs, rfl, e, _⟩ := h
    cases f
    exact ⟨_, e, rfl, trivial⟩
  | dn kvs =>
    obtain ⟨a, xs, rfl, e, _⟩ := h
    cases f
    exact ⟨_, e, rfl, trivial⟩
  | ll dss =>
    obtain ⟨a, bs, rfl, e, _, r⟩ := h
    obtain ⟨a', bs', e1, e2, f⟩ := f
    cases e1
    rw [e] at e2
    have e3 : bs.map V.ref = bs'.map V.ref := by injection e2 with e2; injection e2
    rcases f with f | f
    · subst f; exact ⟨_, e, rfl, trivial⟩
    · have f' : b ∈ bs := by
        have : V.ref b ∈ bs'.map V.ref := List.mem_map_of_mem f
        rw [← e3] at this
        obtain ⟨b', hb, eb⟩ := List.mem_map.mp this
        cases eb; exact hb
      obtain ⟨xs, h1⟩ := r.at f'
      exact ⟨_, h1, rfl, trivial⟩
  | ins x fs =>
    obtain ⟨a, C, dx, vs, rfl, e, _, _, r⟩ := h
    obtain ⟨a', C', dx', vs', e1, e2, f⟩ := f
    cases e1
    rw [e] at e2
    cases e2
    rcases f with f | f
    · subst f; exact ⟨_, e, rfl, trivial⟩
    · obtain ⟨xs, h1⟩ := r.at f
      exact ⟨_, h1, rfl, trivial⟩
theorem ObR.keep (h : ObR K H o v) (m : Im H H') (k : ∀ b u, Ft H o v b → H b = some u → H' b = some u) : ObR K H' o v := by
  cases o with
  | l ds =>
    obtain ⟨a, xs, rfl, e, r⟩ := h
    exact ⟨a, xs, rfl, k a _ rfl e, RpA.im m _ _ r⟩
  | dk kvs =>
    obtain ⟨a, xs, rfl, e, r⟩ := h
    exact ⟨a, xs, rfl, k a _ rfl e, r.im m⟩
  | dn kvs =>
    obtain ⟨a, xs, rfl, e, r⟩ := h
    exact ⟨a, xs, rfl, k a _ rfl e, RpN.im' m r⟩
  | ll dss =>
    obtain ⟨a, bs, rfl, e, nd, r⟩ := h
    exact ⟨a, bs, rfl, k a _ ⟨a, bs, rfl, e, .inl rfl⟩ e, nd, r.keep m fun b u hb => k b u ⟨a, bs, rfl, e, .inr hb⟩⟩
  | ins x fs =>
    obtain ⟨a, C, dx, vs, rfl, e, n, nd, r⟩ := h
    exact ⟨a, C, dx, vs, rfl, k a _ ⟨a, C, dx, vs, rfl, e, .inl rfl⟩ e, n, nd, r.keep m fun b u hb => k b u ⟨a, C, dx, vs, rfl, e, .inr hb⟩⟩
theorem ObR.ft (h : ObR K H o v) (k : ∀ b u, Ft H o v b → H b = some u → H' b = some u) {b : Addr} (f : Ft H' o v b) : Ft H o v b := by
  cases o with
  | l ds => exact f
  | dk kvs => exact f
  | dn kvs => exact f
  | ll dss =>
    obtain ⟨a, bs, rfl, e, _⟩ := h
    obtain ⟨a', bs', e1, e2, f⟩ := f
    cases e1
    rw [k a _ ⟨a, bs, rfl, e, .inl rfl⟩ e] at e2
    have e3 : bs.map V.ref = bs'.map V.ref := by injection e2 with e2; injection e2
    refine ⟨a, bs, rfl, e, f.imp id fun f => ?_⟩
    have : V.ref b ∈ bs'.map V.ref := List.mem_map_of_mem f
    rw [← e3] at this
    obtain ⟨b', hb, eb⟩ := List.mem_map.mp this
    cases eb; exact hb
  | ins x fs =>
    obtain ⟨a, C, dx, vs, rfl, e, _⟩ := h
    obtain ⟨a', C', dx', vs', e1, e2, f⟩ := f
    cases e1
    rw [k a _ ⟨a, C, dx, vs, rfl, e, .inl rfl⟩ e] at e2
    cases e2
    exact ⟨a, C, dx, vs, rfl, e, f⟩
end

inductive Sl where
  | no
  | p (d : PD)
  | ow (o : Ob)
  | io (o : Ob)
abbrev En := List Sl
def SoR (K : PySem.W.Frag) (H : Hp) : Sl → Option V → Prop
  | .no, _ => True
  | .p d, some v => Rp K H v d
  | .ow o, some v => ObR K H o v
  | .io o, some v => ObR K H o v
  | _, none => False
def SlF (H : Hp) : Sl → Option V → Addr → Prop
  | .ow o, some v, b => Ft H o v b
  | .io o, some v, b => Ft H o v b
  | _, _, _ => False
section
variable {K : PySem.W.Frag} {H H' : Hp} {sl : Sl} {ov : Option V}
theorem SoR.trk (h : SoR K H sl ov) {b : Addr} (f : SlF H sl ov b) : ∃ u, H b = some u ∧ Fz u = false ∧ Mut (some u) := by
  cases sl <;> cases ov <;> first | exact False.elim f | exact ObR.trk h f
theorem SoR.keep (h : SoR K H sl ov) (m : Im H H') (k : ∀ b u, SlF H sl ov b → H b = some u → H' b = some u) : SoR K H' sl ov := by
  cases sl <;> cases ov <;> first | exact trivial | exact False.elim h | exact Rp.im m _ _ h | exact ObR.keep h m k
theorem SoR.ft (h : SoR K H sl ov) (k : ∀ b u, SlF H sl ov b → H b = some u → H' b = some u) {b : Addr} (f : SlF H' sl ov b) : SlF H sl ov b := by
  cases sl <;> cases ov <;> first | exact False.elim f | exact ObR.ft h k f
end

/-- the names' own addresses -/
def Own (ε : En) (σ : L2.St) (H : Hp) (b : Addr) : Prop := ∃ (i : Nat) (sl : Sl) (ov : Option V), ε[i]? = some sl ∧ σ[i]? = some ov ∧ SlF H sl ov b

/-- a def's call: the heap at the entry, what may be changed, which slots hold it, what is wanted of an exception -/
structure Mc where
  H0 : Hp
  Fin : Addr → Prop
  pm : Nat → V → Prop
  W : Str → En → L2.St → Hp → Prop

structure SR (K : PySem.W.Frag) (c : Mc) (ε : En) (σ : L2.St) (H : Hp) : Prop where
  len : ε.length = σ.length
  fr : ∀ a o, c.H0 a = some o → ¬ c.Fin a → H a = some o
  fin : ∀ a, c.Fin a → H a ≠ none
  pm : ∀ (i : Nat) (v : V), c.pm i v → σ[i]? = some (some v) ∧ ∃ o, ε[i]? = some (.io o)
  rel : ∀ (i : Nat) (sl : Sl) (ov : Option V), ε[i]? = some sl → σ[i]? = some ov → SoR K H sl ov
  own : ∀ (i : Nat) (sl : Sl) (ov : Option V) (b : Addr), ε[i]? = some sl → σ[i]? = some ov → SlF H sl ov b → c.Fin b ∨ c.H0 b = none
  ows : ∀ (i : Nat) (sl : Sl) (ov : Option V) (b : Addr), ε[i]? = some sl → σ[i]? = some ov → SlF H sl ov b → (∀ o, sl ≠ .io o) → c.H0 b = none
  dis : ∀ (i j : Nat) (sl sl' : Sl) (ov ov' : Option V) (b : Addr), ε[i]? = some sl → σ[i]? = some ov → SlF H sl ov b → ε[j]? = some sl' → σ[j]? = some ov' → SlF H sl' ov' b → i = j

/-- what a piece of code does to the heap -/
structure Step (ε : En) (σ : L2.St) (H : Hp) (ε' : En) (σ' : L2.St) (H' : Hp) : Prop where
  kp : ∀ b o, H b = some o → ¬ Own ε σ H b → H' b = some o
  ow : ∀ b, Own ε' σ' H' b → Own ε σ H b ∨ H b = none
  tr : ∀ b o, H b = some o → H' b ≠ none
section
variable {K : PySem.W.Frag} {c : Mc} {ε ε' ε1 ε2 : En} {σ σ' σ1 σ2 : L2.St} {H H' H1 H2 : Hp}
theorem Step.refl : Step ε σ H ε σ H := ⟨fun _ _ h _ => h, fun _ h => .inl h, fun _ _ h e => by rw [h] at e; cases e⟩
theorem Step.trans (a : Step ε σ H ε1 σ1 H1) (b : Step ε1 σ1 H1 ε2 σ2 H2) : Step ε σ H ε2 σ2 H2 where
  kp := fun p o h n => b.kp p o (a.kp p o h n) fun q => (a.ow p q).elim n fun z => by rw [h] at z; cases z
  ow := fun p q => (b.ow p q).elim (a.ow p) fun z => by
    cases e : H p with
    | none => exact .inr rfl
    | some o => exact absurd z (a.tr p o e)
  tr := fun p o h => by
    cases e : H1 p with
    | none => exact absurd e (a.tr p o h)
    | some o' => exact b.tr p o' e
theorem SR.ofz (S : SR K c ε σ H) {b : Addr} {o : HO} (h : H b = some o) (f : Fz o = true) : ¬ Own ε σ H b := fun ⟨i, sl, ov, e1, e2, q⟩ => by
  obtain ⟨u, hu, fu, _⟩ := (S.rel i sl ov e1 e2).trk q
  rw [h] at hu; cases hu
  rw [f] at fu; cases fu
theorem SR.im (S : SR K c ε σ H) (a : Step ε σ H ε' σ' H') : Im H H' := fun b o h f => a.kp b o h (S.ofz h f)
theorem SR.at (S : SR K c ε σ H) {i : Nat} {sl : Sl} (h : ε[i]? = some sl) : ∃ ov, σ[i]? = some ov ∧ SoR K H sl ov := by
  obtain ⟨hi, _⟩ := List.getElem?_eq_some_iff.mp h
  have hj : i < σ.length := by rw [← S.len]; exact hi
  exact ⟨σ[i], by simp [hj], S.rel i sl _ h (by simp [hj])⟩
theorem SR.atP (S : SR K c ε σ H) {i : Nat} {d : PD} (h : ε[i]? = some (.p d)) : ∃ v, σ[i]? = some (some v) ∧ Rp K H v d := by
  obtain ⟨ov, h1, h2⟩ := S.at h
  cases ov with
  | none => exact h2.elim
  | some v => exact ⟨v, h1, h2⟩
theorem SR.atO (S : SR K c ε σ H) {i : Nat} {o : Ob} (h : ε[i]? = some (.ow o) ∨ ε[i]? = some (.io o)) : ∃ v, σ[i]? = some (some v) ∧ ObR K H o v ∧ ∀ b, Ft H o v b → Own ε σ H b := by
  rcases h with h | h
  · obtain ⟨ov, h1, h2⟩ := S.at h
    cases ov with
    | none => exact h2.elim
    | some v => exact ⟨v, h1, h2, fun b f => ⟨i, _, _, h, h1, f⟩⟩
  · obtain ⟨ov, h1, h2⟩ := S.at h
    cases ov with
    | none => exact h2.elim
    | some v => exact ⟨v, h1, h2, fun b f => ⟨i, _, _, h, h1, f⟩⟩
theorem SR.fresh (S : SR K c ε σ H) {p : Addr} (h : H p = none) : c.H0 p = none ∧ ¬ c.Fin p ∧ ¬ Own ε σ H p := by
  have nf : ¬ c.Fin p := fun f => S.fin p f h
  refine ⟨?_, nf, fun ⟨i, sl, ov, e1, e2, q⟩ => ?_⟩
  · cases e : c.H0 p with
    | none => rfl
    | some o => rw [S.fr p o e nf] at h; cases h
  · obtain ⟨u, hu, _⟩ := (S.rel i sl ov e1 e2).trk q
    rw [h] at hu; cases hu
/-- all that was stands -/
theorem SR.same (S : SR K c ε σ H) (k : Same H H') : SR K c ε σ H' ∧ Step ε σ H ε σ H' := by
  have im : Im H H' := fun a o h _ => k a o h
  have ft : ∀ (i : Nat) (sl : Sl) (ov : Option V) (b : Addr), ε[i]? = some sl → σ[i]? = some ov → SlF H' sl ov b → SlF H sl ov b := fun i sl ov b e1 e2 f => (S.rel i sl ov e1 e2).ft (fun b u _ h => k b u h) f
  refine ⟨⟨S.len, fun a o h n => k a o (S.fr a o h n), fun a f e => ?_, S.pm, fun i sl ov e1 e2 => (S.rel i sl ov e1 e2).keep im fun b u _ h => k b u h,
    fun i sl ov b e1 e2 f => S.own i sl ov b e1 e2 (ft i sl ov b e1 e2 f), fun i sl ov b e1 e2 f => S.ows i sl ov b e1 e2 (ft i sl ov b e1 e2 f), fun i j sl sl' ov ov' b e1 e2 f e3 e4 f' => S.dis i j sl sl' ov ov' b e1 e2 (ft _ _ _ _ e1 e2 f) e3 e4 (ft _ _ _ _ e3 e4 f')⟩,
    fun b o h _ => k b o h, fun b ⟨i, sl, ov, e1, e2, f⟩ => .inl ⟨i, sl, ov, e1, e2, ft _ _ _ _ e1 e2 f⟩, fun b o h e => by rw [k b o h] at e; cases e⟩
  cases e2 : H a with
  | none => exact S.fin a f e2
  | some o => rw [k a o e2] at e; cases e
theorem same_upd {p : Addr} {o : HO} (h : H p = none) : Same H (upd H p o) := fun b u e => by
  rw [upd_ne (ne_of_none e h)]; exact e

theorem get_set {α : Type} {l : List α} {i j : Nat} {x y : α} (h : (l.set i x)[j]? = some y) : (j = i ∧ y = x) ∨ (j ≠ i ∧ l[j]? = some y) := by
  by_cases e : i = j
  · subst e
    by_cases hi : i < l.length
    · rw [List.getElem?_set_self hi] at h
      cases h
      exact .inl ⟨rfl, rfl⟩
    · rw [List.getElem?_eq_none (by simpa using hi)] at h; cases h
  · rw [List.getElem?_set_ne e] at h
    exact .inr ⟨Ne.symm e, h⟩

def notIo : Sl → Prop
  | .io _ => False
  | _ => True
/-- one slot's content and what stands at its addresses change -/
theorem SR.chg (S : SR K c ε σ H) {i : Nat} {sl sl' : Sl} {ov : Option V} (h1 : ε[i]? = some sl) (h2 : σ[i]? = some ov) (k : ∀ b u, H b = some u → ¬ SlF H sl ov b → H' b = some u) (t : ∀ b u, H b = some u → H' b ≠ none)
    (r : SoR K H' sl' ov) (f : ∀ b, SlF H' sl' ov b → SlF H sl ov b) (io : ∀ o, sl = .io o → ∃ o', sl' = .io o') : SR K c (ε.set i sl') σ H' ∧ Step ε σ H (ε.set i sl') σ H' := by
  have im : Im H H' := fun a o h z => k a o h fun q => by
    obtain ⟨u, hu, fu, _⟩ := (S.rel i sl ov h1 h2).trk q
    rw [h] at hu; cases hu
    rw [z] at fu; cases fu
  have ftj : ∀ (j : Nat) (slj : Sl) (ovj : Option V) (b : Addr), j ≠ i → ε[j]? = some slj → σ[j]? = some ovj → SlF H slj ovj b → ¬ SlF H sl ov b := fun j slj ovj b ne e1 e2 f1 f2 => ne (S.dis j i slj sl ovj ov b e1 e2 f1 h1 h2 f2)
  have kj : ∀ (j : Nat) (slj : Sl) (ovj : Option V), j ≠ i → ε[j]? = some slj → σ[j]? = some ovj → ∀ b u, SlF H slj ovj b → H b = some u → H' b = some u := fun j slj ovj ne e1 e2 b u fb hb => k b u hb (ftj j slj ovj b ne e1 e2 fb)
  have ft : ∀ (j : Nat) (slj : Sl) (ovj : Option V) (b : Addr), (ε.set i sl')[j]? = some slj → σ[j]? = some ovj → SlF H' slj ovj b → ∃ s0, ε[j]? = some s0 ∧ SlF H s0 ovj b ∧ ((∀ o, slj ≠ .io o) → ∀ o, s0 ≠ .io o) := fun j slj ovj b e1 e2 fb => by
    rcases get_set e1 with ⟨e, e'⟩ | ⟨e, e'⟩
    · subst e e'
      rw [h2] at e2; cases e2
      exact ⟨sl, h1, f b fb, fun n o z => let ⟨o', e'⟩ := io o z; n o' e'⟩
    · exact ⟨slj, e', (S.rel j slj ovj e' e2).ft (kj j slj ovj e e' e2) fb, fun n => n⟩
  refine ⟨⟨by rw [List.length_set]; exact S.len, fun a o h n => ?_, fun a fa e => ?_, fun j v hj => ?_, fun j slj ovj e1 e2 => ?_, fun j slj ovj b e1 e2 fb => ?_, fun j slj ovj b e1 e2 fb n => ?_, fun j l slj sll ovj ovl b e1 e2 fb e3 e4 fb' => ?_⟩, fun b o h n => ?_, fun b ⟨j, slj, ovj, e1, e2, fb⟩ => ?_, t⟩
  · exact k a o (S.fr a o h n) fun q => (S.own i sl ov a h1 h2 q).elim n fun z => by rw [h] at z; cases z
  · cases e2 : H a with
    | none => exact S.fin a fa e2
    | some o => exact t a o e2 e
  · obtain ⟨p1, o, p2⟩ := S.pm j v hj
    refine ⟨p1, ?_⟩
    by_cases e : i = j
    · subst e
      rw [h1] at p2; cases p2
      obtain ⟨o', e'⟩ := io o rfl
      subst e'
      exact ⟨o', by rw [List.getElem?_set_self (List.getElem?_eq_some_iff.mp h1).1]⟩
    · exact ⟨o, by rw [List.getElem?_set_ne e]; exact p2⟩
  · rcases get_set e1 with ⟨e, e'⟩ | ⟨e, e'⟩
    · subst e e'
      rw [h2] at e2; cases e2
      exact r
    · exact (S.rel j slj ovj e' e2).keep im (kj j slj ovj e e' e2)
  · obtain ⟨s0, e3, f3, _⟩ := ft j slj ovj b e1 e2 fb
    exact S.own j s0 ovj b e3 e2 f3
  · obtain ⟨s0, e3, f3, n3⟩ := ft j slj ovj b e1 e2 fb
    exact S.ows j s0 ovj b e3 e2 f3 (n3 n)
  · obtain ⟨s0, e5, f5, _⟩ := ft j slj ovj b e1 e2 fb
    obtain ⟨s1, e6, f6, _⟩ := ft l sll ovl b e3 e4 fb'
    exact S.dis j l s0 s1 ovj ovl b e5 e2 f5 e6 e4 f6
  · exact k b o h fun q => n ⟨i, sl, ov, h1, h2, q⟩
  · obtain ⟨s0, e5, f5, _⟩ := ft j slj ovj b e1 e2 fb
    exact .inl ⟨j, s0, ovj, e5, e2, f5⟩
/-- a slot's object was changed by somebody else, with new objects of nobody's -/
theorem SR.chgW (S : SR K c ε σ H) {i : Nat} {sl sl' : Sl} {ov : Option V} (h1 : ε[i]? = some sl) (h2 : σ[i]? = some ov) (k : ∀ b u, H b = some u → ¬ SlF H sl ov b → (c.H0 b ≠ none ∨ Fz u = true ∨ Own ε σ H b) → H' b = some u) (t : ∀ b u, H b = some u → H' b ≠ none)
    (r : SoR K H' sl' ov) (f : ∀ b, SlF H' sl' ov b → SlF H sl ov b ∨ H b = none) (io : ∀ o, sl = .io o → ∃ o', sl' = .io o') : SR K c (ε.set i sl') σ H' ∧ ∀ b, Own (ε.set i sl') σ H' b → Own ε σ H b ∨ (H b = none ∧ SlF H' sl' ov b) := by
  have im : Im H H' := fun a o h z => k a o h (fun q => by
    obtain ⟨u, hu, fu, _⟩ := (S.rel i sl ov h1 h2).trk q
    rw [h] at hu; cases hu
    rw [z] at fu; cases fu) (.inr (.inl z))
  have kj : ∀ (j : Nat) (slj : Sl) (ovj : Option V), j ≠ i → ε[j]? = some slj → σ[j]? = some ovj → ∀ b u, SlF H slj ovj b → H b = some u → H' b = some u := fun j slj ovj ne e1 e2 b u fb hb =>
    k b u hb (fun q => ne (S.dis j i slj sl ovj ov b e1 e2 fb h1 h2 q)) (.inr (.inr ⟨j, slj, ovj, e1, e2, fb⟩))
  have ft : ∀ (j : Nat) (slj : Sl) (ovj : Option V) (b : Addr), (ε.set i sl')[j]? = some slj → σ[j]? = some ovj → SlF H' slj ovj b → (∃ s0, ε[j]? = some s0 ∧ SlF H s0 ovj b ∧ ((∀ o, slj ≠ .io o) → ∀ o, s0 ≠ .io o)) ∨ (j = i ∧ H b = none ∧ SlF H' sl' ov b) := fun j slj ovj b e1 e2 fb => by
    rcases get_set e1 with ⟨e, e'⟩ | ⟨e, e'⟩
    · subst e e'
      rw [h2] at e2; cases e2
      exact (f b fb).imp (fun z => ⟨sl, h1, z, fun n o w => let ⟨o', e'⟩ := io o w; n o' e'⟩) fun z => ⟨rfl, z, fb⟩
    · exact .inl ⟨slj, e', (S.rel j slj ovj e' e2).ft (kj j slj ovj e e' e2) fb, fun n => n⟩
  refine ⟨⟨by rw [List.length_set]; exact S.len, fun a o h n => ?_, fun a fa e => ?_, fun j v hj => ?_, fun j slj ovj e1 e2 => ?_, fun j slj ovj b e1 e2 fb => ?_, fun j slj ovj b e1 e2 fb n => ?_, fun j l slj sll ovj ovl b e1 e2 fb e3 e4 fb' => ?_⟩, fun b ⟨j, slj, ovj, e1, e2, fb⟩ => ?_⟩
  · exact k a o (S.fr a o h n) (fun q => (S.own i sl ov a h1 h2 q).elim n fun z => by rw [h] at z; cases z) (.inl (by rw [h]; exact fun z => nomatch z))
  · cases e2 : H a with
    | none => exact S.fin a fa e2
    | some o => exact t a o e2 e
  · obtain ⟨p1, o, p2⟩ := S.pm j v hj
    refine ⟨p1, ?_⟩
    by_cases e : i = j
    · subst e
      rw [h1] at p2; cases p2
      obtain ⟨o', e'⟩ := io o rfl
      subst e'
      exact ⟨o', by rw [List.getElem?_set_self (List.getElem?_eq_some_iff.mp h1).1]⟩
    · exact ⟨o, by rw [List.getElem?_set_ne e]; exact p2⟩
  · rcases get_set e1 with ⟨e, e'⟩ | ⟨e, e'⟩
    · subst e e'
      rw [h2] at e2; cases e2
      exact r
    · exact (S.rel j slj ovj e' e2).keep im (kj j slj ovj e e' e2)
  · rcases ft j slj ovj b e1 e2 fb with ⟨s0, e3, f3, _⟩ | ⟨_, z, _⟩
    · exact S.own j s0 ovj b e3 e2 f3
    · exact .inr (S.fresh z).1
  · rcases ft j slj ovj b e1 e2 fb with ⟨s0, e3, f3, n3⟩ | ⟨_, z, _⟩
    · exact S.ows j s0 ovj b e3 e2 f3 (n3 n)
    · exact (S.fresh z).1
  · rcases ft j slj ovj b e1 e2 fb with ⟨s0, e5, f5, _⟩ | ⟨a1, z, _⟩
    · rcases ft l sll ovl b e3 e4 fb' with ⟨s1, e6, f6, _⟩ | ⟨a2, z, _⟩
      · exact S.dis j l s0 s1 ovj ovl b e5 e2 f5 e6 e4 f6
      · exact absurd ⟨j, s0, ovj, e5, e2, f5⟩ (S.fresh z).2.2
    · rcases ft l sll ovl b e3 e4 fb' with ⟨s1, e6, f6, _⟩ | ⟨a2, _⟩
      · exact absurd ⟨l, s1, ovl, e6, e4, f6⟩ (S.fresh z).2.2
      · rw [a1, a2]
  · rcases ft j slj ovj b e1 e2 fb with ⟨s0, e5, f5, _⟩ | ⟨_, z⟩
    · exact .inl ⟨j, s0, ovj, e5, e2, f5⟩
    · exact .inr z
/-- a slot takes a new value -/
theorem SR.put (S : SR K c ε σ H) {i : Nat} {sl sl' : Sl} {v : V} (h1 : ε[i]? = some sl) (io : notIo sl) (r : SoR K H sl' (some v)) (f : ∀ b, SlF H sl' (some v) b → c.H0 b = none ∧ ¬ Own ε σ H b) : SR K c (ε.set i sl') (σ.set i (some v)) H := by
  have hi : i < ε.length := (List.getElem?_eq_some_iff.mp h1).1
  have nI : ∀ o, sl ≠ .io o := fun o e => by subst e; exact io
  refine ⟨by rw [List.length_set, List.length_set]; exact S.len, S.fr, S.fin, fun j w hj => ?_, fun j slj ovj e1 e2 => ?_, fun j slj ovj b e1 e2 fb => ?_, fun j slj ovj b e1 e2 fb n => ?_, fun j l slj sll ovj ovl b e1 e2 fb e3 e4 fb' => ?_⟩
  · obtain ⟨p1, o, p2⟩ := S.pm j w hj
    have ne : i ≠ j := fun e => by
      subst e
      rw [h1] at p2; cases p2
      exact nI o rfl
    exact ⟨by rw [List.getElem?_set_ne ne]; exact p1, o, by rw [List.getElem?_set_ne ne]; exact p2⟩
  · rcases get_set e1 with ⟨e, e'⟩ | ⟨e, e'⟩
    · subst e e'
      rcases get_set e2 with ⟨_, e3⟩ | ⟨e3, _⟩
      · subst e3; exact r
      · exact absurd rfl e3
    · rcases get_set e2 with ⟨e3, _⟩ | ⟨_, e3⟩
      · exact absurd e3 e
      · exact S.rel j slj ovj e' e3
  · rcases get_set e1 with ⟨e, e'⟩ | ⟨e, e'⟩
    · subst e e'
      rcases get_set e2 with ⟨_, e3⟩ | ⟨e3, _⟩
      · subst e3; exact .inr (f b fb).1
      · exact absurd rfl e3
    · rcases get_set e2 with ⟨e3, _⟩ | ⟨_, e3⟩
      · exact absurd e3 e
      · exact S.own j slj ovj b e' e3 fb
  · rcases get_set e1 with ⟨e, e'⟩ | ⟨e, e'⟩
    · subst e e'
      rcases get_set e2 with ⟨_, e3⟩ | ⟨e3, _⟩
      · subst e3; exact (f b fb).1
      · exact absurd rfl e3
    · rcases get_set e2 with ⟨e3, _⟩ | ⟨_, e3⟩
      · exact absurd e3 e
      · exact S.ows j slj ovj b e' e3 fb n
  · have key : ∀ (j : Nat) (slj : Sl) (ovj : Option V), (ε.set i sl')[j]? = some slj → (σ.set i (some v))[j]? = some ovj → SlF H slj ovj b → (j = i ∧ SlF H sl' (some v) b) ∨ (j ≠ i ∧ ε[j]? = some slj ∧ σ[j]? = some ovj) := fun j slj ovj e1 e2 fb => by
      rcases get_set e1 with ⟨e, e'⟩ | ⟨e, e'⟩
      · subst e e'
        rcases get_set e2 with ⟨_, e3⟩ | ⟨e3, _⟩
        · subst e3; exact .inl ⟨rfl, fb⟩
        · exact absurd rfl e3
      · rcases get_set e2 with ⟨e3, _⟩ | ⟨_, e3⟩
        · exact absurd e3 e
        · exact .inr ⟨e, e', e3⟩
    rcases key j slj ovj e1 e2 fb with ⟨a1, a2⟩ | ⟨a1, a2, a3⟩
    · rcases key l sll ovl e3 e4 fb' with ⟨b1, b2⟩ | ⟨b1, b2, b3⟩
      · rw [a1, b1]
      · exact absurd ⟨l, sll, ovl, b2, b3, fb'⟩ (f b a2).2
    · rcases key l sll ovl e3 e4 fb' with ⟨b1, b2⟩ | ⟨b1, b2, b3⟩
      · exact absurd ⟨j, slj, ovj, a2, a3, fb⟩ (f b b2).2
      · exact S.dis j l slj sll ovj ovl b a2 a3 fb b2 b3 fb'
theorem SR.put_step (S : SR K c ε σ H) {i : Nat} {sl' : Sl} {v : V} (h0 : Step ε1 σ1 H1 ε σ H) (f : ∀ b, SlF H sl' (some v) b → Own ε1 σ1 H1 b ∨ H1 b = none) : Step ε1 σ1 H1 (ε.set i sl') (σ.set i (some v)) H := by
  refine ⟨h0.kp, fun b ⟨j, slj, ovj, e1, e2, fb⟩ => ?_, h0.tr⟩
  rcases get_set e1 with ⟨e, e'⟩ | ⟨e, e'⟩
  · subst e e'
    rcases get_set e2 with ⟨_, e3⟩ | ⟨e3, _⟩
    · subst e3; exact f b fb
    · exact absurd rfl e3
  · rcases get_set e2 with ⟨e3, _⟩ | ⟨_, e3⟩
    · exact absurd e3 e
    · exact h0.ow b ⟨j, slj, ovj, e', e3, fb⟩
end
end MM

/-! ML2: what an expression's mirror is: judgements. -/
namespace MM
open PySem PySem.Spec PyProof.Rows L2

/-! ### results -/
inductive Out (α : Type) where
  | ok (a : α) (ε : En)
  | exc (C : Str) (ε : En)
  | stuck
abbrev M (α : Type) := En → Out α
def Out.bind {α β : Type} (r : Out α) (f : α → M β) : Out β := match r with
  | .ok a ε => f a ε
  | .exc C ε => .exc C ε
  | .stuck => .stuck
@[simp] theorem Out.bind_ok {α β : Type} (a : α) (ε : En) (f : α → M β) : (Out.ok a ε).bind f = f a ε := rfl
@[simp] theorem Out.bind_exc {α β : Type} (C : Str) (ε : En) (f : α → M β) : (Out.exc C ε : Out α).bind f = .exc C ε := rfl
@[simp] theorem Out.bind_stuck {α β : Type} (f : α → M β) : (Out.stuck : Out α).bind f = .stuck := rfl

/-- what an expression gives: a value that never changes; the own object of the name in a slot; a new object that nobody holds -/
inductive Opd where
  | val (d : PD)
  | own (k : Nat)
  | new (o : Ob)
def RO (K : PySem.W.Frag) (c : Mc) (ε : En) (σ : L2.St) (H : Hp) : Opd → V → Prop
  | .val d, v => Rp K H v d
  | .own k, v => σ[k]? = some (some v)
  | .new o, v => ObR K H o v ∧ ∀ b, Ft H o v b → c.H0 b = none ∧ ¬ Own ε σ H b
abbrev ROs (K : PySem.W.Frag) (c : Mc) (ε : En) (σ : L2.St) (H : Hp) : List Opd → List V → Prop := Paired (RO K c ε σ H)
/-- what an operand reads as, at the moment -/
def rdO (ε : En) : Opd → Option PD
  | .val d => some d
  | .new (.l ds) => some (.list ds)
  | .new _ => none
  | .own k => match ε[k]? with
    | some (.ow (.l ds)) => some (.list ds)
    | some (.io (.l ds)) => some (.list ds)
    | _ => none
/-- to be read now -/
inductive Rd1 (K : PySem.W.Frag) (H : Hp) : V → PD → Prop
  | rp {v : V} {d : PD} (h : Rp K H v d) : Rd1 K H v d
  | ls {a : Addr} {xs : List V} {ds : List PD} (h : Rd H a (.lst xs)) (r : RpA K H xs ds) : Rd1 K H (.ref a) (.list ds)
section
variable {K : PySem.W.Frag} {c : Mc} {ε ε' ε1 ε2 : En} {σ : L2.St} {H H' H1 H2 : Hp} {o : Opd} {v x : V} {d : PD}
theorem RO.step (r : RO K c ε σ H o v) (S : SR K c ε σ H) (t : Step ε σ H ε' σ H') : RO K c ε' σ H' o v := by
  cases o with
  | val d => exact Rp.im (S.im t) _ _ r
  | own k => exact r
  | new o =>
    obtain ⟨r, f⟩ := r
    have k : ∀ b u, Ft H o v b → H b = some u → H' b = some u := fun b u q e => t.kp b u e (f b q).2
    refine ⟨r.keep (S.im t) k, fun b q => ?_⟩
    have q0 := r.ft k q
    refine ⟨(f b q0).1, fun w => (t.ow b w).elim (f b q0).2 fun z => ?_⟩
    obtain ⟨u, e, _⟩ := r.trk q0
    rw [z] at e; cases e
theorem ROs.step : ∀ {os : List Opd} {vs : List V}, ROs K c ε σ H os vs → SR K c ε σ H → Step ε σ H ε' σ H' → ROs K c ε' σ H' os vs
  | _, _, .nil, _, _ => .nil
  | _, _, .cons r t, S, s => .cons (r.step S s) (ROs.step t S s)
theorem RO.rd (S : SR K c ε σ H) (r : RO K c ε σ H o v) (e : rdO ε o = some d) : Rd1 K H v d := by
  cases o with
  | val d' => cases e; exact .rp r
  | new ob =>
    cases ob with
    | l ds =>
      cases e
      obtain ⟨⟨a, xs, rfl, h, q⟩, _⟩ := r
      exact .ls (.inl h) q
    | _ => cases e
  | own k =>
    have key : ∀ ds, (ε[k]? = some (.ow (.l ds)) ∨ ε[k]? = some (.io (.l ds))) → Rd1 K H v (.list ds) := fun ds h => by
      obtain ⟨w, e1, ⟨a, xs, e2, e3, e4⟩, _⟩ := S.atO h
      have e5 : some (some v) = some (some w) := r.symm.trans e1
      cases e5
      subst e2
      exact .ls (.inl e3) e4
    simp only [rdO] at e
    split at e
    · rename_i ds h; cases e; exact key ds (.inl h)
    · rename_i ds h; cases e; exact key ds (.inr h)
    · cases e
theorem Rd1.int {i : Int} (h : Rd1 K H v (.int i)) : v = .int i := by cases h with | rp h => cases h; rfl
theorem Rd1.bl {i : Bool} (h : Rd1 K H v (.bool i)) : v = .bl i := by cases h with | rp h => cases h; rfl
theorem Rd1.str {i : Str} (h : Rd1 K H v (.str i)) : v = .str i := by cases h with | rp h => cases h; rfl
theorem Rd1.non (h : Rd1 K H v .none) : v = .non := by cases h with | rp h => cases h; rfl
theorem Rd1.lst {ds : List PD} (h : Rd1 K H v (.list ds)) : ∃ a xs, v = .ref a ∧ Rd H a (.lst xs) ∧ RpA K H xs ds := by
  cases h with
  | rp h => cases h with | lst hs ha => exact ⟨_, _, rfl, hs.rd, ha⟩
  | ls h r => exact ⟨_, _, rfl, h, r⟩
theorem Rd1.tup {ds : List PD} (h : Rd1 K H v (.tuple ds)) : ∃ a xs, v = .ref a ∧ SqT K H a xs ∧ RpA K H xs ds := by
  cases h with
  | rp h => cases h with | tup hs ha => exact ⟨_, _, rfl, hs, ha⟩
theorem Rd1.dp (h : Rd1 K H v d) (q : d.canLay0 = true) : Dp K H v d := by
  cases h with
  | rp h => exact Rp.dp _ _ q h
  | ls h r => exact .lst (.inl h) (RpA.dp _ _ q r)

/-! ### readings -/
/-- a new object was not there -/
def NewIn (H H' : Hp) (o : Opd) (v : V) : Prop := match o with
  | .new ob => ∀ b, Ft H' ob v b → H b = none
  | _ => True
theorem NewIn.step {σ' : L2.St} (t : Step ε σ H ε1 σ' H1) (h : NewIn H1 H' o v) : NewIn H H' o v := by
  cases o with
  | new ob =>
    intro b q
    cases e : H b with
    | none => rfl
    | some u => exact absurd (h b q) (t.tr b u e)
  | val d => trivial
  | own k => trivial
def FtO (H : Hp) : Opd → V → Addr → Prop
  | .new ob, v, b => Ft H ob v b
  | _, _, _ => False
/-- the new objects of a row were not there, and are apart -/
def NewO (H H' : Hp) : List Opd → List V → Prop
  | o :: os, v :: vs => (∀ b, FtO H' o v b → H b = none ∧ ∀ q ∈ os.zip vs, ¬ FtO H' q.1 q.2 b) ∧ NewO H H' os vs
  | _, _ => True
theorem NewO.none : ∀ {os : List Opd} {vs : List V}, NewO H H' os vs → ∀ q ∈ os.zip vs, ∀ b, FtO H' q.1 q.2 b → H b = none
  | [], _, _, q, hq => by simp at hq
  | _ :: _, [], _, q, hq => by simp at hq
  | o :: os, v :: vs, n, q, hq => by
    rw [List.zip_cons_cons] at hq
    rcases List.mem_cons.mp hq with e | hq
    · subst e; exact fun b f => (n.1 b f).1
    · exact NewO.none n.2 q hq
theorem NewO.step {σ' : L2.St} (t : Step ε σ H ε1 σ' H1) : ∀ {os : List Opd} {vs : List V}, NewO H1 H' os vs → NewO H H' os vs
  | [], _, _ => trivial
  | _ :: _, [], _ => trivial
  | o :: os, v :: vs, n => by
    refine ⟨fun b f => ⟨?_, (n.1 b f).2⟩, NewO.step t n.2⟩
    cases e : H b with
    | none => rfl
    | some u => exact absurd (n.1 b f).1 (t.tr b u e)
/-- behind a result -/
def PostE (K : PySem.W.Frag) (c : Mc) (res : Out Opd) (ε : En) (σ : L2.St) (H : Hp) (Q : VK) : Prop := match res with
  | .ok o ε' => ∀ v H', Step ε σ H ε' σ H' → SR K c ε' σ H' → RO K c ε' σ H' o v → NewIn H H' o v → Q v H'
  | .exc C ε' => ∀ H', Step ε σ H ε' σ H' → SR K c ε' σ H' → c.W C ε' σ H'
  | .stuck => False
def PostV (K : PySem.W.Frag) (c : Mc) (res : Out PD) (ε : En) (σ : L2.St) (H : Hp) (Q : VK) : Prop := match res with
  | .ok d ε' => ∀ v H', Step ε σ H ε' σ H' → SR K c ε' σ H' → Rp K H' v d → Q v H'
  | .exc C ε' => ∀ H', Step ε σ H ε' σ H' → SR K c ε' σ H' → c.W C ε' σ H'
  | .stuck => False
def PostT (K : PySem.W.Frag) (c : Mc) (res : Out Bool) (ε : En) (σ : L2.St) (H : Hp) (Q : Bool → Hp → Prop) : Prop := match res with
  | .ok b ε' => ∀ H', Step ε σ H ε' σ H' → SR K c ε' σ H' → Q b H'
  | .exc C ε' => ∀ H', Step ε σ H ε' σ H' → SR K c ε' σ H' → c.W C ε' σ H'
  | .stuck => False
def PostO (K : PySem.W.Frag) (c : Mc) (res : Out (List Opd)) (ε : En) (σ : L2.St) (H : Hp) (Q : List V → Hp → Prop) : Prop := match res with
  | .ok os ε' => ∀ vs H', Step ε σ H ε' σ H' → SR K c ε' σ H' → ROs K c ε' σ H' os vs → NewO H H' os vs → Q vs H'
  | .exc C ε' => ∀ H', Step ε σ H ε' σ H' → SR K c ε' σ H' → c.W C ε' σ H'
  | .stuck => False
def PostA (K : PySem.W.Frag) (c : Mc) (res : Out (List PD)) (ε : En) (σ : L2.St) (H : Hp) (Q : List V → Hp → Prop) : Prop := match res with
  | .ok ds ε' => ∀ vs H', Step ε σ H ε' σ H' → SR K c ε' σ H' → RpA K H' vs ds → Q vs H'
  | .exc C ε' => ∀ H', Step ε σ H ε' σ H' → SR K c ε' σ H' → c.W C ε' σ H'
  | .stuck => False
def tM (K : PySem.W.Frag) (c : Mc) (m : M Opd) : TE := fun σ H Q => ∃ ε, SR K c ε σ H ∧ PostE K c (m ε) ε σ H Q
def tV (K : PySem.W.Frag) (c : Mc) (m : M PD) : TE := fun σ H Q => ∃ ε, SR K c ε σ H ∧ PostV K c (m ε) ε σ H Q
def tT (K : PySem.W.Frag) (c : Mc) (m : M Bool) : TT := fun σ H Q => ∃ ε, SR K c ε σ H ∧ PostT K c (m ε) ε σ H Q
def tO (K : PySem.W.Frag) (c : Mc) (m : M (List Opd)) : TA := fun σ H Q => ∃ ε, SR K c ε σ H ∧ PostO K c (m ε) ε σ H Q
def tA (K : PySem.W.Frag) (c : Mc) (m : M (List PD)) : TA := fun σ H Q => ∃ ε, SR K c ε σ H ∧ PostA K c (m ε) ε σ H Q
end
/-- the judgements: an expression; its value that never changes; a test; arguments -/
abbrev JE (X : Cx) (c : Mc) (e : Expr) (m : M Opd) : Prop := PE X e (tM X.K c m)
abbrev JV (X : Cx) (c : Mc) (e : Expr) (m : M PD) : Prop := PE X e (tV X.K c m)
abbrev JT (X : Cx) (c : Mc) (e : Expr) (m : M Bool) : Prop := PT X e (tT X.K c m)
abbrev JW (X : Cx) (c : Mc) (e : Expr) (m : M Bool) : Prop := PW X e (tT X.K c m)
abbrev JO (X : Cx) (c : Mc) (es : List Expr) (m : M (List Opd)) : Prop := PA X es (tO X.K c m)
abbrev JA (X : Cx) (c : Mc) (es : List Expr) (m : M (List PD)) : Prop := PA X es (tA X.K c m)

section
variable {X : Cx} {e : Expr} {es : List Expr}
theorem pe_imp {t t' : TE} (h : PE X e t) (i : ∀ σ H Q, t' σ H Q → t σ H Q) : PE X e t' := ⟨fun pins s σ H Q I w => h.run pins s σ H Q I (i σ H Q w)⟩
theorem pt_imp {t t' : TT} (h : PT X e t) (i : ∀ σ H Q, t' σ H Q → t σ H Q) : PT X e t' := ⟨fun pins s σ H Q I w => h.run pins s σ H Q I (i σ H Q w)⟩
theorem pw_imp {t t' : TT} (h : PW X e t) (i : ∀ σ H Q, t' σ H Q → t σ H Q) : PW X e t' := ⟨fun wh pins s σ H Q I w => h.run wh pins s σ H Q I (i σ H Q w)⟩
theorem pa_imp {t t' : TA} (h : PA X es t) (i : ∀ σ H Q, t' σ H Q → t σ H Q) : PA X es t' := ⟨fun pos pins s σ H Q I w => h.run pos pins s σ H Q I (i σ H Q w)⟩
/-- lists and tuples are not too long -/
def LenOk (K : PySem.W.Frag) (H : Hp) : Prop := (∀ a xs, SqL K H a xs → xs.length ≤ sizeLine) ∧ ∀ a xs, SqT K H a xs → xs.length ≤ sizeLine
theorem lenOk {pins : List (Addr × Obj)} {s : Shared} {σ : L2.St} {H : Hp} (I : Inv X pins σ H s) : LenOk X.K H :=
  ⟨fun _ _ h => let ⟨_, _, _, z⟩ := I.list h; z, fun _ _ h => let ⟨_, _, _, z⟩ := I.tuple h; z⟩
theorem op_imp {f : Value → Value → Sem Value} {r r' : R2} (h : OpR X f r) (i : ∀ x y H Q, LenOk X.K H → r' x y H Q → r x y H Q) : OpR X f r' :=
  fun pins s σ H x y v u Q I rx ry w => h pins s σ H x y v u Q I rx ry (i x y H Q (lenOk I) w)
theorem un_imp {f : Value → Sem Value} {r r' : V → Hp → VK → Prop} (h : UnR X f r) (i : ∀ x H Q, LenOk X.K H → r' x H Q → r x H Q) : UnR X f r' :=
  fun pins s σ H x v Q I rx w => h pins s σ H x v Q I rx (i x H Q (lenOk I) w)
theorem call_imp {f : Value} {r r' : List V → Hp → VK → Prop} (h : CallR X f r) (i : ∀ xs H Q, LenOk X.K H → r' xs H Q → r xs H Q) : CallR X f r' :=
  fun pins s σ H xs us Q I rx w => h pins s σ H xs us Q I rx (i xs H Q (lenOk I) w)
theorem ix_imp {r r' : R2} (h : IxR X r) (i : ∀ x y H Q, LenOk X.K H → r' x y H Q → r x y H Q) : IxR X r' :=
  fun value slice pins s σ H x y v u Q I rx ry w hs => h value slice pins s σ H x y v u Q I rx ry (i x y H Q (lenOk I) w) hs
theorem mt_imp {id : String} {r r' : V → List V → Hp → VK → Prop} (h : MtR X id r) (i : ∀ x xs H Q, LenOk X.K H → r' x xs H Q → r x xs H Q) : MtR X id r' :=
  fun pins s σ H x xs v us Q I rx rxs w => h pins s σ H x xs v us Q I rx rxs (i x xs H Q (lenOk I) w)
theorem sl_imp {r r' : V → Option Int → Option Int → Hp → VK → Prop} (h : L2.SlR X r) (i : ∀ x lo hi H Q, LenOk X.K H → r' x lo hi H Q → r x lo hi H Q) : L2.SlR X r' :=
  fun pins s σ H x v vl vu lo hi sl Q I rx hs pl pu w => h pins s σ H x v vl vu lo hi sl Q I rx hs pl pu (i x lo hi H Q (lenOk I) w)
end

/-! ### sequencing -/
section
variable {K : PySem.W.Frag} {c : Mc} {ε ε1 : En} {σ : L2.St} {H H1 : Hp}
theorem PostE.step {res : Out Opd} {Q : VK} (t : Step ε σ H ε1 σ H1) (h : PostE K c res ε σ H Q) : PostE K c res ε1 σ H1 Q := by
  cases res with
  | ok o ε' => exact fun v H' a b d n => h v H' (t.trans a) b d (n.step t)
  | exc C ε' => exact fun H' a b => h H' (t.trans a) b
  | stuck => exact h
theorem PostV.step {res : Out PD} {Q : VK} (t : Step ε σ H ε1 σ H1) (h : PostV K c res ε σ H Q) : PostV K c res ε1 σ H1 Q := by
  cases res with
  | ok o ε' => exact fun v H' a b d => h v H' (t.trans a) b d
  | exc C ε' => exact fun H' a b => h H' (t.trans a) b
  | stuck => exact h
theorem PostT.step {res : Out Bool} {Q : Bool → Hp → Prop} (t : Step ε σ H ε1 σ H1) (h : PostT K c res ε σ H Q) : PostT K c res ε1 σ H1 Q := by
  cases res with
  | ok o ε' => exact fun H' a b => h H' (t.trans a) b
  | exc C ε' => exact fun H' a b => h H' (t.trans a) b
  | stuck => exact h
theorem PostO.step {res : Out (List Opd)} {Q : List V → Hp → Prop} (t : Step ε σ H ε1 σ H1) (h : PostO K c res ε σ H Q) : PostO K c res ε1 σ H1 Q := by
  cases res with
  | ok o ε' => exact fun v H' a b d n => h v H' (t.trans a) b d (n.step t)
  | exc C ε' => exact fun H' a b => h H' (t.trans a) b
  | stuck => exact h
theorem PostA.step {res : Out (List PD)} {Q : List V → Hp → Prop} (t : Step ε σ H ε1 σ H1) (h : PostA K c res ε σ H Q) : PostA K c res ε1 σ H1 Q := by
  cases res with
  | ok o ε' => exact fun v H' a b d => h v H' (t.trans a) b d
  | exc C ε' => exact fun H' a b => h H' (t.trans a) b
  | stuck => exact h
end

section
variable {K : PySem.W.Frag} {c : Mc}
def mBin (g : Opd → Opd → M Opd) (ma mb : M Opd) : M Opd := fun ε => (ma ε).bind fun o1 ε1 => (mb ε1).bind fun o2 ε2 => g o1 o2 ε2
def rM (K : PySem.W.Frag) (c : Mc) (g : Opd → Opd → M Opd) : R2 := fun x y H Q => ∃ ε σ o1 o2, SR K c ε σ H ∧ RO K c ε σ H o1 x ∧ RO K c ε σ H o2 y ∧ PostE K c (g o1 o2 ε) ε σ H Q
theorem bin_read {g : Opd → Opd → M Opd} {ma mb : M Opd} (σ : L2.St) (H : Hp) (Q : VK) (h : tM K c (mBin g ma mb) σ H Q) : tOp (rM K c g) (tM K c ma) (tM K c mb) σ H Q := by
  obtain ⟨ε, S, h⟩ := h
  unfold mBin at h
  refine ⟨ε, S, ?_⟩
  cases e1 : ma ε with
  | stuck => rw [e1] at h; exact h
  | exc C ε' => rw [e1] at h; exact h
  | ok o1 ε1 =>
    rw [e1] at h
    intro x H1 t1 S1 r1 _
    refine ⟨ε1, S1, ?_⟩
    rw [Out.bind_ok] at h
    cases e2 : mb ε1 with
    | stuck => rw [e2] at h; exact h
    | exc C ε' => rw [e2] at h; exact fun H' a b => h H' (t1.trans a) b
    | ok o2 ε2 =>
      rw [e2, Out.bind_ok] at h
      intro y H2 t2 S2 r2 _
      exact ⟨ε2, σ, o1, o2, S2, r1.step S1 t2, r2, PostE.step (t1.trans t2) h⟩
def mUn (g : Opd → M Opd) (ma : M Opd) : M Opd := fun ε => (ma ε).bind g
def uM (K : PySem.W.Frag) (c : Mc) (g : Opd → M Opd) : V → Hp → VK → Prop := fun x H Q => ∃ ε σ o, SR K c ε σ H ∧ RO K c ε σ H o x ∧ PostE K c (g o ε) ε σ H Q
theorem un_read {g : Opd → M Opd} {ma : M Opd} (σ : L2.St) (H : Hp) (Q : VK) (h : tM K c (mUn g ma) σ H Q) : tUn (uM K c g) (tM K c ma) σ H Q := by
  obtain ⟨ε, S, h⟩ := h
  unfold mUn at h
  refine ⟨ε, S, ?_⟩
  cases e1 : ma ε with
  | stuck => rw [e1] at h; exact h
  | exc C ε' => rw [e1] at h; exact h
  | ok o1 ε1 =>
    rw [e1] at h
    exact fun x H1 t1 S1 r1 _ => ⟨ε1, σ, o1, S1, r1, PostE.step t1 h⟩
def mCallB (g : List Opd → M Opd) (ma : M (List Opd)) : M Opd := fun ε => (ma ε).bind g
def cM (K : PySem.W.Frag) (c : Mc) (g : List Opd → M Opd) : List V → Hp → VK → Prop := fun xs H Q => ∃ ε σ os, SR K c ε σ H ∧ ROs K c ε σ H os xs ∧ PostE K c (g os ε) ε σ H Q
theorem call_read {g : List Opd → M Opd} {ma : M (List Opd)} (σ : L2.St) (H : Hp) (Q : VK) (h : tM K c (mCallB g ma) σ H Q) : tCB (cM K c g) (tO K c ma) σ H Q := by
  obtain ⟨ε, S, h⟩ := h
  unfold mCallB at h
  refine ⟨ε, S, ?_⟩
  cases e1 : ma ε with
  | stuck => rw [e1] at h; exact h
  | exc C ε' => rw [e1] at h; exact h
  | ok o1 ε1 =>
    rw [e1] at h
    exact fun x H1 t1 S1 r1 _ => ⟨ε1, σ, o1, S1, r1, PostE.step t1 h⟩
end

/-! ### pure operations -/
section
variable {X : Cx} {c : Mc}
def PostP (K : PySem.W.Frag) (H : Hp) (o : Opd) (Q : VK) : Prop := match o with
  | .val d => ∀ v H', Same H H' → Rp K H' v d → Q v H'
  | .new ob => ∀ v H', Same H H' → ObR K H' ob v → (∀ b, Ft H' ob v b → H b = none) → Q v H'
  | .own _ => False
theorem PostP.of {K : PySem.W.Frag} {ε : En} {σ : L2.St} {H : Hp} {Q : VK} {o : Opd} (S : SR K c ε σ H) (no : ∀ k, o ≠ .own k) (h : PostE K c (.ok o ε) ε σ H Q) : PostP K H o Q := by
  cases o with
  | own k => exact absurd rfl (no k)
  | val d =>
    intro v H' k r
    obtain ⟨S', t⟩ := S.same k
    exact h v H' t S' r trivial
  | new ob =>
    intro v H' k r f
    obtain ⟨S', t⟩ := S.same k
    refine h v H' t S' ⟨r, fun b q => ?_⟩ f
    obtain ⟨h0, _, h2⟩ := S.fresh (f b q)
    refine ⟨h0, fun ⟨i, sl, ov, e1, e2, q2⟩ => h2 ⟨i, sl, ov, e1, e2, ?_⟩⟩
    exact (S.rel i sl ov e1 e2).ft (fun b u _ e => k b u e) q2
def lift1 (f : PD → Option Opd) : Opd → M Opd := fun o ε => match (rdO ε o).bind f with
  | some r => .ok r ε
  | none => .stuck
def lift2 (f : PD → PD → Option Opd) : Opd → Opd → M Opd := fun o1 o2 ε => match (rdO ε o1).bind fun d1 => (rdO ε o2).bind fun d2 => f d1 d2 with
  | some r => .ok r ε
  | none => .stuck
def rdOs (ε : En) : List Opd → Option (List PD)
  | [] => some []
  | o :: os => (rdO ε o).bind fun d => (rdOs ε os).map fun ds => d :: ds
def liftN (f : List PD → Option Opd) : List Opd → M Opd := fun os ε => match (rdOs ε os).bind f with
  | some r => .ok r ε
  | none => .stuck
/-- an answer is a value or a new object -/
abbrev NoOwn (o : Opd) : Prop := ∀ k, o ≠ .own k
theorem lift2_op {fn : Value → Value → Sem Value} {r : R2} {f : PD → PD → Option Opd} (ho : OpR X fn r)
    (h : ∀ x y d1 d2 o H Q, LenOk X.K H → Rd1 X.K H x d1 → Rd1 X.K H y d2 → f d1 d2 = some o → NoOwn o ∧ (PostP X.K H o Q → r x y H Q)) : OpR X fn (rM X.K c (lift2 f)) := by
  refine op_imp ho fun x y H Q L ⟨ε, σ, o1, o2, S, r1, r2, p⟩ => ?_
  unfold lift2 at p
  cases e1 : rdO ε o1 with
  | none => simp only [e1, Option.bind_none] at p; exact p.elim
  | some d1 =>
    cases e2 : rdO ε o2 with
    | none => simp only [e1, e2, Option.bind_some, Option.bind_none] at p; exact p.elim
    | some d2 =>
      cases e3 : f d1 d2 with
      | none => simp only [e1, e2, e3, Option.bind_some] at p; exact p.elim
      | some o =>
        simp only [e1, e2, e3, Option.bind_some] at p
        obtain ⟨no, g⟩ := h x y d1 d2 o H Q L (r1.rd S e1) (r2.rd S e2) e3
        exact g (PostP.of S no p)
theorem lift2_ix {r : R2} {f : PD → PD → Option Opd} (ho : IxR X r)
    (h : ∀ x y d1 d2 o H Q, LenOk X.K H → Rd1 X.K H x d1 → Rd1 X.K H y d2 → f d1 d2 = some o → NoOwn o ∧ (PostP X.K H o Q → r x y H Q)) : IxR X (rM X.K c (lift2 f)) := by
  refine ix_imp ho fun x y H Q L ⟨ε, σ, o1, o2, S, r1, r2, p⟩ => ?_
  unfold lift2 at p
  cases e1 : rdO ε o1 with
  | none => simp only [e1, Option.bind_none] at p; exact p.elim
  | some d1 =>
    cases e2 : rdO ε o2 with
    | none => simp only [e1, e2, Option.bind_some, Option.bind_none] at p; exact p.elim
    | some d2 =>
      cases e3 : f d1 d2 with
      | none => simp only [e1, e2, e3, Option.bind_some] at p; exact p.elim
      | some o =>
        simp only [e1, e2, e3, Option.bind_some] at p
        obtain ⟨no, g⟩ := h x y d1 d2 o H Q L (r1.rd S e1) (r2.rd S e2) e3
        exact g (PostP.of S no p)
theorem lift1_un {fn : Value → Sem Value} {r : V → Hp → VK → Prop} {f : PD → Option Opd} (ho : UnR X fn r)
    (h : ∀ x d1 o H Q, LenOk X.K H → Rd1 X.K H x d1 → f d1 = some o → NoOwn o ∧ (PostP X.K H o Q → r x H Q)) : UnR X fn (uM X.K c (lift1 f)) := by
  refine un_imp ho fun x H Q L ⟨ε, σ, o1, S, r1, p⟩ => ?_
  unfold lift1 at p
  cases e1 : rdO ε o1 with
  | none => simp only [e1, Option.bind_none] at p; exact p.elim
  | some d1 =>
    cases e3 : f d1 with
    | none => simp only [e1, e3, Option.bind_some] at p; exact p.elim
    | some o =>
      simp only [e1, e3, Option.bind_some] at p
      obtain ⟨no, g⟩ := h x d1 o H Q L (r1.rd S e1) e3
      exact g (PostP.of S no p)
abbrev Rd1s (K : PySem.W.Frag) (H : Hp) : List V → List PD → Prop := Paired (Rd1 K H)
theorem rdOs_ok {K : PySem.W.Frag} {ε : En} {σ : L2.St} {H : Hp} (S : SR K c ε σ H) : ∀ {os : List Opd} {vs : List V} {ds : List PD}, ROs K c ε σ H os vs → rdOs ε os = some ds → Rd1s K H vs ds
  | _, _, ds, .nil, e => by cases e; exact .nil
  | o :: os, v :: vs, ds, .cons r t, e => by
    simp only [rdOs] at e
    cases e1 : rdO ε o with
    | none => rw [e1] at e; cases e
    | some d =>
      cases e2 : rdOs ε os with
      | none => rw [e1, e2] at e; cases e
      | some ds' =>
        rw [e1, e2] at e
        cases e
        exact .cons (r.rd S e1) (rdOs_ok S t e2)
theorem liftN_call {fn : Value} {r : List V → Hp → VK → Prop} {f : List PD → Option Opd} (ho : CallR X fn r)
    (h : ∀ xs ds o H Q, LenOk X.K H → Rd1s X.K H xs ds → f ds = some o → NoOwn o ∧ (PostP X.K H o Q → r xs H Q)) : CallR X fn (cM X.K c (liftN f)) := by
  refine call_imp ho fun xs H Q L ⟨ε, σ, os, S, r1, p⟩ => ?_
  unfold liftN at p
  cases e1 : rdOs ε os with
  | none => simp only [e1, Option.bind_none] at p; exact p.elim
  | some ds =>
    cases e3 : f ds with
    | none => simp only [e1, e3, Option.bind_some] at p; exact p.elim
    | some o =>
      simp only [e1, e3, Option.bind_some] at p
      obtain ⟨no, g⟩ := h xs ds o H Q L (rdOs_ok S r1 e1) e3
      exact g (PostP.of S no p)
/-- answers -/
theorem PostP.scal {K : PySem.W.Frag} {H : Hp} {d : PD} {v : V} {Q : VK} (p : PostP K H (.val d) Q) (r : Rp K H v d) : Q v H := p v H (fun _ _ h => h) r
theorem PostP.ntup {K : PySem.W.Frag} {H : Hp} {ds : List PD} {xs : List V} {Q : VK} (p : PostP K H (.val (.tuple ds)) Q) (r : RpA K H xs ds) {a : Addr} (h : H a = none) : Q (.ref a) (upd H a (.tup xs)) :=
  p _ _ (same_upd h) (.tup (SqT.of upd_same) (RpA.im (fun b o e _ => same_upd h b o e) _ _ r))
theorem PostP.nlst {K : PySem.W.Frag} {H : Hp} {ds : List PD} {xs : List V} {Q : VK} (p : PostP K H (.new (.l ds)) Q) (r : RpA K H xs ds) {a : Addr} (h : H a = none) : Q (.ref a) (upd H a (.lst xs)) :=
  p _ _ (same_upd h) ⟨a, xs, rfl, upd_same, RpA.im (fun b o e _ => same_upd h b o e) _ _ r⟩ fun b q => by cases q; exact h
end
end MM

/-! ML3: the mirrors of expressions, one rule a construct. -/
namespace MM
open PySem PySem.Spec PyProof.Rows L2

section
variable {X : Cx} {c : Mc} {pos : Pos}

/-! ### constants and names -/
def mC (d : PD) : M Opd := fun ε => .ok (.val d) ε
def mVar (i : Nat) : M Opd := fun ε => match ε[i]? with
  | some (.p d) => .ok (.val d) ε
  | some (.ow _) => .ok (.own i) ε
  | some (.io _) => .ok (.own i) ε
  | _ => .stuck
theorem je_c {e : Expr} {v : V} {d : PD} (h : PE X e (tC v)) (r : ∀ H, Rp X.K H v d) : JE X c e (mC d) := pe_imp h fun σ H Q ⟨ε, S, h⟩ => h v H .refl S (r H) trivial
theorem je_int {i j} : JE X c (.Constant (.int i) j pos) (mC (.int i)) := je_c pe_int fun _ => .int i
theorem je_bl {b j} : JE X c (.Constant (.bool b) j pos) (mC (.bool b)) := je_c pe_bl fun _ => .bl b
theorem je_non {j} : JE X c (.Constant .none j pos) (mC .none) := je_c pe_non fun _ => .non
theorem je_str {x j} : JE X c (.Constant (.str x) j pos) (mC (.str x)) := je_c pe_str fun _ => .str x
/-- a number of the module -/
theorem je_glob {x : Str} {i : Int} {t : Tok} (hg : Gl X x) (hm : X.mg x = some (.int i t)) (hd : (x == ("__debug__" : Str)) = false := by decide) : JE X c (.Name x pos) (mC (.int i)) :=
  je_c (pe_glob hg hm (v := .int i) ⟨t, rfl⟩ hd) fun _ => .int i
theorem je_globS {x : Str} {i : Str} {t : Tok} (hg : Gl X x) (hm : X.mg x = some (.str i t)) (hd : (x == ("__debug__" : Str)) = false := by decide) : JE X c (.Name x pos) (mC (.str i)) :=
  je_c (pe_glob hg hm (v := .str i) ⟨t, rfl⟩ hd) fun _ => .str i
theorem je_pv {e : Expr} {i : Nat} (h : PE X e (tVar i)) : JE X c e (mVar i) := pe_imp h fun σ H Q ⟨ε, S, h⟩ => by
  unfold mVar at h
  cases e : ε[i]? with
  | none => rw [e] at h; exact h.elim
  | some sl =>
    rw [e] at h
    cases sl with
    | no => exact h.elim
    | p d =>
      obtain ⟨v, h1, h2⟩ := S.atP e
      exact ⟨v, h1, h v H .refl S h2 trivial⟩
    | ow o =>
      obtain ⟨v, h1, _⟩ := S.atO (.inl e)
      exact ⟨v, h1, h v H .refl S h1 trivial⟩
    | io o =>
      obtain ⟨v, h1, _⟩ := S.atO (.inr e)
      exact ⟨v, h1, h v H .refl S h1 trivial⟩
theorem je_var (i : Nat) {x : Str} (hN : X.N[i]? = some x := by rfl) (hv : Vis X.env.scope x := by first | exact Or.inl rfl | exact Or.inr (Or.inl rfl) | exact Or.inr (Or.inr rfl)) (hd : (x == ("__debug__" : Str)) = false := by decide)
    (hcd : (x == ("__classdict__" : Str)) = false := by decide) : JE X c (.Name x pos) (mVar i) := je_pv (pe_var hN hv hd hcd)

/-! ### a value that never changes -/
theorem pe_frz {e : Expr} {t : TE} (h : PE X e t) : PE X e (fun σ H Q => t σ H fun v H1 => Q v H1 ∨ ∃ p u, v = .ref p ∧ H1 p = some u ∧ Mut (some u) ∧ ∀ od, Q v (upd H1 p (.frz od u))) := by
  refine ⟨fun pins s σ H Q I w => thn (h.run pins s σ H _ I w) fun u s1 ⟨v, H1, I1, r1, q⟩ => ?_⟩
  rcases q with q | ⟨p, o, e1, e2, e3, q⟩
  · exact ⟨v, H1, I1, r1, q⟩
  · obtain ⟨od, I2⟩ := I1.lock e2 e3
    exact ⟨v, _, I2, r1, q od⟩
def sink : Opd → M PD
  | .val d => fun ε => .ok d ε
  | .new (.l ds) => fun ε => .ok (.list ds) ε
  | .new _ => fun _ => .stuck
  | .own k => fun ε => match ε[k]? with
    | some (.ow (.l ds)) => .ok (.list ds) (ε.set k (.p (.list ds)))
    | some (.ow (.dn kvs)) => .ok (lockN kvs) (ε.set k (.p (lockN kvs)))
    | _ => .stuck
def mVal (m : M Opd) : M PD := fun ε => (m ε).bind sink
/-- what no name holds is changed -/
theorem SR.updU {K : PySem.W.Frag} {ε : En} {σ : L2.St} {H : Hp} {a : Addr} {u o' : HO} (S : SR K c ε σ H) (h : H a = some u) (fz : Fz u = false) (h0 : c.H0 a = none) (no : ¬ Own ε σ H a) :
    SR K c ε σ (upd H a o') ∧ (∀ b, Own ε σ (upd H a o') b → Own ε σ H b) ∧ (∀ b, b ≠ a → upd H a o' b = H b) ∧ Im H (upd H a o') := by
  have k : ∀ b, b ≠ a → upd H a o' b = H b := fun b ne => upd_ne ne
  have im : Im H (upd H a o') := fun b o e f => by
    have ne : b ≠ a := fun z => by subst z; rw [h] at e; cases e; rw [fz] at f; cases f
    rw [k b ne]; exact e
  have kk : ∀ (i : Nat) (sl : Sl) (ov : Option V), ε[i]? = some sl → σ[i]? = some ov → ∀ b w, SlF H sl ov b → H b = some w → upd H a o' b = some w := fun i sl ov e1 e2 b w f e => by
    have ne : b ≠ a := fun z => no ⟨i, sl, ov, e1, e2, z ▸ f⟩
    rw [k b ne]; exact e
  have ft : ∀ (i : Nat) (sl : Sl) (ov : Option V) (b : Addr), ε[i]? = some sl → σ[i]? = some ov → SlF (upd H a o') sl ov b → SlF H sl ov b := fun i sl ov b e1 e2 f => (S.rel i sl ov e1 e2).ft (kk i sl ov e1 e2) f
  refine ⟨⟨S.len, fun b o e n => ?_, fun b f e => ?_, S.pm, fun i sl ov e1 e2 => (S.rel i sl ov e1 e2).keep im (kk i sl ov e1 e2),
    fun i sl ov b e1 e2 f => S.own i sl ov b e1 e2 (ft i sl ov b e1 e2 f), fun i sl ov b e1 e2 f => S.ows i sl ov b e1 e2 (ft i sl ov b e1 e2 f), fun i j sl sl' ov ov' b e1 e2 f e3 e4 f' => S.dis i j sl sl' ov ov' b e1 e2 (ft _ _ _ _ e1 e2 f) e3 e4 (ft _ _ _ _ e3 e4 f')⟩,
    fun b ⟨i, sl, ov, e1, e2, f⟩ => ⟨i, sl, ov, e1, e2, ft _ _ _ _ e1 e2 f⟩, k, im⟩
  · have ne : b ≠ a := fun z => by subst z; rw [h0] at e; cases e
    rw [k b ne]; exact S.fr b o e n
  · by_cases z : b = a
    · subst z; rw [upd_same] at e; cases e
    · rw [k b z] at e; exact S.fin b f e
theorem jv_of {e : Expr} {m : M Opd} (h : JE X c e m) : JV X c e (mVal m) := pe_imp (pe_frz h) fun σ H Q ⟨ε, S, h⟩ => by
  refine ⟨ε, S, ?_⟩
  unfold mVal at h
  cases e1 : m ε with
  | stuck => rw [e1] at h; exact h
  | exc C ε' => rw [e1] at h; exact h
  | ok o ε' =>
    rw [e1, Out.bind_ok] at h
    intro v H' t S' r n
    cases o with
    | val d => exact .inl (h v H' t S' r)
    | new ob =>
      cases ob with
      | dk kvs => exact h.elim
      | dn kvs => exact h.elim
      | ll dss => exact h.elim
      | ins x fs => exact h.elim
      | l ds =>
        obtain ⟨⟨a, xs, rfl, e2, q⟩, f⟩ := r
        refine .inr ⟨a, _, rfl, e2, trivial, fun od => ?_⟩
        obtain ⟨h0, no⟩ := f a rfl
        have hn : H a = none := n a rfl
        obtain ⟨S2, w2, k2, _⟩ := S'.updU (o' := .frz od (.lst xs)) e2 rfl h0 no
        refine h _ _ ⟨fun b o e z => ?_, fun b z => t.ow b (w2 b z), fun b o e z => ?_⟩ S2 (.lst ⟨od, upd_same⟩ (RpA.im (fun b o e z => ?_) _ _ q))
        · rw [k2 b (fun z => by subst z; rw [hn] at e; cases e)]; exact t.kp b o e z
        · rw [k2 b (fun z => by subst z; rw [hn] at e; cases e)] at z; exact t.tr b o e z
        · rw [k2 b (fun w => by subst w; rw [e2] at e; cases e; cases z)]; exact e
    | own k =>
      have h : PostV X.K c (match ε'[k]? with
        | some (.ow (.l ds)) => .ok (.list ds) (ε'.set k (.p (.list ds)))
        | some (.ow (.dn kvs)) => .ok (lockN kvs) (ε'.set k (.p (lockN kvs)))
        | _ => .stuck) ε σ H Q := h
      split at h
      · rename_i ds e2
        obtain ⟨w, e3, ⟨a, xs, rfl, e4, q⟩, _⟩ := S'.atO (.inl e2)
        have e5 : some (some v) = some (some (V.ref a)) := r.symm.trans e3
        cases e5
        refine .inr ⟨a, _, rfl, e4, trivial, fun od => ?_⟩
        have im : Im H' (upd H' a (.frz od (.lst xs))) := fun b o e z => by
          rw [upd_ne (fun w => by subst w; rw [e4] at e; cases e; cases z)]; exact e
        obtain ⟨S2, t2⟩ := S'.chg (H' := upd H' a (.frz od (.lst xs))) (sl' := .p (.list ds)) e2 e3 (fun b u e z => by rw [upd_ne (fun w => z (by rw [w]; rfl))]; exact e)
          (fun b u e z => by by_cases w : b = a; · subst w; rw [upd_same] at z; cases z
                             · rw [upd_ne w, e] at z; cases z) (.lst ⟨od, upd_same⟩ (RpA.im im _ _ q)) (fun b z => z.elim) (fun o z => nomatch z)
        exact h _ _ (t.trans t2) S2 (.lst ⟨od, upd_same⟩ (RpA.im im _ _ q))
      · rename_i kvs e2
        obtain ⟨w, e3, ⟨a, xs, rfl, e4, q⟩, _⟩ := S'.atO (.inl e2)
        have e5 : some (some v) = some (some (V.ref a)) := r.symm.trans e3
        cases e5
        refine .inr ⟨a, _, rfl, e4, trivial, fun od => ?_⟩
        have im : Im H' (upd H' a (.frz od (dnO a xs))) := fun b o e z => by
          rw [upd_ne (fun w => by subst w; rw [e4] at e; cases e; cases z)]; exact e
        obtain ⟨S2, t2⟩ := S'.chg (H' := upd H' a (.frz od (dnO a xs))) (sl' := .p (lockN kvs)) e2 e3 (fun b u e z => by rw [upd_ne (fun w => z (by rw [w]; rfl))]; exact e)
          (fun b u e z => by by_cases w : b = a; · subst w; rw [upd_same] at z; cases z
                             · rw [upd_ne w, e] at z; cases z) (.dnl (o := od) upd_same (RpN.im' im q)) (fun b z => z.elim) (fun o z => nomatch z)
        exact h _ _ (t.trans t2) S2 (.dnl (o := od) upd_same (RpN.im' im q))
      · exact h.elim

/-! ### rows of expressions -/
def mNil : M (List PD) := fun ε => .ok [] ε
def mCons (m : M PD) (r : M (List PD)) : M (List PD) := fun ε => (m ε).bind fun d ε1 => (r ε1).bind fun ds ε2 => .ok (d :: ds) ε2
def oNil : M (List Opd) := fun ε => .ok [] ε
def oCons (m : M Opd) (r : M (List Opd)) : M (List Opd) := fun ε => (m ε).bind fun d ε1 => (r ε1).bind fun ds ε2 => .ok (d :: ds) ε2
theorem ja_nil : JA X c [] mNil := pa_imp pa_nil fun σ H Q ⟨ε, S, h⟩ => h [] H .refl S .nil
theorem ja_cons {e : Expr} {es : List Expr} {m : M PD} {r : M (List PD)} (ha : JV X c e m) (hr : JA X c es r) (hs : starEach (e :: es) X.env = (false, eval e X.env) :: starEach es X.env := by rfl) : JA X c (e :: es) (mCons m r) :=
  pa_imp (pa_cons ha hr hs) fun σ H Q ⟨ε, S, h⟩ => by
    unfold mCons at h
    refine ⟨ε, S, ?_⟩
    cases e1 : m ε with
    | stuck => rw [e1] at h; exact h
    | exc C ε' => rw [e1] at h; exact h
    | ok d ε1 =>
      rw [e1, Out.bind_ok] at h
      intro v H1 t1 S1 r1
      refine ⟨ε1, S1, ?_⟩
      cases e2 : r ε1 with
      | stuck => rw [e2] at h; exact h
      | exc C ε' => rw [e2] at h; exact fun H' a b => h H' (t1.trans a) b
      | ok ds ε2 =>
        rw [e2, Out.bind_ok] at h
        intro vs H2 t2 S2 r2
        exact h _ H2 (t1.trans t2) S2 (.cons (Rp.im (S1.im t2) _ _ r1) r2)
theorem jo_nil : JO X c [] oNil := pa_imp pa_nil fun σ H Q ⟨ε, S, h⟩ => h [] H .refl S .nil trivial
theorem jo_cons {e : Expr} {es : List Expr} {m : M Opd} {r : M (List Opd)} (ha : JE X c e m) (hr : JO X c es r) (hs : starEach (e :: es) X.env = (false, eval e X.env) :: starEach es X.env := by rfl) : JO X c (e :: es) (oCons m r) :=
  pa_imp (pa_cons ha hr hs) fun σ H Q ⟨ε, S, h⟩ => by
    unfold oCons at h
    refine ⟨ε, S, ?_⟩
    cases e1 : m ε with
    | stuck => rw [e1] at h; exact h
    | exc C ε' => rw [e1] at h; exact h
    | ok d ε1 =>
      rw [e1, Out.bind_ok] at h
      intro v H1 t1 S1 r1 n1
      refine ⟨ε1, S1, ?_⟩
      cases e2 : r ε1 with
      | stuck => rw [e2] at h; exact h
      | exc C ε' => rw [e2] at h; exact fun H' a b => h H' (t1.trans a) b
      | ok ds ε2 =>
        rw [e2, Out.bind_ok] at h
        intro vs H2 t2 S2 r2 n2
        refine h _ H2 (t1.trans t2) S2 (.cons (r1.step S1 t2) r2) ⟨fun b f => ?_, n2.step t1⟩
        cases d with
        | val d => exact f.elim
        | own k => exact f.elim
        | new ob =>
          obtain ⟨ro, fo⟩ := r1
          have f1 : Ft H1 ob v b := ro.ft (fun b u q e => t2.kp b u e (fo b q).2) f
          refine ⟨n1 b f1, fun q hq g => ?_⟩
          obtain ⟨u, hu, _⟩ := ro.trk f1
          have z := n2.none q hq b g
          rw [hu] at z; cases z
/-- a row's item that is to be a value -/
def mSink (m : M Opd) : M Opd := fun ε => (mVal m ε).bind fun d ε1 => .ok (.val d) ε1
theorem je_val {e : Expr} {m : M PD} (h : JV X c e m) : JE X c e (fun ε => (m ε).bind fun d ε1 => .ok (.val d) ε1) := pe_imp h fun σ H Q ⟨ε, S, h⟩ => by
  refine ⟨ε, S, ?_⟩
  cases e1 : m ε with
  | stuck => simp only [e1, Out.bind_stuck] at h; exact h
  | exc C ε' => simp only [e1, Out.bind_exc] at h; exact h
  | ok d ε1 =>
    simp only [e1, Out.bind_ok] at h
    exact fun v H' t S' r => h v H' t S' r trivial
theorem je_sink {e : Expr} {m : M Opd} (h : JE X c e m) : JE X c e (mSink m) := je_val (jv_of h)

/-! ### displays -/
def mTup (m : M (List PD)) : M Opd := fun ε => (m ε).bind fun ds ε1 => if ds.length ≤ 1000 then .ok (.val (.tuple ds)) ε1 else .stuck
def mLst (m : M (List PD)) : M Opd := fun ε => (m ε).bind fun ds ε1 => if ds.length ≤ 1000 then .ok (.new (.l ds)) ε1 else .stuck
theorem l1000 {n : Nat} (h : n ≤ 1000) : n ≤ sizeLine := Nat.le_trans h (by rw [sizeLine_eq]; decide)
theorem je_tup {es : List Expr} {k : Nat} {m : M (List PD)} (h : JA X c es m) : JE X c (.Tuple es k pos) (mTup m) := pe_imp (pe_tup h) fun σ H Q ⟨ε, S, h⟩ => by
  unfold mTup at h
  refine ⟨ε, S, ?_⟩
  cases e1 : m ε with
  | stuck => rw [e1] at h; exact h
  | exc C ε' => rw [e1] at h; exact h
  | ok ds ε1 =>
    rw [e1, Out.bind_ok] at h
    intro vs H1 t1 S1 r1
    by_cases hl : ds.length ≤ 1000
    · rw [if_pos hl] at h
      exact ⟨l1000 (by rw [r1.length]; exact hl), fun p hp => PostP.ntup (PostP.of S1 (fun _ z => nomatch z) (PostE.step t1 h)) r1 hp⟩
    · rw [if_neg hl] at h; exact h.elim
theorem je_lst {es : List Expr} {m : M (List PD)} (h : JA X c es m) : JE X c (.List es pos) (mLst m) := pe_imp (pe_lst h) fun σ H Q ⟨ε, S, h⟩ => by
  unfold mLst at h
  refine ⟨ε, S, ?_⟩
  cases e1 : m ε with
  | stuck => rw [e1] at h; exact h
  | exc C ε' => rw [e1] at h; exact h
  | ok ds ε1 =>
    rw [e1, Out.bind_ok] at h
    intro vs H1 t1 S1 r1
    by_cases hl : ds.length ≤ 1000
    · rw [if_pos hl] at h
      exact ⟨l1000 (by rw [r1.length]; exact hl), fun p hp => PostP.nlst (PostP.of S1 (fun _ z => nomatch z) (PostE.step t1 h)) r1 hp⟩
    · rw [if_neg hl] at h; exact h.elim

/-! ### operations -/
variable {a b d : Expr} {ma mb mc : M Opd} {g g' : Opd → Opd → M Opd}
theorem je_bin {op : Operator} (ho : OpR X (binaryOp op) (rM X.K c g)) (ha : JE X c a ma) (hb : JE X c b mb) : JE X c (.BinOp a op b pos) (mBin g ma mb) := pe_imp (pe_op ho ha hb) bin_read
theorem je_cmp {op : CmpOp} (ho : OpR X (compareOp op) (rM X.K c g)) (ha : JE X c a ma) (hb : JE X c b mb) (hm : behindInMarks op b = false := by first | exact nomark _ | with_unfolding_all rfl) : JE X c (.Compare a [op] [b] pos) (mBin g ma mb) := pe_imp (pe_cmpR ho ha hb hm) bin_read
theorem je_ix (hr : IxR X (rM X.K c g)) (ha : JE X c a ma) (hb : JE X c b mb) (hs : PlainIx b := by exact fun _ _ => rfl) : JE X c (.Subscript a b pos) (mBin g ma mb) := pe_imp (pe_ix hr ha hb hs) bin_read
theorem je_un {op : UnaryOp} {g : Opd → M Opd} (ho : UnR X (unaryOp op) (uM X.K c g)) (ha : JE X c a ma) : JE X c (.UnaryOp op a pos) (mUn g ma) := pe_imp (pe_un ho ha) un_read
/-- an answer that is true or false -/
def mTru (m : M Opd) : M Bool := fun ε => (m ε).bind fun o ε1 => match o with
  | .val (.bool b) => .ok b ε1
  | _ => .stuck
theorem tru_read {K : PySem.W.Frag} {m : M Opd} (σ : L2.St) (H : Hp) (Q : Bool → Hp → Prop) (h : tT K c (mTru m) σ H Q) : tM K c m σ H fun x H' => ∃ k, x = .bl k ∧ Q k H' := by
  obtain ⟨ε, S, h⟩ := h
  unfold mTru at h
  refine ⟨ε, S, ?_⟩
  cases e1 : m ε with
  | stuck => rw [e1] at h; exact h
  | exc C ε' => rw [e1] at h; exact h
  | ok o ε1 =>
    rw [e1, Out.bind_ok] at h
    intro v H1 t1 S1 r1 _
    split at h
    · cases r1
      exact ⟨_, rfl, h H1 t1 S1⟩
    · exact h.elim
theorem jt_cmp {op : CmpOp} (ho : OpR X (compareOp op) (rM X.K c g)) (ha : JE X c a ma) (hb : JE X c b mb) (hm : behindInMarks op b = false := by first | exact nomark _ | with_unfolding_all rfl) : JT X c (.Compare a [op] [b] pos) (mTru (mBin g ma mb)) :=
  pt_imp (pt_cmpR ho ha hb hm) fun σ H Q h => bin_read _ _ _ (tru_read σ H Q h)
/-- a name, a call, ..: its value is true or false -/
theorem jt_val {e : Expr} {m : M Opd} (h : JE X c e m) (he : ∀ whole, isTrue e X.env whole = (do let v ← whole; standAt e.pos; holding [v] (truthy v)) := by intro _; rfl) : JT X c e (mTru m) := pt_imp (pt_val h he) fun σ H Q h => tru_read σ H Q h
/-- a op b op c -/
def mChain (g g' : Opd → Opd → M Opd) (ma mb mc : M Opd) : M Opd := fun ε => (ma ε).bind fun o1 ε1 => (mb ε1).bind fun o2 ε2 => (g o1 o2 ε2).bind fun o ε3 => match o with
  | .val (.bool true) => (mc ε3).bind fun o3 ε4 => g' o2 o3 ε4
  | .val (.bool false) => .ok (.val (.bool false)) ε3
  | _ => .stuck
theorem chain_read {K : PySem.W.Frag} (σ : L2.St) (H : Hp) (Q : VK) (h : tM K c (mChain g g' ma mb mc) σ H Q) : tChain (rM K c g) (rM K c g') (tM K c ma) (tM K c mb) (tM K c mc) σ H Q := by
  obtain ⟨ε, S, h⟩ := h
  unfold mChain at h
  refine ⟨ε, S, ?_⟩
  cases e1 : ma ε with
  | stuck => rw [e1] at h; exact h
  | exc C ε' => rw [e1] at h; exact h
  | ok o1 ε1 =>
    rw [e1, Out.bind_ok] at h
    intro x H1 t1 S1 r1 _
    refine ⟨ε1, S1, ?_⟩
    cases e2 : mb ε1 with
    | stuck => rw [e2] at h; exact h
    | exc C ε' => rw [e2] at h; exact fun H' a b => h H' (t1.trans a) b
    | ok o2 ε2 =>
      rw [e2, Out.bind_ok] at h
      intro y H2 t2 S2 r2 _
      have h := PostE.step (t1.trans t2) h
      refine ⟨ε2, σ, o1, o2, S2, r1.step S1 t2, r2, ?_⟩
      cases e3 : g o1 o2 ε2 with
      | stuck => rw [e3] at h; exact h
      | exc C ε' => rw [e3] at h; exact fun H' a b => h H' a b
      | ok o ε3 =>
        rw [e3, Out.bind_ok] at h
        intro z H3 t3 S3 r3 _
        split at h
        · cases r3
          refine ⟨true, rfl, ?_⟩
          rw [if_pos rfl]
          refine ⟨ε3, S3, ?_⟩
          cases e4 : mc ε3 with
          | stuck => rw [e4] at h; exact h
          | exc C ε' => rw [e4] at h; exact fun H' a b => h H' (t3.trans a) b
          | ok o3 ε4 =>
            rw [e4, Out.bind_ok] at h
            intro w H4 t4 S4 r4 _
            exact ⟨ε4, σ, o2, o3, S4, r2.step S2 (t3.trans t4), r4, PostE.step (t3.trans t4) h⟩
        · cases r3
          refine ⟨false, rfl, ?_⟩
          rw [if_neg Bool.false_ne_true]
          exact h _ H3 t3 S3 (.bl false) trivial
        · exact h.elim
theorem je_chain {op op' : CmpOp} (ho : OpR X (compareOp op) (rM X.K c g)) (ho' : OpR X (compareOp op') (rM X.K c g')) (ha : JE X c a ma) (hb : JE X c b mb) (hc : JE X c d mc)
    (hm : lastMarks [op, op'] [b, d] = false := by with_unfolding_all rfl) : JE X c (.Compare a [op, op'] [b, d] pos) (mChain g g' ma mb mc) := pe_imp (pe_chain ho ho' ha hb hc hm) chain_read
theorem jt_chain {op op' : CmpOp} (ho : OpR X (compareOp op) (rM X.K c g)) (ho' : OpR X (compareOp op') (rM X.K c g')) (ha : JE X c a ma) (hb : JE X c b mb) (hc : JE X c d mc)
    (hm : lastMarks [op, op'] [b, d] = false := by with_unfolding_all rfl) : JT X c (.Compare a [op, op'] [b, d] pos) (mTru (mChain g g' ma mb mc)) := pt_imp (pt_chain ho ho' ha hb hc hm) fun σ H Q h => chain_read _ _ _ (tru_read σ H Q h)

/-! ### and, or, not, if -/
variable {rest : List Expr} {ta tb : M Bool}
def mAnd (ma : M Bool) (mb : M Opd) : M Opd := fun ε => (ma ε).bind fun k ε1 => if k = true then mb ε1 else .ok (.val (.bool false)) ε1
def mOr (ma : M Bool) (mb : M Opd) : M Opd := fun ε => (ma ε).bind fun k ε1 => if k = true then .ok (.val (.bool true)) ε1 else mb ε1
def mNot (ma : M Bool) : M Opd := fun ε => (ma ε).bind fun k ε1 => .ok (.val (.bool (!k))) ε1
def bAnd (ma mb : M Bool) : M Bool := fun ε => (ma ε).bind fun k ε1 => if k = true then mb ε1 else .ok false ε1
def bOr (ma mb : M Bool) : M Bool := fun ε => (ma ε).bind fun k ε1 => if k = true then .ok true ε1 else mb ε1
def bNot (ma : M Bool) : M Bool := fun ε => (ma ε).bind fun k ε1 => .ok (!k) ε1
theorem b_read {K : PySem.W.Frag} {f : Bool → M Opd} (σ : L2.St) (H : Hp) (Q : VK) (h : tM K c (fun ε => (ta ε).bind f) σ H Q) : tT K c ta σ H fun k H1 => ∃ ε1, SR K c ε1 σ H1 ∧ PostE K c (f k ε1) ε1 σ H1 Q := by
  obtain ⟨ε, S, h⟩ := h
  refine ⟨ε, S, ?_⟩
  cases e1 : ta ε with
  | stuck => simp only [e1] at h; exact h
  | exc C ε' => simp only [e1] at h; exact h
  | ok k ε1 =>
    simp only [e1, Out.bind_ok] at h
    exact fun H1 t1 S1 => ⟨ε1, S1, PostE.step t1 h⟩
theorem b_readT {K : PySem.W.Frag} {f : Bool → M Bool} (σ : L2.St) (H : Hp) (Q : Bool → Hp → Prop) (h : tT K c (fun ε => (ta ε).bind f) σ H Q) : tT K c ta σ H fun k H1 => ∃ ε1, SR K c ε1 σ H1 ∧ PostT K c (f k ε1) ε1 σ H1 Q := by
  obtain ⟨ε, S, h⟩ := h
  refine ⟨ε, S, ?_⟩
  cases e1 : ta ε with
  | stuck => simp only [e1] at h; exact h
  | exc C ε' => simp only [e1] at h; exact h
  | ok k ε1 =>
    simp only [e1, Out.bind_ok] at h
    exact fun H1 t1 S1 => ⟨ε1, S1, PostT.step t1 h⟩
theorem tT_mono {K : PySem.W.Frag} {σ : L2.St} {H : Hp} {Q Q' : Bool → Hp → Prop} (h : tT K c ta σ H Q) (i : ∀ k H', Q k H' → Q' k H') : tT K c ta σ H Q' := by
  obtain ⟨ε, S, h⟩ := h
  refine ⟨ε, S, ?_⟩
  cases e1 : ta ε with
  | stuck => rw [e1] at h; exact h
  | exc C ε' => rw [e1] at h; exact h
  | ok k ε1 => rw [e1] at h; exact fun H1 t1 S1 => i _ _ (h H1 t1 S1)
theorem je_one {op} (ha : JE X c a ma) : JE X c (.BoolOp op [a] pos) ma := pe_one ha
theorem je_and (ha : JE X c a ma) (hb : JE X c (.BoolOp .And (b :: rest) pos) mb) : JE X c (.BoolOp .And (a :: b :: rest) pos) (mAnd (mTru ma) mb) :=
  pe_imp (pe_and ha hb) fun σ H Q h => tru_read σ H _ (tT_mono (b_read σ H Q h) fun k H' ⟨ε1, S1, p⟩ => by
    cases k with
    | true => exact ⟨ε1, S1, p⟩
    | false => exact p _ H' .refl S1 (.bl false) trivial)
theorem je_or (ha : JE X c a ma) (hb : JE X c (.BoolOp .Or (b :: rest) pos) mb) : JE X c (.BoolOp .Or (a :: b :: rest) pos) (mOr (mTru ma) mb) :=
  pe_imp (pe_or ha hb) fun σ H Q h => tru_read σ H _ (tT_mono (b_read σ H Q h) fun k H' ⟨ε1, S1, p⟩ => by
    cases k with
    | false => exact ⟨ε1, S1, p⟩
    | true => exact p _ H' .refl S1 (.bl true) trivial)
theorem je_not (ha : JE X c a ma) : JE X c (.UnaryOp .Not a pos) (mNot (mTru ma)) :=
  pe_imp (pe_not ha) fun σ H Q h => tru_read σ H _ (tT_mono (b_read σ H Q h) fun k H' ⟨ε1, S1, p⟩ => p _ H' .refl S1 (.bl _) trivial)
theorem jw_and1 (ha : JT X c a ta) : JW X c (.BoolOp .And [a] pos) ta := pw_and1 ha
theorem jw_or1 (ha : JT X c a ta) : JW X c (.BoolOp .Or [a] pos) ta := pw_or1 ha
theorem jw_and (ha : JT X c a ta) (hb : JW X c (.BoolOp .And (b :: rest) pos) tb) : JW X c (.BoolOp .And (a :: b :: rest) pos) (bAnd ta tb) :=
  pw_imp (pw_and ha hb) fun σ H Q h => tT_mono (b_readT σ H Q h) fun k H' ⟨ε1, S1, p⟩ => by
    cases k with
    | true => exact ⟨ε1, S1, p⟩
    | false => exact p H' .refl S1
theorem jw_or (ha : JT X c a ta) (hb : JW X c (.BoolOp .Or (b :: rest) pos) tb) : JW X c (.BoolOp .Or (a :: b :: rest) pos) (bOr ta tb) :=
  pw_imp (pw_or ha hb) fun σ H Q h => tT_mono (b_readT σ H Q h) fun k H' ⟨ε1, S1, p⟩ => by
    cases k with
    | false => exact ⟨ε1, S1, p⟩
    | true => exact p H' .refl S1
theorem jt_w {e : Expr} (h : JW X c e ta) : JT X c e ta := h.pt
theorem jt_not (ha : JT X c a ta) : JT X c (.UnaryOp .Not a pos) (bNot ta) :=
  pt_imp (pt_not ha) fun σ H Q h => tT_mono (b_readT σ H Q h) fun k H' ⟨ε1, S1, p⟩ => p H' .refl S1
def mIf (t : M Bool) (ma mb : M Opd) : M Opd := fun ε => (t ε).bind fun k ε1 => if k = true then ma ε1 else mb ε1
theorem je_if {t : Expr} (ht : JT X c t ta) (ha : JE X c a ma) (hb : JE X c b mb) : JE X c (.IfExp t a b pos) (mIf ta ma mb) :=
  pe_imp (pe_ifExp ht ha hb) fun σ H Q h => tT_mono (b_read σ H Q h) fun k H' ⟨ε1, S1, p⟩ => by
    cases k with
    | true => exact ⟨ε1, S1, p⟩
    | false => exact ⟨ε1, S1, p⟩

/-! ### calls of what is built in -/
theorem je_callB {id : String} {f : List Opd → M Opd} {x : Str} {p : Pos} {e : Expr} {es : List Expr} {m : M (List Opd)} (hc : CallR X (.builtin id) (cM X.K c f)) (hg : Gl X x) (hm : X.mg x = none) (hv : bootBuiltins x = some (.builtin id)) (ha : JO X c (e :: es) m)
    (hn : x ≠ "__name__" := by decide) (hdb : (x == ("__debug__" : Str)) = false := by decide)
    (he : starEach (e :: es) X.env = (false, eval e X.env) :: starEach es X.env := by rfl) (hpl : (backTo pos (starEach es X.env)).any (·.1) = false := by rfl) : JE X c (.Call (.Name x p) (e :: es) [] pos) (mCallB f m) :=
  pe_imp (pe_callB hc hg hm hv ha hn hdb he hpl) call_read
theorem je_callTy {T : String} {f : List Opd → M Opd} {x : Str} {p : Pos} {e : Expr} {es : List Expr} {m : M (List Opd)} (hc : CallR X (.type T) (cM X.K c f)) (hg : Gl X x) (hm : X.mg x = none) (hv : bootBuiltins x = some (.type T)) (ha : JO X c (e :: es) m)
    (hn : x ≠ "__name__" := by decide) (hdb : (x == ("__debug__" : Str)) = false := by decide)
    (he : starEach (e :: es) X.env = (false, eval e X.env) :: starEach es X.env := by rfl) (hpl : (backTo pos (starEach es X.env)).any (·.1) = false := by rfl) : JE X c (.Call (.Name x p) (e :: es) [] pos) (mCallB f m) :=
  pe_imp (pe_callTy hc hg hm hv ha hn hdb he hpl) call_read

/-! ### slices -/
abbrev JP (X : Cx) (c : Mc) (e : Option Expr) (m : M (Option Int)) : Prop := PO X e (fun σ H Q => ∃ ε, SR X.K c ε σ H ∧ match m ε with
  | .ok i ε' => ∀ H', Step ε σ H ε' σ H' → SR X.K c ε' σ H' → Q i H'
  | .exc C ε' => ∀ H', Step ε σ H ε' σ H' → SR X.K c ε' σ H' → c.W C ε' σ H'
  | .stuck => False)
def pNone : M (Option Int) := fun ε => .ok none ε
def pSome (m : M Opd) : M (Option Int) := fun ε => (m ε).bind fun o ε1 => match o with
  | .val (.int i) => .ok (some i) ε1
  | _ => .stuck
theorem po_imp {e : Option Expr} {t t' : TO} (h : PO X e t) (i : ∀ σ H Q, t' σ H Q → t σ H Q) : PO X e t' := ⟨fun pins s σ H Q I w => h.run pins s σ H Q I (i σ H Q w)⟩
theorem jp_none : JP X c none pNone := po_imp po_none fun σ H Q ⟨ε, S, h⟩ => h H .refl S
theorem jp_some (ha : JE X c a ma) : JP X c (some a) (pSome ma) := po_imp (po_some ha) fun σ H Q ⟨ε, S, h⟩ => by
  refine ⟨ε, S, ?_⟩
  unfold pSome at h
  cases e1 : ma ε with
  | stuck => simp only [e1, Out.bind_stuck] at h
  | exc C ε' => simp only [e1, Out.bind_exc] at h; exact h
  | ok o ε1 =>
    simp only [e1, Out.bind_ok] at h
    intro v H1 t1 S1 r1 _
    cases o with
    | val d =>
      cases d with
      | int i => cases r1; exact ⟨i, rfl, h H1 t1 S1⟩
      | _ => exact h.elim
    | _ => exact h.elim
def mSlice (g : Opd → Option Int → Option Int → M Opd) (me : M Opd) (ml mh : M (Option Int)) : M Opd := fun ε => (me ε).bind fun o ε1 => (ml ε1).bind fun l ε2 => (mh ε2).bind fun u ε3 => g o l u ε3
def sM (K : PySem.W.Frag) (c : Mc) (g : Opd → Option Int → Option Int → M Opd) : V → Option Int → Option Int → Hp → VK → Prop := fun x lo hi H Q => ∃ ε σ o, SR K c ε σ H ∧ RO K c ε σ H o x ∧ PostE K c (g o lo hi ε) ε σ H Q
theorem je_slice {f : Opd → Option Int → Option Int → M Opd} {lo hi : Option Expr} {ml mh : M (Option Int)} {p2 : Pos} (hr : L2.SlR X (sM X.K c f)) (he : JE X c a ma) (hl : JP X c lo ml) (hh : JP X c hi mh) : JE X c (.Subscript a (.Slice lo hi none p2) pos) (mSlice f ma ml mh) :=
  pe_imp (pe_slice hr he hl hh) fun σ H Q ⟨ε, S, h⟩ => by
    refine ⟨ε, S, ?_⟩
    unfold mSlice at h
    cases e1 : ma ε with
    | stuck => rw [e1] at h; exact h
    | exc C ε' => rw [e1] at h; exact h
    | ok o ε1 =>
      rw [e1, Out.bind_ok] at h
      intro x H1 t1 S1 r1 _
      refine ⟨ε1, S1, ?_⟩
      cases e2 : ml ε1 with
      | stuck => rw [e2] at h; exact h
      | exc C ε' => rw [e2] at h; exact fun H' a b => h H' (t1.trans a) b
      | ok l ε2 =>
        rw [e2, Out.bind_ok] at h
        intro H2 t2 S2
        refine ⟨ε2, S2, ?_⟩
        cases e3 : mh ε2 with
        | stuck => rw [e3] at h; exact h
        | exc C ε' => rw [e3] at h; exact fun H' a b => h H' ((t1.trans t2).trans a) b
        | ok u ε3 =>
          rw [e3, Out.bind_ok] at h
          intro H3 t3 S3
          exact ⟨ε3, σ, o, S3, r1.step S1 (t2.trans t3), PostE.step ((t1.trans t2).trans t3) h⟩
end
end MM

/-! ML4: operations on plain data. -/
namespace MM
open PySem PySem.Spec PyProof.Rows L2

/-- the longest list, tuple or text that we make -/
abbrev big : Nat := 1000000
theorem big_line {n : Nat} (h : n ≤ big) : n ≤ sizeLine := Nat.le_trans h (by rw [sizeLine_eq]; decide)
def smallI (i : Int) : Bool := decide (-18446744073709551616 < i) && decide (i < 18446744073709551616)
theorem smallI_ok {i : Int} (h : smallI i = true) : -(2 ^ 64) < i ∧ i < 2 ^ 64 := by
  simp only [smallI, Bool.and_eq_true, decide_eq_true_eq] at h
  exact ⟨by omega, by omega⟩

def fAdd : PD → PD → Option Opd
  | .int i, .int j => some (.val (.int (i + j)))
  | .str x, .str y => if x.length + y.length ≤ big then some (.val (.str (x ++ y))) else none
  | .tuple a, .tuple b => if a.length + b.length ≤ big then some (.val (.tuple (a ++ b))) else none
  | .list a, .list b => if a.length + b.length ≤ big then some (.new (.l (a ++ b))) else none
  | _, _ => none
def fSub : PD → PD → Option Opd
  | .int i, .int j => some (.val (.int (i - j)))
  | _, _ => none
def fMul : PD → PD → Option Opd
  | .int i, .int j => if (smallI i || smallI j) = true then some (.val (.int (i * j))) else none
  | _, _ => none
def fDiv : PD → PD → Option Opd
  | .int i, .int j => if 0 < j ∧ j < 1073741824 then some (.val (.int (i / j))) else none
  | _, _ => none
def fMod : PD → PD → Option Opd
  | .int i, .int j => if 0 < j then some (.val (.int (i % j))) else none
  | _, _ => none
def fNeg : PD → Option Opd
  | .int i => some (.val (.int (-i)))
  | _ => none
def fEq (a b : PD) : Option Opd := if (SeqAt.shaped a && SeqAt.shaped b) = true then some (.val (.bool (PyData.eqv a b))) else none
def fNe (a b : PD) : Option Opd := if (SeqAt.shaped a && SeqAt.shaped b) = true then some (.val (.bool (!PyData.eqv a b))) else none
def fCmp (f : Int → Int → Bool) : PD → PD → Option Opd
  | .int i, .int j => some (.val (.bool (f i j)))
  | _, _ => none
abbrev fLt := fCmp fun i j => decide (i < j)
abbrev fLe := fCmp fun i j => decide (i ≤ j)
abbrev fGt := fCmp fun i j => decide (j < i)
abbrev fGe := fCmp fun i j => decide (j ≤ i)
def isNoneD : PD → Bool
  | .none => true
  | _ => false
def fIs : PD → PD → Option Opd
  | d, .none => some (.val (.bool (isNoneD d)))
  | .bool a, .bool b => some (.val (.bool (decide (a = b))))
  | _, _ => none
def fIsN : PD → PD → Option Opd
  | d, .none => some (.val (.bool (!isNoneD d)))
  | .bool a, .bool b => some (.val (.bool (!decide (a = b))))
  | _, _ => none
def inStr (x y : Str) : Bool := !(Builtin.Str.occurrences y x 0 y.length 1).isEmpty
def fIn : PD → PD → Option Opd
  | d, .list ds => if (SeqAt.shaped d && SeqAt.shaped (.list ds)) = true then some (.val (.bool (ds.any fun z => PyData.eqv z d))) else none
  | .str x, .str y => some (.val (.bool (inStr x y)))
  | _, _ => none
def fNotIn : PD → PD → Option Opd
  | d, .list ds => if (SeqAt.shaped d && SeqAt.shaped (.list ds)) = true then some (.val (.bool (!ds.any fun z => PyData.eqv z d))) else none
  | .str x, .str y => some (.val (.bool (!inStr x y)))
  | _, _ => none
def fIx : PD → PD → Option Opd
  | .list ds, .int i => (atI ds i).map .val
  | .tuple ds, .int i => (atI ds i).map .val
  | _, _ => none
def cutD (xs : List PD) (lo hi : Option Int) : List PD := (xs.drop (HT.sIx xs.length 0 lo)).take (HT.sIx xs.length xs.length hi - HT.sIx xs.length 0 lo)
def fSl : PD → Option Int → Option Int → Option Opd
  | .list ds, lo, hi => some (.new (.l (cutD ds lo hi)))
  | .tuple ds, lo, hi => some (.val (.tuple (cutD ds lo hi)))
  | .str z, lo, hi => if z.length ≤ big then some (.val (.str (cutS z lo hi))) else none
  | _, _, _ => none
def fLen : List PD → Option Opd
  | [.list ds] => some (.val (.int ds.length))
  | [.tuple ds] => some (.val (.int ds.length))
  | [.str z] => if z.length ≤ big then some (.val (.int z.length)) else none
  | _ => none
def boolsOf : List PD → Option (List Bool)
  | [] => some []
  | .bool b :: r => (boolsOf r).map (b :: ·)
  | _ :: _ => none
def intsOf : List PD → Option (List Int)
  | [] => some []
  | .int b :: r => (intsOf r).map (b :: ·)
  | _ :: _ => none
def fAll : List PD → Option Opd
  | [.list ds] => (boolsOf ds).map fun bs => .val (.bool (bs.all id))
  | _ => none
def fAny : List PD → Option Opd
  | [.list ds] => (boolsOf ds).map fun bs => .val (.bool (bs.any id))
  | _ => none
def fSum : List PD → Option Opd
  | [.list ds] => (intsOf ds).map fun bs => .val (.int bs.sum)
  | _ => none
def fMax2 : List PD → Option Opd
  | [.int i, .int j] => some (.val (.int (if j > i then j else i)))
  | _ => none
def fMin2 : List PD → Option Opd
  | [.int i, .int j] => some (.val (.int (if j < i then j else i)))
  | _ => none
def fTuple : List PD → Option Opd
  | [.list ds] => some (.val (.tuple ds))
  | [.tuple ds] => some (.val (.tuple ds))
  | _ => none
def fList : List PD → Option Opd
  | [.list ds] => some (.new (.l ds))
  | [.tuple ds] => some (.new (.l ds))
  | _ => none
def fInt : List PD → Option Opd
  | [.int i] => some (.val (.int i))
  | [.bool k] => some (.val (.int (if k then 1 else 0)))
  | _ => none

section
variable {K : PySem.W.Frag} {H : Hp}
theorem bools_ok : ∀ {ds : List PD} {bs : List Bool} {xs : List V}, boolsOf ds = some bs → RpA K H xs ds → xs = bs.map V.bl
  | [], bs, xs, e, r => by cases e; cases r; rfl
  | d :: ds, bs, xs, e, r => by
    cases r with
    | cons r1 r2 =>
      cases d <;> simp only [boolsOf] at e <;> try cases e
      cases e2 : boolsOf ds with
      | none => rw [e2] at e; cases e
      | some bs' =>
        rw [e2] at e; cases e
        cases r1
        rw [bools_ok e2 r2]; rfl
theorem ints_ok : ∀ {ds : List PD} {bs : List Int} {xs : List V}, intsOf ds = some bs → RpA K H xs ds → xs = bs.map V.int
  | [], bs, xs, e, r => by cases e; cases r; rfl
  | d :: ds, bs, xs, e, r => by
    cases r with
    | cons r1 r2 =>
      cases d <;> simp only [intsOf] at e <;> try cases e
      cases e2 : intsOf ds with
      | none => rw [e2] at e; cases e
      | some bs' =>
        rw [e2] at e; cases e
        cases r1
        rw [ints_ok e2 r2]; rfl
theorem atI_rp {xs : List V} {ds : List PD} {i : Int} {d : PD} (r : RpA K H xs ds) (h : atI ds i = some d) : ∃ v, atI xs i = some v ∧ Rp K H v d := by
  unfold atI at h ⊢
  rw [r.length]
  cases e : ixN ds.length i with
  | none => rw [e] at h; cases h
  | some j =>
    rw [e] at h
    obtain ⟨v, h1, h2⟩ := r.get h
    exact ⟨v, h1, h2⟩
theorem cut_rp {xs : List V} {ds : List PD} (r : RpA K H xs ds) (lo hi : Option Int) : RpA K H (cutV xs lo hi) (cutD ds lo hi) := by
  unfold cutV cutD
  rw [r.length]
  exact (r.drop _).take _
theorem rd_sqL {a : Addr} {xs : List V} (h : Rd H a (.lst xs)) : SqL K H a xs := .inl h
theorem Rd1s.one {xs : List V} {d : PD} (h : Rd1s K H xs [d]) : ∃ x, xs = [x] ∧ Rd1 K H x d := by
  cases h with | cons a t => cases t; exact ⟨_, rfl, a⟩
theorem Rd1s.two {xs : List V} {d e : PD} (h : Rd1s K H xs [d, e]) : ∃ x y, xs = [x, y] ∧ Rd1 K H x d ∧ Rd1 K H y e := by
  cases h with | cons a t => cases t with | cons b t => cases t; exact ⟨_, _, rfl, a, b⟩
end

theorem noVal {d : PD} : NoOwn (.val d) := fun _ z => nomatch z
theorem noNew {o : Ob} : NoOwn (.new o) := fun _ z => nomatch z
section
variable {X : Cx} {c : Mc}
/-- a list, exactly -/
theorem lstR {pins : List (Addr × Obj)} {σ : L2.St} {H : Hp} {s : Shared} {l : Addr} {xs : List V} (I : Inv X pins σ H s) (h : Rd H l (.lst xs)) :
    xs.length ≤ sizeLine ∧ ∃ (its : List Value) (n : Nat), Vals xs its ∧ xs.length = its.length ∧ s.heap.get? l = some { cls := .type "list", data := .seq its.toArray n } := by
  obtain ⟨z, its, n, r, e⟩ := (show ObjOk X.prog X.w H s.heap l (.lst xs) from h.ok I.hok)
  exact ⟨z, its, n, r, r.length, e⟩
def rCatR : R2 := fun x y H Q => ∃ l b xs zs, x = .ref l ∧ y = .ref b ∧ Rd H l (.lst xs) ∧ Rd H b (.lst zs) ∧ xs.length + zs.length ≤ sizeLine ∧ ∀ p, H p = none → Q (.ref p) (upd H p (.lst (xs ++ zs)))
theorem op_catR : OpR X (binaryOp .Add) rCatR := by
  intro pins s σ H x y v u Q I rx ry ⟨l, b, xs, zs, e1, e2, hl, hb, hz, q⟩
  subst e1 e2
  cases rx
  cases ry
  obtain ⟨_, as, n, r, el, g⟩ := lstR I hl
  obtain ⟨_, bs, n2, r2, el2, g2⟩ := lstR I hb
  have hsz : as.toArray.size + bs.toArray.size ≤ sizeLine := by simp only [List.size_toArray]; omega
  refine PySem.P.add_list g g2 ?_ hsz
  rw [show as.toArray ++ bs.toArray = (as ++ bs).toArray by simp]
  exact ⟨.ref _, _, Inv.lnew (t' := s.toks) I (r.append r2) (by rw [List.length_append]; omega), rfl, q _ (Inv.fresh I)⟩

theorem o_add : OpR X (binaryOp .Add) (rM X.K c (lift2 fAdd)) := by
  refine lift2_op ((op_add.or op_add_str).or (op_catA.or op_catR)) fun x y d1 d2 o H Q L r1 r2 e => ?_
  cases d1 <;> cases d2 <;> simp only [fAdd] at e <;> try cases e
  · cases r1.int; cases r2.int
    exact ⟨(by first | exact noVal | exact noNew), fun p => .inl (.inl ⟨_, _, rfl, rfl, p.scal (.int _)⟩)⟩
  · split at e <;> cases e
    rename_i h
    cases r1.str; cases r2.str
    exact ⟨(by first | exact noVal | exact noNew), fun p => .inl (.inr ⟨_, _, rfl, rfl, big_line h, p.scal (.str _)⟩)⟩
  · split at e <;> cases e
    rename_i h
    obtain ⟨a, xs, rfl, ha, ra⟩ := r1.lst
    obtain ⟨b, ys, rfl, hb, rb⟩ := r2.lst
    exact ⟨(by first | exact noVal | exact noNew), fun p => .inr (.inr ⟨a, b, xs, ys, rfl, rfl, ha, hb, by rw [ra.length, rb.length]; exact big_line h, fun q hq => p.nlst (ra.append rb) hq⟩)⟩
  · split at e <;> cases e
    rename_i h
    obtain ⟨a, xs, rfl, ha, ra⟩ := r1.tup
    obtain ⟨b, ys, rfl, hb, rb⟩ := r2.tup
    refine ⟨(by first | exact noVal | exact noNew), fun p => .inr (.inl ⟨a, b, xs, ys, rfl, rfl, ha, hb, by rw [ra.length, rb.length]; exact big_line h, fun z => ?_, fun _ z => ?_, fun _ _ q hq => p.ntup (ra.append rb) hq⟩)⟩
    · subst z
      cases ra
      exact p.scal (.tup hb rb)
    · subst z
      cases rb
      rw [List.append_nil] at p
      exact p.scal (.tup ha ra)
theorem o_sub : OpR X (binaryOp .Sub) (rM X.K c (lift2 fSub)) := by
  refine lift2_op op_sub fun x y d1 d2 o H Q L r1 r2 e => ?_
  cases d1 <;> cases d2 <;> simp only [fSub] at e <;> try cases e
  cases r1.int; cases r2.int
  exact ⟨(by first | exact noVal | exact noNew), fun p => ⟨_, _, rfl, rfl, p.scal (.int _)⟩⟩
theorem o_mul : OpR X (binaryOp .Mult) (rM X.K c (lift2 fMul)) := by
  refine lift2_op op_mul fun x y d1 d2 o H Q L r1 r2 e => ?_
  cases d1 <;> cases d2 <;> simp only [fMul] at e <;> try cases e
  split at e <;> cases e
  rename_i h
  cases r1.int; cases r2.int
  refine ⟨(by first | exact noVal | exact noNew), fun p => ⟨_, _, rfl, rfl, ?_, p.scal (.int _)⟩⟩
  rw [Bool.or_eq_true] at h
  exact h.imp smallI_ok smallI_ok
theorem o_div : OpR X (binaryOp .FloorDiv) (rM X.K c (lift2 fDiv)) := by
  refine lift2_op op_fdiv fun x y d1 d2 o H Q L r1 r2 e => ?_
  cases d1 <;> cases d2 <;> simp only [fDiv] at e <;> try cases e
  split at e <;> cases e
  rename_i h
  cases r1.int; cases r2.int
  exact ⟨(by first | exact noVal | exact noNew), fun p => ⟨_, _, rfl, rfl, h, p.scal (.int _)⟩⟩
theorem o_mod : OpR X (binaryOp .Mod) (rM X.K c (lift2 fMod)) := by
  refine lift2_op op_mod fun x y d1 d2 o H Q L r1 r2 e => ?_
  cases d1 <;> cases d2 <;> simp only [fMod] at e <;> try cases e
  split at e <;> cases e
  rename_i h
  cases r1.int; cases r2.int
  exact ⟨(by first | exact noVal | exact noNew), fun p => ⟨_, _, rfl, rfl, h, p.scal (.int _)⟩⟩
theorem o_neg : UnR X (unaryOp .USub) (uM X.K c (lift1 fNeg)) := by
  refine lift1_un un_neg fun x d1 o H Q L r1 e => ?_
  cases d1 <;> simp only [fNeg] at e <;> try cases e
  cases r1.int
  exact ⟨(by first | exact noVal | exact noNew), fun p => ⟨_, rfl, p.scal (.int _)⟩⟩
theorem sh2 {d e : PD} (h : (SeqAt.shaped d && SeqAt.shaped e) = true) : (SeqAt.shaped d = true ∧ SeqAt.shaped e = true) ∧ d.canLay0 = true ∧ e.canLay0 = true := by
  rw [Bool.and_eq_true] at h
  exact ⟨h, SeqAt.canLay_of_shaped h.1, SeqAt.canLay_of_shaped h.2⟩
theorem o_eq (hu : X.A.units + 64 < cLine) : OpR X (compareOp .Eq) (rM X.K c (lift2 fEq)) := by
  refine lift2_op (op_eqD hu) fun x y d1 d2 o H Q L r1 r2 e => ?_
  unfold fEq at e
  split at e <;> cases e
  rename_i h
  obtain ⟨⟨h1, h2⟩, h3, h4⟩ := sh2 h
  exact ⟨(by first | exact noVal | exact noNew), fun p => ⟨_, _, r1.dp h3, r2.dp h4, h1, h2, p.scal (.bl _)⟩⟩
theorem o_ne (hu : X.A.units + 64 < cLine) : OpR X (compareOp .NotEq) (rM X.K c (lift2 fNe)) := by
  refine lift2_op (op_neD hu) fun x y d1 d2 o H Q L r1 r2 e => ?_
  unfold fNe at e
  split at e <;> cases e
  rename_i h
  obtain ⟨⟨h1, h2⟩, h3, h4⟩ := sh2 h
  exact ⟨(by first | exact noVal | exact noNew), fun p => ⟨_, _, r1.dp h3, r2.dp h4, h1, h2, p.scal (.bl _)⟩⟩
theorem o_cmp {op : CmpOp} {f : Int → Int → Bool} (ho : OpR X (compareOp op) (rI0 fun i j => .bl (f i j))) : OpR X (compareOp op) (rM X.K c (lift2 (fCmp f))) := by
  refine lift2_op ho fun x y d1 d2 o H Q L r1 r2 e => ?_
  cases d1 <;> cases d2 <;> simp only [fCmp] at e <;> try cases e
  cases r1.int; cases r2.int
  exact ⟨(by first | exact noVal | exact noNew), fun p => ⟨_, _, rfl, rfl, p.scal (.bl _)⟩⟩
theorem o_lt : OpR X (compareOp .Lt) (rM X.K c (lift2 fLt)) := o_cmp op_lt
theorem o_le : OpR X (compareOp .LtE) (rM X.K c (lift2 fLe)) := o_cmp op_le
theorem o_gt : OpR X (compareOp .Gt) (rM X.K c (lift2 fGt)) := o_cmp op_gt
theorem o_ge : OpR X (compareOp .GtE) (rM X.K c (lift2 fGe)) := o_cmp op_ge
theorem none_rd {K : PySem.W.Frag} {H : Hp} {x : V} {d : PD} (r : Rd1 K H x d) : decide (x = V.non) = isNoneD d := by
  cases d with
  | none => cases r.non; rfl
  | bool b => cases r.bl; rfl
  | int b => cases r.int; rfl
  | str b => cases r.str; rfl
  | list b => obtain ⟨a, xs, rfl, _⟩ := r.lst; rfl
  | tuple b => obtain ⟨a, xs, rfl, _⟩ := r.tup; rfl
  | dict b =>
    generalize e : PyData.dict b = d at r
    cases r with
    | rp h =>
      cases h with
      | scr hs => rfl
      | ptu _ _ _ => rfl
      | dnl _ _ => rfl
      | exc _ _ _ _ => rfl
      | fn _ => rfl
      | ty _ => rfl
      | ins _ _ _ => rfl
      | _ => cases e
    | ls _ _ => cases e
theorem o_is : OpR X (compareOp .Is) (rM X.K c (lift2 fIs)) := by
  refine lift2_op (op_isN.or op_isBl) fun x y d1 d2 o H Q L r1 r2 e => ?_
  unfold fIs at e
  split at e <;> cases e
  · cases r2.non
    exact ⟨(by first | exact noVal | exact noNew), fun p => .inl ⟨rfl, p.scal (by rw [none_rd r1]; exact .bl _)⟩⟩
  · cases r1.bl; cases r2.bl
    exact ⟨(by first | exact noVal | exact noNew), fun p => .inr ⟨_, _, rfl, rfl, p.scal (.bl _)⟩⟩
theorem o_isn : OpR X (compareOp .IsNot) (rM X.K c (lift2 fIsN)) := by
  refine lift2_op (op_notN.or op_notBl) fun x y d1 d2 o H Q L r1 r2 e => ?_
  unfold fIsN at e
  split at e <;> cases e
  · cases r2.non
    exact ⟨(by first | exact noVal | exact noNew), fun p => .inl ⟨rfl, p.scal (by rw [none_rd r1]; exact .bl _)⟩⟩
  · cases r1.bl; cases r2.bl
    exact ⟨(by first | exact noVal | exact noNew), fun p => .inr ⟨_, _, rfl, rfl, p.scal (.bl _)⟩⟩
theorem o_in (hu : X.A.units + 65 < cLine) : OpR X (compareOp .In) (rM X.K c (lift2 fIn)) := by
  refine lift2_op ((op_inD hu).or op_in_str) fun x y d1 d2 o H Q L r1 r2 e => ?_
  unfold fIn at e
  split at e
  · split at e <;> cases e
    rename_i h
    obtain ⟨⟨h1, h2⟩, h3, h4⟩ := sh2 h
    exact ⟨(by first | exact noVal | exact noNew), fun p => .inl ⟨_, _, r1.dp h3, r2.dp h4, h1, h2, p.scal (.bl _)⟩⟩
  · cases e
    cases r1.str; cases r2.str
    exact ⟨(by first | exact noVal | exact noNew), fun p => .inr ⟨_, _, rfl, rfl, p.scal (.bl _)⟩⟩
  · cases e
theorem o_notin (hu : X.A.units + 65 < cLine) : OpR X (compareOp .NotIn) (rM X.K c (lift2 fNotIn)) := by
  refine lift2_op ((op_notInD hu).or op_notIn_str) fun x y d1 d2 o H Q L r1 r2 e => ?_
  unfold fNotIn at e
  split at e
  · split at e <;> cases e
    rename_i h
    obtain ⟨⟨h1, h2⟩, h3, h4⟩ := sh2 h
    exact ⟨(by first | exact noVal | exact noNew), fun p => .inl ⟨_, _, r1.dp h3, r2.dp h4, h1, h2, p.scal (.bl _)⟩⟩
  · cases e
    cases r1.str; cases r2.str
    exact ⟨(by first | exact noVal | exact noNew), fun p => .inr ⟨_, _, rfl, rfl, p.scal (.bl _)⟩⟩
  · cases e
theorem o_ix : IxR X (rM X.K c (lift2 fIx)) := by
  refine lift2_ix (ix_list.or ix_tup) fun x y d1 d2 o H Q L r1 r2 e => ?_
  unfold fIx at e
  split at e
  · rename_i ds i
    cases e1 : atI ds i with
    | none => rw [e1] at e; cases e
    | some d =>
      rw [e1] at e; cases e
      obtain ⟨a, xs, rfl, ha, ra⟩ := r1.lst
      cases r2.int
      obtain ⟨v, h1, h2⟩ := atI_rp ra e1
      exact ⟨(by first | exact noVal | exact noNew), fun p => .inl ⟨a, xs, _, v, rfl, rfl, rd_sqL ha, h1, p.scal h2⟩⟩
  · rename_i ds i
    cases e1 : atI ds i with
    | none => rw [e1] at e; cases e
    | some d =>
      rw [e1] at e; cases e
      obtain ⟨a, xs, rfl, ha, ra⟩ := r1.tup
      cases r2.int
      obtain ⟨v, h1, h2⟩ := atI_rp ra e1
      exact ⟨(by first | exact noVal | exact noNew), fun p => .inr ⟨a, xs, _, v, rfl, rfl, ha, h1, p.scal h2⟩⟩
  · cases e
def liftS (f : PD → Option Int → Option Int → Option Opd) : Opd → Option Int → Option Int → M Opd := fun o lo hi ε => match (rdO ε o).bind fun d => f d lo hi with
  | some r => .ok r ε
  | none => .stuck
theorem cutV_whole {xs : List V} {lo hi : Option Int} (h : HT.sIx xs.length 0 lo = 0 ∧ HT.sIx xs.length xs.length hi = xs.length) : cutV xs lo hi = xs := by
  unfold cutV
  rw [h.1, h.2]
  simp
theorem o_sl : L2.SlR X (sM X.K c (liftS fSl)) := by
  refine sl_imp ((sl_list.or sl_tupA).or sl_str) fun x lo hi H Q L ⟨ε, σ, o1, S, r1, p⟩ => ?_
  unfold liftS at p
  cases e1 : rdO ε o1 with
  | none => simp only [e1, Option.bind_none] at p; exact p.elim
  | some d1 =>
    have rd := r1.rd S e1
    cases e3 : fSl d1 lo hi with
    | none => simp only [e1, e3, Option.bind_some] at p; exact p.elim
    | some o =>
      simp only [e1, e3, Option.bind_some] at p
      unfold fSl at e3
      split at e3
      · cases e3
        obtain ⟨a, xs, rfl, ha, ra⟩ := rd.lst
        exact .inl (.inl ⟨a, xs, rfl, rd_sqL ha, fun q hq => PostP.nlst (PostP.of S (by first | exact noVal | exact noNew) p) (cut_rp ra lo hi) hq⟩)
      · cases e3
        obtain ⟨a, xs, rfl, ha, ra⟩ := rd.tup
        have pp := PostP.of S noVal p
        refine .inl (.inr ⟨a, xs, rfl, ha, fun w => ?_, fun w q hq => pp.ntup (cut_rp ra lo hi) hq⟩)
        have q := cut_rp ra lo hi
        rw [cutV_whole w] at q
        exact pp.scal (.tup ha q)
      · split at e3 <;> cases e3
        rename_i h
        cases rd.str
        exact .inr ⟨_, rfl, big_line h, PostP.scal (PostP.of S (by first | exact noVal | exact noNew) p) (.str _)⟩
      · cases e3
theorem c_len : CallR X (.builtin "len") (cM X.K c (liftN fLen)) := by
  refine liftN_call call_len fun xs ds o H Q L r e => ?_
  unfold fLen at e
  split at e
  · cases e
    obtain ⟨x, rfl, q1⟩ := r.one
    obtain ⟨a, xs, rfl, ha, ra⟩ := q1.lst
    exact ⟨(by first | exact noVal | exact noNew), fun p => ⟨_, _, rfl, .inl ⟨xs, rd_sqL ha, rfl⟩, p.scal (by rw [ra.length]; exact .int _)⟩⟩
  · cases e
    obtain ⟨x, rfl, q1⟩ := r.one
    obtain ⟨a, xs, rfl, ha, ra⟩ := q1.tup
    exact ⟨(by first | exact noVal | exact noNew), fun p => ⟨_, _, rfl, .inr ⟨xs, ha, rfl⟩, p.scal (by rw [ra.length]; exact .int _)⟩⟩
  · split at e <;> cases e
    rename_i h
    obtain ⟨x, rfl, q1⟩ := r.one
    cases q1.str
    exact ⟨(by first | exact noVal | exact noNew), fun p => ⟨_, _, rfl, ⟨big_line h, rfl⟩, p.scal (.int _)⟩⟩
  · cases e
theorem c_all (hc : X.calm = true) : CallR X (.builtin "all") (cM X.K c (liftN fAll)) := by
  refine liftN_call (cr_all hc) fun xs ds o H Q L r e => ?_
  unfold fAll at e
  split at e
  · rename_i ds
    cases e1 : boolsOf ds with
    | none => rw [e1] at e; cases e
    | some bs =>
      rw [e1] at e; cases e
      obtain ⟨x, rfl, q1⟩ := r.one
      obtain ⟨a, xs, rfl, ha, ra⟩ := q1.lst
      exact ⟨(by first | exact noVal | exact noNew), fun p => ⟨a, bs, rfl, by rw [← bools_ok e1 ra]; exact rd_sqL ha, p.scal (.bl _)⟩⟩
  · cases e
theorem c_any (hc : X.calm = true) : CallR X (.builtin "any") (cM X.K c (liftN fAny)) := by
  refine liftN_call (cr_any hc) fun xs ds o H Q L r e => ?_
  unfold fAny at e
  split at e
  · rename_i ds
    cases e1 : boolsOf ds with
    | none => rw [e1] at e; cases e
    | some bs =>
      rw [e1] at e; cases e
      obtain ⟨x, rfl, q1⟩ := r.one
      obtain ⟨a, xs, rfl, ha, ra⟩ := q1.lst
      exact ⟨(by first | exact noVal | exact noNew), fun p => ⟨a, bs, rfl, by rw [← bools_ok e1 ra]; exact rd_sqL ha, p.scal (.bl _)⟩⟩
  · cases e
theorem c_sum (hc : X.calm = true) : CallR X (.builtin "sum") (cM X.K c (liftN fSum)) := by
  refine liftN_call (cr_sum hc) fun xs ds o H Q L r e => ?_
  unfold fSum at e
  split at e
  · rename_i ds
    cases e1 : intsOf ds with
    | none => rw [e1] at e; cases e
    | some bs =>
      rw [e1] at e; cases e
      obtain ⟨x, rfl, q1⟩ := r.one
      obtain ⟨a, xs, rfl, ha, ra⟩ := q1.lst
      exact ⟨(by first | exact noVal | exact noNew), fun p => ⟨a, bs, rfl, by rw [← ints_ok e1 ra]; exact rd_sqL ha, p.scal (.int _)⟩⟩
  · cases e
theorem c_max2 (hc : X.calm = true) : CallR X (.builtin "max") (cM X.K c (liftN fMax2)) := by
  refine liftN_call (call_max2 hc) fun xs ds o H Q L r e => ?_
  unfold fMax2 at e
  split at e <;> cases e
  obtain ⟨x, y, rfl, r1, r2⟩ := r.two
  cases r1.int; cases r2.int
  exact ⟨(by first | exact noVal | exact noNew), fun p => ⟨_, _, rfl, p.scal (.int _)⟩⟩
theorem c_min2 (hc : X.calm = true) : CallR X (.builtin "min") (cM X.K c (liftN fMin2)) := by
  refine liftN_call (call_min2 hc) fun xs ds o H Q L r e => ?_
  unfold fMin2 at e
  split at e <;> cases e
  obtain ⟨x, y, rfl, r1, r2⟩ := r.two
  cases r1.int; cases r2.int
  exact ⟨(by first | exact noVal | exact noNew), fun p => ⟨_, _, rfl, p.scal (.int _)⟩⟩
theorem c_tuple : CallR X (.type "tuple") (cM X.K c (liftN fTuple)) := by
  refine liftN_call call_tuple_of fun xs ds o H Q L r e => ?_
  unfold fTuple at e
  split at e <;> cases e
  · obtain ⟨x, rfl, q1⟩ := r.one
    obtain ⟨a, xs, rfl, ha, ra⟩ := q1.lst
    exact ⟨(by first | exact noVal | exact noNew), fun p => ⟨a, xs, rfl, .inl ⟨rd_sqL ha, fun q hq => p.ntup ra hq⟩⟩⟩
  · obtain ⟨x, rfl, q1⟩ := r.one
    obtain ⟨a, xs, rfl, ha, ra⟩ := q1.tup
    exact ⟨(by first | exact noVal | exact noNew), fun p => ⟨a, xs, rfl, .inr ⟨ha, p.scal (.tup ha ra)⟩⟩⟩
theorem c_list : CallR X (.type "list") (cM X.K c (liftN fList)) := by
  refine liftN_call call_list_of fun xs ds o H Q L r e => ?_
  unfold fList at e
  split at e <;> cases e
  · obtain ⟨x, rfl, q1⟩ := r.one
    obtain ⟨a, xs, rfl, ha, ra⟩ := q1.lst
    exact ⟨(by first | exact noVal | exact noNew), fun p => ⟨a, xs, rfl, .inl (rd_sqL ha), fun q hq => p.nlst ra hq⟩⟩
  · obtain ⟨x, rfl, q1⟩ := r.one
    obtain ⟨a, xs, rfl, ha, ra⟩ := q1.tup
    exact ⟨(by first | exact noVal | exact noNew), fun p => ⟨a, xs, rfl, .inr ha, fun q hq => p.nlst ra hq⟩⟩
theorem c_int : CallR X (.type "int") (cM X.K c (liftN fInt)) := by
  refine liftN_call call_int1 fun xs ds o H Q L r e => ?_
  unfold fInt at e
  split at e <;> cases e
  · obtain ⟨x, rfl, q1⟩ := r.one
    cases q1.int
    exact ⟨(by first | exact noVal | exact noNew), fun p => .inl ⟨_, rfl, p.scal (.int _)⟩⟩
  · obtain ⟨x, rfl, q1⟩ := r.one
    cases q1.bl
    exact ⟨(by first | exact noVal | exact noNew), fun p => .inr ⟨_, rfl, p.scal (.int _)⟩⟩

/-! ### isinstance(x, T) -/
inductive Ti where | int | bool | tuple | str | list
def Ti.nm : Ti → String
  | .int => "int"
  | .bool => "bool"
  | .tuple => "tuple"
  | .str => "str"
  | .list => "list"
def tyN : PD → Option String
  | .none => some "NoneType"
  | .bool _ => some "bool"
  | .int _ => some "int"
  | .str _ => some "str"
  | .list _ => some "list"
  | .tuple _ => some "tuple"
  | .dict _ => none
def isTi : Ti → PD → Bool
  | .int, .int _ => true
  | .int, .bool _ => true
  | .bool, .bool _ => true
  | .tuple, .tuple _ => true
  | .str, .str _ => true
  | .list, .list _ => true
  | _, _ => false
def fIsi (T : Ti) (d : PD) : Option Opd := (tyN d).map fun _ => .val (.bool (isTi T d))
theorem rd_ty {K : PySem.W.Frag} {H : Hp} {x : V} {d : PD} {n : String} (r : Rd1 K H x d) (e : tyN d = some n) : TyX K H x (.type n) := by
  cases d with
  | none => cases e; cases r.non; exact .base .non
  | bool b => cases e; cases r.bl; exact .base (.bl b)
  | int b => cases e; cases r.int; exact .base (.int b)
  | str b => cases e; cases r.str; exact .base (.str b)
  | list b =>
    cases e
    obtain ⟨a, xs, rfl, ha, _⟩ := r.lst
    rcases ha with ha | ⟨o, ha⟩
    · exact .base (.lst ha)
    · exact .base (.frz ha)
  | tuple b =>
    cases e
    obtain ⟨a, xs, rfl, ha, _⟩ := r.tup
    rcases ha with (ha | ⟨o, ha⟩) | ⟨o, its, n, hk, hc, _⟩
    · exact .base (.tup ha)
    · exact .fTuple ha
    · exact .kTuple hk hc
  | dict b => cases e
theorem kit_isi (T : Ti) (d : PD) (n : String) (e : tyN d = some n) : kitB n T.nm = some (isTi T d) := by
  cases d <;> cases e <;> cases T <;> kernel_rfl
theorem je_isi {a : Expr} {ma : M Opd} {x : Str} {p p2 pos : Pos} (T : Ti) (ha : JE X c a ma) (hg : Gl X "isinstance") (hm : X.mg "isinstance" = none) (hg2 : Gl X x) (hm2 : X.mg x = none) (hv2 : bootBuiltins x = some (.type T.nm))
    (hn : x ≠ "__name__" := by decide) (hdb : (x == ("__debug__" : Str)) = false := by decide)
    (h1 : starEach [a, .Name x p2] X.env = (false, eval a X.env) :: starEach [.Name x p2] X.env := by rfl) (h2 : starEach [.Name x p2] X.env = (false, eval (.Name x p2) X.env) :: starEach [] X.env := by rfl)
    (hpl : (backTo pos (starEach [.Name x p2] X.env)).any (·.1) = false := by rfl) : JE X c (.Call (.Name "isinstance" p) [a, .Name x p2] [] pos) (mUn (lift1 (fIsi T)) ma) := by
  refine pe_imp (pe_callB call_isi hg hm boot_isinstance (pa_cons ha (pa_cons (pe_bltn hg2 hm2 hv2 (v := .ty T.nm) rfl hn hdb) pa_nil h2) h1) (by decide) (by decide) h1 hpl) fun σ H Q h => ?_
  refine (show ∀ {P}, tM X.K c ma σ H P → _ from fun {P} z => z) ?_
  have h' := un_read σ H Q h
  obtain ⟨ε, S, h'⟩ := h'
  refine ⟨ε, S, ?_⟩
  cases e : ma ε with
  | stuck => rw [e] at h'; exact h'
  | exc C ε' => rw [e] at h'; exact h'
  | ok o ε1 =>
    rw [e] at h'
    intro v H1 t1 S1 r1 n1
    obtain ⟨ε2, σ2, o2, S2, r2, p⟩ := h' v H1 t1 S1 r1 n1
    unfold lift1 at p
    cases e1 : rdO ε2 o2 with
    | none => simp only [e1, Option.bind_none] at p; exact p.elim
    | some d1 =>
      have rd := r2.rd S2 e1
      cases e2 : tyN d1 with
      | none => simp only [e1, fIsi, e2, Option.bind_some, Option.map_none] at p; exact p.elim
      | some n =>
        simp only [e1, fIsi, e2, Option.bind_some, Option.map_some] at p
        exact ⟨v, .ty T.nm, _, _, _, rfl, .ty _, rd_ty rd e2, kit_ty (kit_isi T d1 n e2), PostP.scal (PostP.of S2 (by first | exact noVal | exact noNew) p) (.bl _)⟩
end
end MM

/-! ML5: the mirrors of statements. -/
namespace MM
open PySem PySem.Spec PyProof.Rows L2

/-- an address of a slot that is lent -/
def IoO (ε : En) (σ : L2.St) (H : Hp) (b : Addr) : Prop := ∃ (i : Nat) (o : Ob) (ov : Option V), ε[i]? = some (.io o) ∧ σ[i]? = some ov ∧ SlF H (.io o) ov b
inductive Fl where
  | nx
  | rt (d : PD)
  /-- a new object is returned -/
  | rn (ob : Ob)
  | bk
  | ct
def PostS (K : PySem.W.Frag) (c : Mc) (res : Out Fl) (ε : En) (σ : L2.St) (H : Hp) (D : Ends) : Prop := match res with
  | .ok .nx ε' => ∀ σ' H', Step ε σ H ε' σ' H' → SR K c ε' σ' H' → D.nx σ' H'
  | .ok (.rt d) ε' => ∀ v σ' H', Step ε σ H ε' σ' H' → SR K c ε' σ' H' → Rp K H' v d → D.rt v H'
  | .ok (.rn ob) ε' => ∀ v σ' H', Step ε σ H ε' σ' H' → SR K c ε' σ' H' → ObR K H' ob v → (∀ b, Ft H' ob v b → c.H0 b = none ∧ ¬ IoO ε' σ' H' b) → D.rt v H'
  | .ok .bk ε' => ∀ σ' H', Step ε σ H ε' σ' H' → SR K c ε' σ' H' → D.bk σ' H'
  | .ok .ct ε' => ∀ σ' H', Step ε σ H ε' σ' H' → SR K c ε' σ' H' → D.ct σ' H'
  | .exc C ε' => ∀ σ' H', Step ε σ H ε' σ' H' → SR K c ε' σ' H' → c.W C ε' σ' H'
  | .stuck => False
def tS (K : PySem.W.Frag) (c : Mc) (m : M Fl) : TS := fun D σ H => ∃ ε, SR K c ε σ H ∧ PostS K c (m ε) ε σ H D
abbrev JS (X : Cx) (c : Mc) (st : Stmt) (m : M Fl) : Prop := PS X st (tS X.K c m)
abbrev JB (X : Cx) (c : Mc) (sts : List Stmt) (m : M Fl) : Prop := PSs X sts (tS X.K c m)
theorem ps_imp {X : Cx} {st : Stmt} {t t' : TS} (h : PS X st t) (i : ∀ D σ H, t' D σ H → t D σ H) : PS X st t' := ⟨fun pins s σ H D I w => h.run pins s σ H D I (i D σ H w)⟩
theorem pss_imp {X : Cx} {st : List Stmt} {t t' : TS} (h : PSs X st t) (i : ∀ D σ H, t' D σ H → t D σ H) : PSs X st t' := ⟨fun pins s σ H D I w => h.run pins s σ H D I (i D σ H w)⟩

section
variable {K : PySem.W.Frag} {c : Mc} {ε ε1 : En} {σ σ1 : L2.St} {H H1 : Hp}
theorem PostS.step {res : Out Fl} {D : Ends} (t : Step ε σ H ε1 σ1 H1) (h : PostS K c res ε σ H D) : PostS K c res ε1 σ1 H1 D := by
  cases res with
  | ok f ε' =>
    cases f with
    | nx => exact fun σ' H' a b => h σ' H' (t.trans a) b
    | rt d => exact fun v σ' H' a b => h v σ' H' (t.trans a) b
    | rn ob => exact fun v σ' H' a b => h v σ' H' (t.trans a) b
    | bk => exact fun σ' H' a b => h σ' H' (t.trans a) b
    | ct => exact fun σ' H' a b => h σ' H' (t.trans a) b
  | exc C ε' => exact fun σ' H' a b => h σ' H' (t.trans a) b
  | stuck => exact h
/-- the ends weakened -/
theorem PostS.mono {res : Out Fl} {D D' : Ends} (h : PostS K c res ε σ H D) (h1 : ∀ σ H, D.nx σ H → D'.nx σ H) (h2 : ∀ v H, D.rt v H → D'.rt v H) (h3 : ∀ σ H, D.bk σ H → D'.bk σ H) (h4 : ∀ σ H, D.ct σ H → D'.ct σ H) : PostS K c res ε σ H D' := by
  cases res with
  | ok f ε' =>
    cases f with
    | nx => exact fun σ' H' a b => h1 _ _ (h σ' H' a b)
    | rt d => exact fun v σ' H' a b r => h2 _ _ (h v σ' H' a b r)
    | rn ob => exact fun v σ' H' a b r f => h2 _ _ (h v σ' H' a b r f)
    | bk => exact fun σ' H' a b => h3 _ _ (h σ' H' a b)
    | ct => exact fun σ' H' a b => h4 _ _ (h σ' H' a b)
  | exc C ε' => exact h
  | stuck => exact h
/-- behind an expression -/
theorem expr_then {m : M Opd} {f : Opd → M Fl} {D : Ends} {Q : VK} (h : PostS K c ((m ε).bind f) ε σ H D) (hQ : ∀ o ε1 v H1, m ε = .ok o ε1 → Step ε σ H ε1 σ H1 → SR K c ε1 σ H1 → RO K c ε1 σ H1 o v → NewIn H H1 o v → PostS K c (f o ε1) ε1 σ H1 D → Q v H1) : PostE K c (m ε) ε σ H Q := by
  cases e : m ε with
  | stuck => rw [e] at h; exact h
  | exc C ε' => rw [e] at h; exact fun H' a b => h σ H' a b
  | ok o ε1 =>
    rw [e, Out.bind_ok] at h
    exact fun v H1 t S r n => hQ o ε1 v H1 e t S r n (PostS.step t h)
theorem val_then {m : M PD} {f : PD → M Fl} {D : Ends} {Q : VK} (h : PostS K c ((m ε).bind f) ε σ H D) (hQ : ∀ o ε1 v H1, m ε = .ok o ε1 → Step ε σ H ε1 σ H1 → SR K c ε1 σ H1 → Rp K H1 v o → PostS K c (f o ε1) ε1 σ H1 D → Q v H1) : PostV K c (m ε) ε σ H Q := by
  cases e : m ε with
  | stuck => rw [e] at h; exact h
  | exc C ε' => rw [e] at h; exact fun H' a b => h σ H' a b
  | ok o ε1 =>
    rw [e, Out.bind_ok] at h
    exact fun v H1 t S r => hQ o ε1 v H1 e t S r (PostS.step t h)
theorem row_then {m : M (List Opd)} {f : List Opd → M Fl} {D : Ends} {Q : List V → Hp → Prop} (h : PostS K c ((m ε).bind f) ε σ H D) (hQ : ∀ o ε1 v H1, m ε = .ok o ε1 → Step ε σ H ε1 σ H1 → SR K c ε1 σ H1 → ROs K c ε1 σ H1 o v → NewO H H1 o v → PostS K c (f o ε1) ε1 σ H1 D → Q v H1) : PostO K c (m ε) ε σ H Q := by
  cases e : m ε with
  | stuck => rw [e] at h; exact h
  | exc C ε' => rw [e] at h; exact fun H' a b => h σ H' a b
  | ok o ε1 =>
    rw [e, Out.bind_ok] at h
    exact fun v H1 t S r n => hQ o ε1 v H1 e t S r n (PostS.step t h)
end

section
variable {X : Cx} {c : Mc} {pos : Pos}
/-! ### blocks -/
def sNil : M Fl := fun ε => .ok .nx ε
def sSeq (m1 m2 : M Fl) : M Fl := fun ε => (m1 ε).bind fun f ε1 => match f with
  | .nx => m2 ε1
  | f => .ok f ε1
theorem jb_nil : JB X c [] sNil := pss_imp pss_nil fun D σ H ⟨ε, S, h⟩ => h σ H .refl S
theorem jb_one {st : Stmt} {m : M Fl} (h : JS X c st m) : JB X c [st] m := pss_one h
theorem jb_cons {st : Stmt} {sts : List Stmt} {m1 m2 : M Fl} (h1 : JS X c st m1) (h2 : JB X c sts m2) : JB X c (st :: sts) (sSeq m1 m2) :=
  pss_imp (pss_cons h1 h2) fun D σ H ⟨ε, S, h⟩ => by
    refine ⟨ε, S, ?_⟩
    unfold sSeq at h
    cases e : m1 ε with
    | stuck => rw [e] at h; exact h
    | exc C ε' => rw [e] at h; exact h
    | ok f ε1 =>
      rw [e, Out.bind_ok] at h
      cases f with
      | nx => exact fun σ1 H1 t S1 => ⟨ε1, S1, PostS.step t h⟩
      | rt d => exact h
      | rn ob => exact h
      | bk => exact h
      | ct => exact h
theorem js_pass : JS X c (.Pass pos) sNil := ps_imp ps_pass fun D σ H ⟨ε, S, h⟩ => h σ H .refl S
def sBrk : M Fl := fun ε => .ok .bk ε
theorem js_break : JS X c (.Break pos) sBrk := ps_imp ps_break fun D σ H ⟨ε, S, h⟩ => h σ H .refl S
/-- what the mirror never comes to -/
def sNever : M Fl := fun _ => .stuck
theorem js_never {st : Stmt} : JS X c st sNever := ⟨fun _ _ _ _ _ _ ⟨_, _, h⟩ => h.elim⟩
def sDrop (m : M Opd) : M Fl := fun ε => (m ε).bind fun _ ε1 => .ok .nx ε1
theorem js_expr {e : Expr} {m : M Opd} (h : JE X c e m) (hs : swapsWith e none pos.line X.env = pure false := by rfl) : JS X c (.Expr e pos) (sDrop m) :=
  ps_imp (ps_expr h hs) fun D σ H ⟨ε, S, h⟩ => ⟨ε, S, expr_then h fun _ _ _ H1 _ t S1 _ _ p => p σ H1 .refl S1⟩
def sRet (m : M PD) : M Fl := fun ε => (m ε).bind fun d ε1 => .ok (.rt d) ε1
theorem js_ret {e : Expr} {m : M PD} (h : JV X c e m) : JS X c (.Return (some e) pos) (sRet m) :=
  ps_imp (ps_ret h) fun D σ H ⟨ε, S, h⟩ => ⟨ε, S, val_then h fun _ _ v H1 _ t S1 r p => p v σ H1 .refl S1 r⟩
/-- what is returned may be a new object, or a name's own -/
def retO : Opd → M Fl
  | .val d => fun ε => .ok (.rt d) ε
  | .new ob => fun ε => .ok (.rn ob) ε
  | .own k => fun ε => match ε[k]? with
    | some (.ow ob) => .ok (.rn ob) ε
    | _ => .stuck
def sRetO (m : M Opd) : M Fl := fun ε => (m ε).bind retO
theorem js_retO {e : Expr} {m : M Opd} (h : JE X c e m) : JS X c (.Return (some e) pos) (sRetO m) :=
  ps_imp (ps_ret h) fun D σ H ⟨ε, S, h⟩ => ⟨ε, S, expr_then h fun o ε1 v H1 _ t S1 r _ p => by
    cases o with
    | val d => exact p v σ H1 .refl S1 r
    | new ob => exact p v σ H1 .refl S1 r.1 fun b f => ⟨(r.2 b f).1, fun ⟨i, o, ov, e1, e2, g⟩ => (r.2 b f).2 ⟨i, _, ov, e1, e2, g⟩⟩
    | own k =>
      have p : PostS X.K c (match ε1[k]? with
        | some (.ow ob) => (.ok (.rn ob) ε1 : Out Fl)
        | _ => .stuck) ε1 σ H1 D := p
      split at p
      · rename_i ob e0
        have r' : σ[k]? = some (some v) := r
        refine p v σ H1 .refl S1 (S1.rel k _ _ e0 r') fun b f => ⟨S1.ows k _ _ b e0 r' f (fun o z => nomatch z), fun ⟨i, o, ov, e1, e2, g⟩ => ?_⟩
        have q := S1.dis k i _ _ _ _ b e0 r' f e1 e2 g
        subst q
        rw [e0] at e1; cases e1
      · exact p.elim⟩
def sRetN : M Fl := fun ε => .ok (.rt .none) ε
theorem js_retN : JS X c (.Return none pos) sRetN := ps_imp ps_retN fun D σ H ⟨ε, S, h⟩ => h _ σ H .refl S .non
def sIf (t : M Bool) (a b : M Fl) : M Fl := fun ε => (t ε).bind fun k ε1 => if k = true then a ε1 else b ε1
theorem js_if {t : Expr} {a b : List Stmt} {mt : M Bool} {ma mb : M Fl} (ht : JT X c t mt) (ha : JB X c a ma) (hb : JB X c b mb) : JS X c (.If t a b pos) (sIf mt ma mb) :=
  ps_imp (ps_if ht ha hb) fun D σ H ⟨ε, S, h⟩ => by
    refine ⟨ε, S, ?_⟩
    unfold sIf at h
    cases e : mt ε with
    | stuck => rw [e] at h; exact h
    | exc C ε' => rw [e] at h; exact fun H' a b => h σ H' a b
    | ok k ε1 =>
      rw [e, Out.bind_ok] at h
      intro H1 t1 S1
      cases k with
      | true => exact ⟨ε1, S1, PostS.step t1 h⟩
      | false => exact ⟨ε1, S1, PostS.step t1 h⟩

/-! ### stores -/
/-- a slot takes what came -/
def sto (i : Nat) (o : Opd) (ε : En) : Option En := match ε[i]? with
  | some (.io _) => none
  | none => none
  | some _ => match o with
    | .val d => some (ε.set i (.p d))
    | .new ob => some (ε.set i (.ow ob))
    | .own _ => none
def stos : List Nat → List Opd → En → Option En
  | [], [], ε => some ε
  | i :: is, o :: os, ε => (sto i o ε).bind (stos is os)
  | _, _, _ => none
theorem sto_ok {K : PySem.W.Frag} {i : Nat} {o : Opd} {ε ε' : En} {σ : L2.St} {H : Hp} {v : V} (S : SR K c ε σ H) (r : RO K c ε σ H o v) (e : sto i o ε = some ε') :
    SR K c ε' (σ.set i (some v)) H ∧ (∀ b, Own ε' (σ.set i (some v)) H b → Own ε σ H b ∨ FtO H o v b) ∧ ε'.length = ε.length := by
  have own : ∀ (sl' : Sl) (b : Addr), Own (ε.set i sl') (σ.set i (some v)) H b → Own ε σ H b ∨ SlF H sl' (some v) b := fun sl' b ⟨j, slj, ovj, e1, e2, f⟩ => by
    rcases get_set e1 with ⟨z, z'⟩ | ⟨z, z'⟩
    · subst z z'
      rcases get_set e2 with ⟨_, w⟩ | ⟨w, _⟩
      · subst w; exact .inr f
      · exact absurd rfl w
    · rcases get_set e2 with ⟨w, _⟩ | ⟨_, w⟩
      · exact absurd w z
      · exact .inl ⟨j, slj, ovj, z', w, f⟩
  cases hs : ε[i]? with
  | none => simp only [sto, hs] at e; cases e
  | some sl =>
    have ni : notIo sl := by cases sl <;> first | trivial | (simp only [sto, hs] at e; cases e)
    cases o with
    | own k => cases sl <;> simp only [sto, hs] at e <;> cases e
    | val d =>
      have e' : ε' = ε.set i (.p d) := by cases sl <;> simp only [sto, hs] at e <;> cases e <;> rfl
      subst e'
      exact ⟨S.put (sl' := .p d) hs ni r (fun b f => f.elim), fun b w => (own _ b w).imp id fun z => z.elim, by rw [List.length_set]⟩
    | new ob =>
      have e' : ε' = ε.set i (.ow ob) := by cases sl <;> simp only [sto, hs] at e <;> cases e <;> rfl
      subst e'
      exact ⟨S.put (sl' := .ow ob) hs ni r.1 r.2, fun b w => own _ b w, by rw [List.length_set]⟩
theorem stos_ok {K : PySem.W.Frag} {Hs : Hp} : ∀ {is : List Nat} {os : List Opd} {vs : List V} {ε ε' : En} {σ : L2.St} {H : Hp}, SR K c ε σ H → ROs K c ε σ H os vs → NewO Hs H os vs → stos is os ε = some ε' →
    ∃ σ', σ' = (is.zip vs).foldl (fun s p => s.set p.1 (some p.2)) σ ∧ SR K c ε' σ' H ∧ ∀ b, Own ε' σ' H b → Own ε σ H b ∨ Hs b = none
  | [], _, _, ε, ε', σ, H, S, .nil, n, e => by cases e; exact ⟨σ, rfl, S, fun b w => .inl w⟩
  | i :: is, _, _, ε, ε', σ, H, S, .nil, n, e => by cases e
  | [], _, _, ε, ε', σ, H, S, .cons r t, n, e => by cases e
  | i :: is, o :: os, v :: vs, ε, ε', σ, H, S, .cons r t, n, e => by
    simp only [stos] at e
    cases e1 : sto i o ε with
    | none => rw [e1] at e; cases e
    | some ε1 =>
      rw [e1] at e
      obtain ⟨S1, w1, _⟩ := sto_ok S r e1
      -- the others stand apart from what was stored
      have key : ∀ {os : List Opd} {vs : List V}, ROs K c ε σ H os vs → (∀ b, FtO H o v b → ∀ q ∈ os.zip vs, ¬ FtO H q.1 q.2 b) → (∀ o' v', RO K c ε σ H o' v' → ∀ k, o' ≠ .own k) → ROs K c ε1 (σ.set i (some v)) H os vs := by
        intro os vs t
        induction t with
        | nil => intro _ _; exact .nil
        | cons r' t' ih =>
          rename_i o' v' os' vs'
          intro d no
          refine .cons ?_ (ih (fun b f q hq => d b f q (by rw [List.zip_cons_cons]; exact List.mem_cons_of_mem _ hq)) no)
          cases o' with
          | val d' => exact r'
          | own k => exact absurd rfl (no _ _ r' k)
          | new ob =>
            refine ⟨r'.1, fun b f => ⟨(r'.2 b f).1, fun w => ?_⟩⟩
            rcases w1 b w with w | w
            · exact (r'.2 b f).2 w
            · exact d b w (.new ob, v') (by rw [List.zip_cons_cons]; exact List.mem_cons_self) f
      have key2 : ROs K c ε1 (σ.set i (some v)) H os vs := by
        have go : ∀ {is : List Nat} {os : List Opd} {vs : List V} {ε0 ε2 : En}, stos is os ε0 = some ε2 → ROs K c ε σ H os vs → (∀ b, FtO H o v b → ∀ q ∈ os.zip vs, ¬ FtO H q.1 q.2 b) → ROs K c ε1 (σ.set i (some v)) H os vs := by
          intro is os vs ε0 ε2 e t
          induction t generalizing is ε0 with
          | nil => intro _; exact .nil
          | cons r' t' ih =>
            rename_i o' v' os' vs'
            intro d
            cases is with
            | nil => cases e
            | cons i' is' =>
              simp only [stos] at e
              cases e3 : sto i' o' ε0 with
              | none => rw [e3] at e; cases e
              | some ε3 =>
                rw [e3] at e
                refine .cons ?_ (ih e (fun b f q hq => d b f q (by rw [List.zip_cons_cons]; exact List.mem_cons_of_mem _ hq)))
                cases o' with
                | val d' => exact r'
                | own k =>
                  unfold sto at e3
                  split at e3 <;> first | cases e3 | exact nomatch e3
                | new ob =>
                  refine ⟨r'.1, fun b f => ⟨(r'.2 b f).1, fun w => ?_⟩⟩
                  rcases w1 b w with w | w
                  · exact (r'.2 b f).2 w
                  · exact d b w (.new ob, v') (by rw [List.zip_cons_cons]; exact List.mem_cons_self) f
        exact go e t fun b f => (n.1 b f).2
      obtain ⟨σ', e', S', w'⟩ := stos_ok (Hs := Hs) S1 key2 n.2 e
      refine ⟨σ', by rw [e', List.zip_cons_cons, List.foldl_cons], S', fun b w => ?_⟩
      rcases w' b w with w | w
      · rcases w1 b w with w | w
        · exact .inl w
        · exact .inr (n.1 b w).1
      · exact .inr w
/-- a store changes no heap -/
theorem step_sto {ε ε' : En} {σ σ' : L2.St} {H : Hp} (w : ∀ b, Own ε' σ' H b → Own ε σ H b ∨ H b = none) : Step ε σ H ε' σ' H := ⟨fun _ _ h _ => h, w, fun _ _ h e => by rw [h] at e; cases e⟩
theorem step_sto2 {ε0 ε ε' : En} {σ0 σ σ' : L2.St} {H0 H : Hp} (t : Step ε0 σ0 H0 ε σ H) (w : ∀ b, Own ε' σ' H b → Own ε σ H b ∨ H0 b = none) : Step ε0 σ0 H0 ε' σ' H :=
  ⟨t.kp, fun b x => (w b x).elim (t.ow b) .inr, t.tr⟩
def sSet (i : Nat) (m : M Opd) : M Fl := fun ε => (m ε).bind fun o ε1 => match sto i o ε1 with
  | some ε2 => .ok .nx ε2
  | none => .stuck
theorem js_set {i : Nat} {x : Str} {e : Expr} {m : M Opd} {pos' : Pos} (hN : X.N.Nodup) (hi : X.N[i]? = some x) (hx : Loc X.env.scope x) (he : JE X c e m) (hs : swapsWith e (some (.Name x pos')) pos.line X.env = pure false := by rfl)
    (hf : X.fn x = true ∨ X.env.scope.names.lookup x = some .local := by first | exact .inl rfl | exact .inr rfl | assumption) : JS X c (.Assign [.Name x pos'] e pos) (sSet i m) :=
  ps_imp (ps_set hN hi hx he hs hf) fun D σ H ⟨ε, S, h⟩ => by
    unfold sSet at h
    refine ⟨ε, S, ?_⟩
    cases e1 : m ε with
    | stuck => rw [e1] at h; exact h
    | exc C ε' => rw [e1] at h; exact fun H' a b => h σ H' a b
    | ok o ε1 =>
      rw [e1, Out.bind_ok] at h
      intro v H1 t S1 r n
      cases e2 : sto i o ε1 with
      | none => simp only [e2] at h; exact h.elim
      | some ε2 =>
        simp only [e2] at h
        obtain ⟨S2, w2, _⟩ := sto_ok S1 r e2
        exact h _ _ (step_sto2 t fun b w => (w2 b w).imp id fun f => by
          cases o with
          | new ob => exact n b f
          | val d => exact f.elim
          | own k => exact f.elim) S2
/-- x op= e, of numbers -/
def sAug (i : Nat) (g : Opd → Opd → M Opd) (m : M Opd) : M Fl := fun ε => (mVar i ε).bind fun o1 ε0 => (m ε0).bind fun o2 ε1 => (g o1 o2 ε1).bind fun o ε2 => match sto i o ε2 with
  | some ε3 => .ok .nx ε3
  | none => .stuck
theorem js_aug {i : Nat} {x : Str} {e : Expr} {m : M Opd} {op : Operator} {g : Opd → Opd → M Opd} {pos' : Pos} (hN : X.N.Nodup) (hi : X.N[i]? = some x) (hx : Loc X.env.scope x) (ho : OpR X (inplaceOp op) (rM X.K c g)) (he : JE X c e m)
    (hf : X.fn x = true ∨ X.env.scope.names.lookup x = some .local := by first | exact .inl rfl | exact .inr rfl | assumption) : JS X c (.AugAssign (.Name x pos') op e pos) (sAug i g m) :=
  ps_imp (ps_aug hN hi hx he (ti := rM X.K c g) (fun pins s σ H x y v u Q I rx ry w => ho pins s σ H x y v u Q I rx ry w) hf) fun D σ H ⟨ε, S, h⟩ => by
    unfold sAug at h
    cases e0 : ε[i]? with
    | none => simp only [mVar, e0, Out.bind_stuck] at h; exact h.elim
    | some sl =>
      cases sl with
      | no => simp only [mVar, e0, Out.bind_stuck] at h; exact h.elim
      | ow ob =>
        obtain ⟨v, hv, _⟩ := S.atO (.inl e0)
        simp only [mVar, e0, Out.bind_ok] at h
        refine ⟨v, hv, ε, S, ?_⟩
        cases e1 : m ε with
        | stuck => simp only [e1, Out.bind_stuck] at h; exact h
        | exc C ε' => simp only [e1, Out.bind_exc] at h; exact fun H' a b => h σ H' a b
        | ok o ε1 =>
          simp only [e1, Out.bind_ok] at h
          intro y H1 t1 S1 r1 n1
          refine ⟨ε1, σ, .own i, o, S1, hv, r1, ?_⟩
          cases e2 : g (.own i) o ε1 with
          | stuck => simp only [e2, Out.bind_stuck] at h; exact h
          | exc C ε' => simp only [e2, Out.bind_exc] at h; exact fun H' a b => h σ H' (t1.trans a) b
          | ok o2 ε2 =>
            simp only [e2, Out.bind_ok] at h
            intro z H2 t2 S2 r2 n2
            cases e3 : sto i o2 ε2 with
            | none => simp only [e3] at h; exact h.elim
            | some ε3 =>
              simp only [e3] at h
              obtain ⟨S3, w3, _⟩ := sto_ok S2 r2 e3
              refine h _ _ (step_sto2 (t1.trans t2) fun b w => (w3 b w).imp id fun f => ?_) S3
              cases o2 with
              | new ob => exact NewIn.step (o := .new ob) t1 n2 b f
              | val d => exact f.elim
              | own k => exact f.elim
      | p d =>
        obtain ⟨v, hv, rd⟩ := S.atP e0
        simp only [mVar, e0, Out.bind_ok] at h
        refine ⟨v, hv, ε, S, ?_⟩
        cases e1 : m ε with
        | stuck => simp only [e1, Out.bind_stuck] at h; exact h
        | exc C ε' => simp only [e1, Out.bind_exc] at h; exact fun H' a b => h σ H' a b
        | ok o ε1 =>
          simp only [e1, Out.bind_ok] at h
          intro y H1 t1 S1 r1 n1
          refine ⟨ε1, σ, .val d, o, S1, Rp.im (S.im t1) _ _ rd, r1, ?_⟩
          cases e2 : g (.val d) o ε1 with
          | stuck => simp only [e2, Out.bind_stuck] at h; exact h
          | exc C ε' => simp only [e2, Out.bind_exc] at h; exact fun H' a b => h σ H' (t1.trans a) b
          | ok o2 ε2 =>
            simp only [e2, Out.bind_ok] at h
            intro z H2 t2 S2 r2 n2
            cases e3 : sto i o2 ε2 with
            | none => simp only [e3] at h; exact h.elim
            | some ε3 =>
              simp only [e3] at h
              obtain ⟨S3, w3, _⟩ := sto_ok S2 r2 e3
              refine h _ _ (step_sto2 (t1.trans t2) fun b w => (w3 b w).imp id fun f => ?_) S3
              cases o2 with
              | new ob => exact NewIn.step (o := .new ob) t1 n2 b f
              | val d => exact f.elim
              | own k => exact f.elim
      | io ob =>
        obtain ⟨v, hv, _⟩ := S.atO (.inr e0)
        simp only [mVar, e0, Out.bind_ok] at h
        refine ⟨v, hv, ε, S, ?_⟩
        cases e1 : m ε with
        | stuck => simp only [e1, Out.bind_stuck] at h; exact h
        | exc C ε' => simp only [e1, Out.bind_exc] at h; exact fun H' a b => h σ H' a b
        | ok o ε1 =>
          simp only [e1, Out.bind_ok] at h
          intro y H1 t1 S1 r1 n1
          refine ⟨ε1, σ, .own i, o, S1, hv, r1, ?_⟩
          cases e2 : g (.own i) o ε1 with
          | stuck => simp only [e2, Out.bind_stuck] at h; exact h
          | exc C ε' => simp only [e2, Out.bind_exc] at h; exact fun H' a b => h σ H' (t1.trans a) b
          | ok o2 ε2 =>
            simp only [e2, Out.bind_ok] at h
            intro z H2 t2 S2 r2 n2
            cases e3 : sto i o2 ε2 with
            | none => simp only [e3] at h; exact h.elim
            | some ε3 =>
              simp only [e3] at h
              obtain ⟨S3, w3, _⟩ := sto_ok S2 r2 e3
              refine h _ _ (step_sto2 (t1.trans t2) fun b w => (w3 b w).imp id fun f => ?_) S3
              cases o2 with
              | new ob => exact NewIn.step (o := .new ob) t1 n2 b f
              | val d => exact f.elim
              | own k => exact f.elim
def fAddI : PD → PD → Option Opd
  | .int i, .int j => some (.val (.int (i + j)))
  | _, _ => none
theorem o_iadd : OpR X (inplaceOp .Add) (rM X.K c (lift2 fAddI)) := by
  refine lift2_op iop_add fun x y d1 d2 o H Q L r1 r2 e => ?_
  cases d1 <;> cases d2 <;> simp only [fAddI] at e <;> try cases e
  cases r1.int; cases r2.int
  exact ⟨noVal, fun p => ⟨_, _, rfl, rfl, p.scal (.int _)⟩⟩
theorem o_isub : OpR X (inplaceOp .Sub) (rM X.K c (lift2 fSub)) := by
  refine lift2_op iop_sub fun x y d1 d2 o H Q L r1 r2 e => ?_
  cases d1 <;> cases d2 <;> simp only [fSub] at e <;> try cases e
  cases r1.int; cases r2.int
  exact ⟨noVal, fun p => ⟨_, _, rfl, rfl, p.scal (.int _)⟩⟩

/-! ### targets -/
/-- what a target takes from a value that never changes -/
abbrev Tg := PD → En → Option En
def gM (K : PySem.W.Frag) (c : Mc) (sl : List Nat) (t : Tg) : TG := fun v σ H Q => ∃ ε d ε', SR K c ε σ H ∧ Rp K H v d ∧ t d ε = some ε' ∧ ∀ σ' H', Step ε σ H ε' σ' H' → SR K c ε' σ' H' → (∀ vs, (∀ i ∈ sl, i ∈ vs) → wipe σ' vs = wipe σ vs) → Q σ' H'
abbrev JG (X : Cx) (c : Mc) (e : Expr) (sl : List Nat) (t : Tg) : Prop := PG X e (gM X.K c sl t)
theorem pg_imp {e : Expr} {t t' : TG} (h : PG X e t) (i : ∀ v σ H Q, t' v σ H Q → t v σ H Q) : PG X e t' := ⟨fun pins s σ H v u Q I r w => h.run pins s σ H v u Q I r (i v σ H Q w)⟩
theorem wipe_set {σ : L2.St} {i : Nat} {x : Option V} : ∀ {vs : List Nat}, i ∈ vs → wipe (σ.set i x) vs = wipe σ vs
  | v :: vs, h => by
    unfold wipe
    by_cases e : v = i
    · subst e
      by_cases hv : v ∈ vs
      · rw [wipe_set hv]
      · have key : ∀ vs : List Nat, ∀ σ : L2.St, (wipe (σ.set v x) vs).set v none = (wipe σ vs).set v none := by
          intro vs
          induction vs with
          | nil => intro σ; unfold wipe; rw [List.set_set]
          | cons w ws ih =>
            intro σ
            unfold wipe
            by_cases ew : w = v
            · subst ew
              rw [List.set_set, List.set_set]
              exact ih σ
            · rw [List.set_comm _ _ ew, List.set_comm _ _ ew, ih σ]
        exact key vs σ
    · rcases List.mem_cons.mp h with h | h
      · exact absurd h.symm e
      · rw [wipe_set h]
def tName (i : Nat) : Tg := fun d ε => sto i (.val d) ε
theorem jg_name {i : Nat} {x : Str} (hN : X.N.Nodup) (hi : X.N[i]? = some x) (hx : Loc X.env.scope x) (hf : X.fn x = true ∨ X.env.scope.names.lookup x = some .local := by first | exact .inl rfl | exact .inr rfl | assumption) : JG X c (.Name x pos) [i] (tName i) :=
  pg_imp (pg_name hN hi hx hf) fun v σ H Q ⟨ε, d, ε', S, r, e, h⟩ => by
    obtain ⟨S2, w2, _⟩ := sto_ok (o := .val d) S r e
    exact h _ _ (step_sto fun b w => (w2 b w).imp id fun f => f.elim) S2 fun vs hvs => wipe_set (hvs i (by simp))
/-- (x, y, ..) = a tuple -/
def tTupT (is : List Nat) : Tg := fun d ε => match d with
  | .tuple ds => stos is (ds.map .val) ε
  | _ => none
inductive JGs (X : Cx) : List Expr → List Nat → Prop
  | nil : JGs X [] []
  | cons {i : Nat} {x : Str} {pos : Pos} {es : List Expr} {is : List Nat} (hi : X.N[i]? = some x) (hx : Loc X.env.scope x) (hf : X.fn x = true ∨ X.env.scope.names.lookup x = some .local)
      (hs : (assignEach (.Name x pos :: es) X.env).map (·.2) = assign (.Name x pos) X.env :: (assignEach es X.env).map (·.2)) (t : JGs X es is) : JGs X (.Name x pos :: es) (i :: is)
def gNames : List Nat → TGs
  | [] => gNil
  | i :: is => gCons (gName i) (gNames is)
theorem JGs.pgs (hN : X.N.Nodup) : ∀ {es : List Expr} {is : List Nat}, JGs X es is → PGs X es (gNames is)
  | _, _, .nil => pgs_nil
  | _, _, .cons hi hx hf hs t => pgs_cons (pg_name hN hi hx hf) (JGs.pgs hN t) hs
theorem gNames_ok {σ : L2.St} {H : Hp} {Q : L2.St → Hp → Prop} : ∀ {is : List Nat} {vs : List V} {σ : L2.St}, is.length = vs.length → Q ((is.zip vs).foldl (fun s p => s.set p.1 (some p.2)) σ) H → gNames is vs σ H Q
  | [], [], σ, _, h => ⟨rfl, h⟩
  | i :: is, v :: vs, σ, e, h => ⟨v, vs, rfl, gNames_ok (σ := σ.set i (some v)) (by simpa using e) h⟩
theorem wipe_fold : ∀ {is : List Nat} {xs : List V} {σ : L2.St} {vs : List Nat}, (∀ i ∈ is, i ∈ vs) → wipe ((is.zip xs).foldl (fun s p => s.set p.1 (some p.2)) σ) vs = wipe σ vs
  | [], _, σ, vs, _ => by simp
  | i :: is, [], σ, vs, _ => by simp
  | i :: is, v :: xs, σ, vs, h => by
    rw [List.zip_cons_cons, List.foldl_cons, wipe_fold fun j hj => h j (List.mem_cons_of_mem _ hj)]
    exact wipe_set (h i List.mem_cons_self)
theorem stos_len : ∀ {is : List Nat} {os : List Opd} {ε ε' : En}, stos is os ε = some ε' → is.length = os.length
  | [], [], _, _, _ => rfl
  | i :: is, o :: os, ε, ε', e => by
    simp only [stos] at e
    cases e1 : sto i o ε with
    | none => rw [e1] at e; cases e
    | some ε1 => rw [e1] at e; simp [stos_len e]
  | [], _ :: _, _, _, e => by cases e
  | _ :: _, [], _, _, e => by cases e
theorem vals_ros {K : PySem.W.Frag} {ε : En} {σ : L2.St} {H : Hp} : ∀ {xs : List V} {ds : List PD}, RpA K H xs ds → ROs K c ε σ H (ds.map .val) xs
  | _, _, .nil => .nil
  | _, _, .cons r t => .cons r (vals_ros t)
theorem vals_newO {H H' : Hp} : ∀ {ds : List PD} {xs : List V}, NewO H H' (ds.map .val) xs
  | [], _ => trivial
  | _ :: _, [] => trivial
  | d :: ds, x :: xs => ⟨fun b f => f.elim, vals_newO⟩
theorem jg_tup {es : List Expr} {is : List Nat} {k : Nat} (hc : X.calm = true) (hN : X.N.Nodup) (h : JGs X es is) (hn : (assignEach es X.env).length = is.length := by rfl) (hst : (assignEach es X.env).findIdx? (·.1) = none := by rfl) :
    JG X c (.Tuple es k pos) is (tTupT is) :=
  pg_imp (pg_tup hc (h.pgs hN) hn hst) fun v σ H Q ⟨ε, d, ε', S, r, e, q⟩ => by
    unfold tTupT at e
    cases d with
    | tuple ds =>
      cases r with
      | tup hs ha =>
        have el := stos_len e
        rw [List.length_map, ← ha.length] at el
        obtain ⟨σ', eσ, S', w⟩ := stos_ok (Hs := H) S (vals_ros ha) vals_newO e
        refine ⟨_, _, rfl, hs, el.symm, gNames_ok (σ := σ) el ?_⟩
        rw [← eσ]
        exact q σ' H (step_sto w) S' fun vs hv => by rw [eσ]; exact wipe_fold hv
    | _ => cases e
/-- target = value -/
def sAsg (t : Tg) (m : M PD) : M Fl := fun ε => (m ε).bind fun d ε1 => match t d ε1 with
  | some ε2 => .ok .nx ε2
  | none => .stuck
theorem js_asg {tg e : Expr} {m : M PD} {sl : List Nat} {t : Tg} (he : JV X c e m) (hg : JG X c tg sl t) (hs : swapsWithSole [tg] e pos.line X.env = pure false := by rfl) (hw : swappedStores [tg] e X.env = pure none := by rfl)
    (h1 : (assignEach [tg] X.env).map (·.2) = [assign tg X.env] := by rfl) : JS X c (.Assign [tg] e pos) (sAsg t m) :=
  ps_imp (ps_asg he hg hs hw h1) fun D σ H ⟨ε, S, h⟩ => ⟨ε, S, val_then h fun d ε1 v H1 _ t1 S1 r p => by
    cases e2 : t d ε1 with
    | none => simp only [e2] at p; exact p.elim
    | some ε2 =>
      simp only [e2] at p
      exact ⟨ε1, d, ε2, S1, r, e2, fun σ' H' t2 S2 _ => p σ' H' t2 S2⟩⟩
/-- x, y = a, b -/
def sPar (is : List Nat) (m : M (List Opd)) : M Fl := fun ε => (m ε).bind fun os ε1 => match stos is os ε1 with
  | some ε2 => .ok .nx ε2
  | none => .stuck
theorem par_read {K : PySem.W.Frag} {is : List Nat} {m : M (List Opd)} {D : Ends} {σ : L2.St} {H : Hp} (h : tS K c (sPar is m) D σ H) : tO K c m σ H fun vs H1 => is.length = vs.length ∧ ∀ H2, Same H1 H2 → D.nx ((is.zip vs).foldl (fun s p => s.set p.1 (some p.2)) σ) H2 := by
  obtain ⟨ε, S, h⟩ := h
  refine ⟨ε, S, row_then h fun os ε1 vs H1 _ t1 S1 r n p => ?_⟩
  cases e2 : stos is os ε1 with
  | none => simp only [e2] at p; exact p.elim
  | some ε2 =>
    simp only [e2] at p
    have hl : os.length = vs.length := Paired.length r
    refine ⟨(stos_len e2).trans hl, fun H2 k => ?_⟩
    obtain ⟨σ', eσ, S', w⟩ := stos_ok (Hs := H) S1 r n e2
    obtain ⟨S3, t3⟩ := S'.same k
    rw [← eσ]
    have p' : PostS K c (.ok .nx ε2) ε σ H D := by
      unfold sPar at h
      rw [‹m ε = _›, Out.bind_ok] at h
      simpa only [e2] using h
    exact p' σ' H2 (Step.trans (step_sto2 t1 w) t3) S3
theorem js_par2 {i j : Nat} {x y : Str} {a b : Expr} {m : M (List Opd)} {px py pt : Pos} {kt k2 pt2} (hc : X.calm = true) (hN : X.N.Nodup) (hi : X.N[i]? = some x) (hj : X.N[j]? = some y) (hij : i ≠ j)
    (hx : X.env.scope.names.lookup x = some .local) (hy : X.env.scope.names.lookup y = some .local) (ha : JO X c [a, b] m)
    (hw : swappedStores [.Tuple [.Name x px, .Name y py] kt pt] (.Tuple [a, b] k2 pt2) X.env = pure (some [x, y]) := by rfl)
    (hs : swapsWithSole [.Tuple [.Name x px, .Name y py] kt pt] (.Tuple [a, b] k2 pt2) pos.line X.env = pure false := by rfl) : JS X c (.Assign [.Tuple [.Name x px, .Name y py] kt pt] (.Tuple [a, b] k2 pt2) pos) (sPar [i, j] m) :=
  ps_imp (ps_par hc hN hi hj hij hx hy ha hw hs) fun D σ H h => by
    obtain ⟨ε, S, p⟩ := par_read h
    refine ⟨ε, S, ?_⟩
    cases e : m ε with
    | stuck => rw [e] at p; exact p
    | exc C ε' => rw [e] at p; exact p
    | ok os ε1 =>
      rw [e] at p
      intro vs H1 t1 S1 r n
      obtain ⟨hl, q⟩ := p vs H1 t1 S1 r n
      match vs, hl with
      | [v, w], _ => exact ⟨v, w, rfl, q H1 fun _ _ z => z⟩
theorem js_par3 {i j l : Nat} {x y z : Str} {a b d : Expr} {m : M (List Opd)} {px py pz pt : Pos} {kt k2 pt2} (hc : X.calm = true) (hN : X.N.Nodup) (hi : X.N[i]? = some x) (hj : X.N[j]? = some y) (hl : X.N[l]? = some z) (hij : i ≠ j) (hil : i ≠ l) (hjl : j ≠ l)
    (hx : X.env.scope.names.lookup x = some .local) (hy : X.env.scope.names.lookup y = some .local) (hz : X.env.scope.names.lookup z = some .local) (ha : JO X c [a, b, d] m)
    (hw : swappedStores [.Tuple [.Name x px, .Name y py, .Name z pz] kt pt] (.Tuple [a, b, d] k2 pt2) X.env = pure (some [x, y, z]) := by rfl)
    (hs : swapsWithSole [.Tuple [.Name x px, .Name y py, .Name z pz] kt pt] (.Tuple [a, b, d] k2 pt2) pos.line X.env = pure false := by rfl) : JS X c (.Assign [.Tuple [.Name x px, .Name y py, .Name z pz] kt pt] (.Tuple [a, b, d] k2 pt2) pos) (sPar [i, j, l] m) :=
  ps_imp (ps_par3 hc hN hi hj hl hij hil hjl hx hy hz ha hw hs) fun D σ H h => by
    obtain ⟨ε, S, p⟩ := par_read h
    refine ⟨ε, S, ?_⟩
    cases e : m ε with
    | stuck => rw [e] at p; exact p
    | exc C ε' => rw [e] at p; exact p
    | ok os ε1 =>
      rw [e] at p
      intro vs H1 t1 S1 r n
      obtain ⟨hl, q⟩ := p vs H1 t1 S1 r n
      match vs, hl with
      | [v, w, u], _ => exact ⟨v, w, u, rfl, q H1 fun _ _ z => z⟩
/-- the same by way of a tuple -/
theorem js_parT {tes es : List Expr} {is : List Nat} {m : M (List Opd)} {pt : Pos} {kt k2 pt2} (hc : X.calm = true) (hN : X.N.Nodup) (hg : JGs X tes is) (ha : JO X c es m) (hl : is.length ≤ 1000 := by decide)
    (hn : (assignEach tes X.env).length = is.length := by rfl) (hst : (assignEach tes X.env).findIdx? (·.1) = none := by rfl)
    (hs : swapsWithSole [.Tuple tes kt pt] (.Tuple es k2 pt2) pos.line X.env = pure false := by rfl) (hw : swappedStores [.Tuple tes kt pt] (.Tuple es k2 pt2) X.env = pure none := by rfl)
    (h1 : (assignEach [.Tuple tes kt pt] X.env).map (·.2) = [assign (.Tuple tes kt pt) X.env] := by rfl) : JS X c (.Assign [.Tuple tes kt pt] (.Tuple es k2 pt2) pos) (sPar is m) :=
  ps_imp (ps_asg (pe_tup ha) (pg_tup hc (hg.pgs hN) hn hst) hs hw h1) fun D σ H h => by
    obtain ⟨ε, S, p⟩ := par_read h
    refine ⟨ε, S, ?_⟩
    cases e : m ε with
    | stuck => rw [e] at p; exact p
    | exc C ε' => rw [e] at p; exact p
    | ok os ε1 =>
      rw [e] at p
      intro vs H1 t1 S1 r n
      obtain ⟨hl2, q⟩ := p vs H1 t1 S1 r n
      exact ⟨l1000 (by omega), fun pp hp => ⟨pp, vs, rfl, SqT.of upd_same, hl2.symm, gNames_ok (σ := σ) hl2 (q _ (same_upd hp))⟩⟩
end
end MM

/-! ML6: loops, comprehensions. -/
namespace MM
open PySem PySem.Spec PyProof.Rows L2

/-! ### what is walked -/
def Itd (K : PySem.W.Frag) (J : It) (H : Hp) (xs : List PD) : Prop := ∃ (G : Hp → Prop) (Y : Nat → Hp → V → Hp → Prop), Walk J xs.length G Y ∧ (∀ H1, Im H H1 → G H1) ∧
  ∀ i H1 x H2, i < xs.length → Im H H1 → Y i H1 x H2 → Same H1 H2 ∧ ∃ d, xs[i]? = some d ∧ Rp K H2 x d
def PostI (K : PySem.W.Frag) (c : Mc) (res : Out (List PD)) (ε : En) (σ : L2.St) (H : Hp) (R : It → Hp → Prop) : Prop := match res with
  | .ok xs ε' => ∀ J H', Step ε σ H ε' σ H' → SR K c ε' σ H' → Itd K J H' xs → R J H'
  | .exc C ε' => ∀ H', Step ε σ H ε' σ H' → SR K c ε' σ H' → c.W C ε' σ H'
  | .stuck => False
def tI (K : PySem.W.Frag) (c : Mc) (m : M (List PD)) : TI := fun σ H R => ∃ ε, SR K c ε σ H ∧ PostI K c (m ε) ε σ H R
abbrev JI (X : Cx) (c : Mc) (tg iter : Expr) (m : M (List PD)) : Prop := PI X tg iter (tI X.K c m)
theorem pi_imp {X : Cx} {tg e : Expr} {t t' : TI} (h : PI X tg e t) (i : ∀ σ H R, t' σ H R → t σ H R) : PI X tg e t' := ⟨fun pins s σ H R I w => h.run pins s σ H R I (i σ H R w)⟩
section
variable {K : PySem.W.Frag} {H : Hp} {a : Addr} {xs : List V} {ds : List PD}
theorem same_refl (H : Hp) : Same H H := fun _ _ h => h
theorem itd_list (h : SqL K H a xs) (k : ∀ H1, Im H H1 → SqL K H1 a xs) (r : RpA K H xs ds) : Itd K (Itl K a) H ds := by
  refine ⟨_, _, by rw [← r.length]; exact walk_list (xs := xs), k, fun i H1 x H2 hi m y => ?_⟩
  obtain ⟨e, y⟩ := y
  subst e
  obtain ⟨d, h1, h2⟩ := r.getV y
  exact ⟨same_refl _, d, h1, Rp.im m _ _ h2⟩
theorem itd_tup (h : SqT K H a xs) (r : RpA K H xs ds) : Itd K (Itt K a) H ds := by
  refine ⟨_, _, by rw [← r.length]; exact walk_tup (xs := xs), fun H1 m => sqT_im m h, fun i H1 x H2 hi m y => ?_⟩
  obtain ⟨e, y⟩ := y
  subst e
  obtain ⟨d, h1, h2⟩ := r.getV y
  exact ⟨same_refl _, d, h1, Rp.im m _ _ h2⟩
def strD (z : Str) : List PD := z.cps.toList.map fun k => .str ⟨#[k]⟩
theorem itd_str {z : Str} : Itd K (Its z) H (strD z) := by
  refine ⟨_, _, by rw [show (strD z).length = z.cps.size by simp [strD]]; exact walk_str, fun _ _ => trivial, fun i H1 x H2 hi m y => ?_⟩
  obtain ⟨e, k, hk, e2⟩ := y
  subst e e2
  exact ⟨same_refl _, .str ⟨#[k]⟩, by simp [strD, hk], .str _⟩
def rngD (lo c : Int) (n : Nat) : List PD := (List.range n).map fun i => .int (lo + (i : Nat) * c)
theorem rngD_len (lo c : Int) (n : Nat) : (rngD lo c n).length = n := by simp [rngD]
theorem rngD_get {lo c : Int} {n i : Nat} (h : i < n) : (rngD lo c n)[i]? = some (.int (lo + (i : Nat) * c)) := by simp [rngD, h]
theorem itd_range {lo : Int} {n : Nat} : Itd K (Itr lo n) H (rngD lo 1 n) := by
  refine ⟨_, _, by rw [rngD_len]; exact walk_range, fun _ _ => trivial, fun i H1 x H2 hi m y => ?_⟩
  obtain ⟨e, e2⟩ := y
  subst e e2
  rw [rngD_len] at hi
  exact ⟨same_refl _, _, rngD_get hi, by rw [Int.mul_one]; exact .int _⟩
theorem itd_rangeC {lo c : Int} {n : Nat} : Itd K (Itc lo c n) H (rngD lo c n) := by
  refine ⟨_, _, by rw [rngD_len]; exact walk_rangeC, fun _ _ => trivial, fun i H1 x H2 hi m y => ?_⟩
  obtain ⟨e, e2⟩ := y
  subst e e2
  rw [rngD_len] at hi
  exact ⟨same_refl _, _, rngD_get hi, .int _⟩
def enD (ds : List PD) : List PD := ds.mapIdx fun i d => .tuple [.int (i : Nat), d]
theorem itd_enum (k : ∀ H1, Im H H1 → SqL K H1 a xs) (r : RpA K H xs ds) : Itd K (Ite K a) H (enD ds) := by
  refine ⟨_, _, by rw [show (enD ds).length = xs.length by simp [enD, r.length]]; exact walk_enum (xs := xs), k, fun i H1 x H2 hi m y => ?_⟩
  obtain ⟨T, u, v, e1, hT, e2, e3, e4⟩ := y
  subst e1 e2
  cases e3
  obtain ⟨d, h1, h2⟩ := r.getV e4
  have m2 : Im H1 (upd H1 T (.tup [.int (i : Nat), v])) := fun b o e _ => same_upd hT b o e
  exact ⟨same_upd hT, .tuple [.int (i : Nat), d], by simp [enD, h1], .tup (SqT.of upd_same) (.cons (.int _) (.cons (Rp.im (m.trans m2) _ _ h2) .nil))⟩
def zipD (ds es : List PD) : List PD := (ds.zip es).map fun p => .tuple [p.1, p.2]
theorem itd_pair {ys : List V} {es : List PD} {J : It} {G : Hp → Prop} (w : ∀ {n : Nat}, n = min xs.length ys.length → Walk J n G (YPair (fun i => xs[i]?) (fun i => ys[i]?))) (k : ∀ H1, Im H H1 → G H1) (r : RpA K H xs ds) (r2 : RpA K H ys es) : Itd K J H (zipD ds es) := by
  refine ⟨_, _, w (by simp [zipD, r.length, r2.length]), k, fun i H1 x H2 hi m y => ?_⟩
  obtain ⟨T, u, v, e1, hT, e2, e3, e4⟩ := y
  subst e1 e2
  obtain ⟨d, h1, h2⟩ := r.getV e3
  obtain ⟨e, h3, h4⟩ := r2.getV e4
  have m2 : Im H1 (upd H1 T (.tup [u, v])) := fun b o e _ => same_upd hT b o e
  refine ⟨same_upd hT, .tuple [d, e], ?_, .tup (SqT.of upd_same) (.cons (Rp.im (m.trans m2) _ _ h2) (.cons (Rp.im (m.trans m2) _ _ h4) .nil))⟩
  rw [zipD, List.getElem?_map, (List.getElem?_zip_eq_some (z := (d, e))).mpr ⟨h1, h3⟩]
  rfl
end
section
variable {X : Cx} {tg : Expr}
/-- a list, a tuple or a text, whichever it is -/
theorem pi_any {l : Expr} {tl : TE} (hl : PE X l tl) : PI X tg l (fun σ H R => tl σ H fun x H1 => (∃ z, x = .str z ∧ R (Its z) H1) ∨ ∃ a, x = .ref a ∧ (((∃ xs, SqL X.K H1 a xs) ∧ R (Itl X.K a) H1) ∨ ((∃ xs, SqT X.K H1 a xs) ∧ R (Itt X.K a) H1))) := by
  refine ⟨fun pins s σ H R I h => thn (hl.run pins s σ H _ I h) fun v s1 ⟨x, H1, I1, r1, q1⟩ => ?_⟩
  rcases q1 with ⟨z, e, q⟩ | ⟨a, e, ⟨⟨xs, hq⟩, q⟩ | ⟨⟨xs, hq⟩, q⟩⟩
  · subst e
    obtain ⟨t, rfl⟩ := r1
    cases ha : z.cps.all (· < 128)
    · refine wpAny_pyIter_wide ha ?_
      exact pi_one (tk := s1.toks) I1 _ (turn_str _ z t "str_iterator" (.inr rfl)) ⟨_, Heap.get?_push_size _ rfl, rfl, rfl⟩ q
    · refine wpAny_pyIter_ascii ha ?_
      exact pi_one (tk := s1.toks) I1 _ (turn_str _ z t "str_ascii_iterator" (.inl rfl)) ⟨_, Heap.get?_push_size _ rfl, rfl, rfl⟩ q
  · subst e
    cases r1
    obtain ⟨_, _, p, _⟩ := I1.list hq
    exact wpAny_pyIter_list p.isList (pi_one (tk := s1.toks) I1 _ (turn_list a _) ⟨_, Heap.get?_push_size _ rfl, rfl, rfl⟩ q)
  · subst e
    cases r1
    obtain ⟨_, _, p, _⟩ := I1.tuple hq
    exact wpAny_pyIter_tuple p (pi_one (tk := s1.toks) I1 _ (turn_tuple a _) ⟨_, Heap.get?_push_size _ rfl, rfl, rfl⟩ q)
variable {c : Mc} {pos p : Pos}
def iVal (m : M PD) : M (List PD) := fun ε => (m ε).bind fun d ε1 => match d with
  | .list ds => .ok ds ε1
  | .tuple ds => .ok ds ε1
  | .str z => .ok (strD z) ε1
  | _ => .stuck
theorem ji_val {e : Expr} {m : M PD} (h : JV X c e m) : JI X c tg e (iVal m) := pi_imp (pi_any h) fun σ H R ⟨ε, S, h⟩ => by
  refine ⟨ε, S, ?_⟩
  unfold iVal at h
  cases e1 : m ε with
  | stuck => rw [e1] at h; exact h
  | exc C ε' => rw [e1] at h; exact h
  | ok d ε1 =>
    rw [e1, Out.bind_ok] at h
    intro v H1 t S1 r
    cases d with
    | list ds =>
      cases r with
      | lst hs ha => exact .inr ⟨_, rfl, .inl ⟨⟨_, .inl hs.rd⟩, h _ H1 t S1 (itd_list (.inl hs.rd) (fun H2 m => .inl (hs.im m).rd) ha)⟩⟩
    | tuple ds =>
      cases r with
      | tup hs ha => exact .inr ⟨_, rfl, .inr ⟨⟨_, hs⟩, h _ H1 t S1 (itd_tup hs ha)⟩⟩
    | str z => cases r; exact .inl ⟨z, rfl, h _ H1 t S1 itd_str⟩
    | _ => exact h.elim
def midI (i : Int) : Bool := decide (-4611686018427387904 ≤ i) && decide (i < 4611686018427387904)
theorem midI_ok {i : Int} (h : midI i = true) : -(2 ^ 62) ≤ i ∧ i < 2 ^ 62 := by
  simp only [midI, Bool.and_eq_true, decide_eq_true_eq] at h
  exact ⟨by omega, by omega⟩
def iRow (f : List PD → Option (List PD)) (m : M (List PD)) : M (List PD) := fun ε => (m ε).bind fun ds ε1 => match f ds with
  | some xs => .ok xs ε1
  | none => .stuck
theorem row_it {K : PySem.W.Frag} {f : List PD → Option (List PD)} {m : M (List PD)} {σ : L2.St} {H : Hp} {R : It → Hp → Prop} {Q : List V → Hp → Prop} (h : tI K c (iRow f m) σ H R)
    (hQ : ∀ ds vs xs H1, RpA K H1 vs ds → f ds = some xs → (∀ J, Itd K J H1 xs → R J H1) → Q vs H1) : tA K c m σ H Q := by
  obtain ⟨ε, S, h⟩ := h
  refine ⟨ε, S, ?_⟩
  unfold iRow at h
  cases e1 : m ε with
  | stuck => rw [e1] at h; exact h
  | exc C ε' => rw [e1] at h; exact h
  | ok ds ε1 =>
    rw [e1, Out.bind_ok] at h
    intro vs H1 t S1 r
    cases e2 : f ds with
    | none => simp only [e2] at h; exact h.elim
    | some xs => simp only [e2] at h; exact hQ ds vs xs H1 r e2 fun J hJ => h J H1 t S1 hJ
theorem one_int {K : PySem.W.Frag} {H : Hp} {v : V} {i : Int} (h : Rp K H v (.int i)) : v = .int i := by cases h; rfl
def rng1 : List PD → Option (List PD)
  | [.int j] => if midI j = true then some (rngD 0 1 j.toNat) else none
  | _ => none
def rng2 : List PD → Option (List PD)
  | [.int i, .int j] => if (midI i && midI j) = true then some (rngD i 1 (j - i).toNat) else none
  | _ => none
/-- downward by ones -/
def rng3 : List PD → Option (List PD)
  | [.int i, .int j, .int k] => if (midI i && midI j && decide (k = -1)) = true then some (rngD i (-1) (i - j).toNat) else none
  | _ => none
theorem ji_range1 {a : Expr} {m : M (List PD)} (hg : Gl X "range") (hm : X.mg "range" = none) (ha : JA X c [a] m) (hs : starEach [a] X.env = [(false, eval a X.env)] := by rfl) : JI X c tg (.Call (.Name "range" p) [a] [] pos) (iRow rng1 m) :=
  pi_imp (pi_range1 hg hm ha hs) fun σ H R h => row_it h fun ds vs xs H1 r e q => by
    unfold rng1 at e
    split at e
    · split at e <;> cases e
      rename_i hc
      cases r with | cons r1 rt => cases rt; cases one_int r1; exact ⟨_, rfl, (midI_ok hc).1, (midI_ok hc).2, q _ itd_range⟩
    · cases e
theorem ji_range2 {a b : Expr} {m : M (List PD)} (hg : Gl X "range") (hm : X.mg "range" = none) (ha : JA X c [a, b] m) (hs : starEach [a, b] X.env = [(false, eval a X.env), (false, eval b X.env)] := by rfl) (hs2 : starEach [b] X.env = [(false, eval b X.env)] := by rfl) :
    JI X c tg (.Call (.Name "range" p) [a, b] [] pos) (iRow rng2 m) :=
  pi_imp (pi_range2 hg hm ha hs hs2) fun σ H R h => row_it h fun ds vs xs H1 r e q => by
    unfold rng2 at e
    split at e
    · split at e <;> cases e
      rename_i hc
      rw [Bool.and_eq_true] at hc
      cases r with
      | cons r1 rt => cases rt with | cons r2 rt => cases rt; cases one_int r1; cases one_int r2; exact ⟨_, _, rfl, ⟨(midI_ok hc.1).1, (midI_ok hc.1).2, (midI_ok hc.2).1, (midI_ok hc.2).2⟩, q _ itd_range⟩
    · cases e
theorem ji_range3 {a b d : Expr} {m : M (List PD)} (hg : Gl X "range") (hm : X.mg "range" = none) (ha : JA X c [a, b, d] m) (hs : starEach [a, b, d] X.env = (false, eval a X.env) :: starEach [b, d] X.env := by rfl) (hpl : (backTo pos (starEach [b, d] X.env)).any (·.1) = false := by rfl) :
    JI X c tg (.Call (.Name "range" p) [a, b, d] [] pos) (iRow rng3 m) :=
  pi_imp (pi_range3 hg hm ha hs hpl) fun σ H R h => row_it h fun ds vs xs H1 r e q => by
    unfold rng3 at e
    split at e
    · split at e <;> cases e
      rename_i hc
      rw [Bool.and_eq_true, Bool.and_eq_true, decide_eq_true_eq] at hc
      obtain ⟨⟨h1, h2⟩, h3⟩ := hc
      subst h3
      cases r with
      | cons r1 rt => cases rt with
        | cons r2 rt => cases rt with
          | cons r3 rt =>
            cases rt; cases one_int r1; cases one_int r2; cases one_int r3
            exact ⟨_, _, _, _, rfl, RgC.neg (midI_ok h1).1 (midI_ok h1).2 (midI_ok h2).1 (midI_ok h2).2, q _ itd_rangeC⟩
    · cases e
def enumF : List PD → Option (List PD)
  | [.list ds] => some (enD ds)
  | _ => none
theorem ji_enumL {e : Expr} {m : M (List PD)} {elts : List Expr} {kk : Nat} {tpos : Pos} (hg : Gl X "enumerate") (hm : X.mg "enumerate" = none) (ha : JA X c [e] m) (hs : starEach [e] X.env = [(false, eval e X.env)] := by rfl) :
    JI X c (.Tuple elts kk tpos) (.Call (.Name "enumerate" p) [e] [] pos) (iRow enumF m) :=
  pi_imp (pi_enum hg hm ha hs) fun σ H R h => row_it h fun ds vs xs H1 r e q => by
    unfold enumF at e
    split at e
    · cases e
      cases r with
      | cons r1 rt =>
        cases rt
        cases r1 with
        | lst hs ha => exact ⟨_, _, rfl, .inl hs.rd, q _ (itd_enum (fun H2 m => .inl (hs.im m).rd) ha)⟩
    · cases e
def zipF : List PD → Option (List PD)
  | [.list ds, .list es] => some (zipD ds es)
  | [.tuple ds, .tuple es] => some (zipD ds es)
  | _ => none
theorem walk_zipT {K : PySem.W.Frag} {a b : Addr} {xs ys : List V} {n : Nat} (hn : n = min xs.length ys.length) : Walk (RZ.ItzT K a b) n (fun H => SqT K H a xs ∧ SqT K H b ys) (YPair (fun i => xs[i]?) (fun i => ys[i]?)) := by
  refine ⟨fun i H hi q => ?_, fun H q => ?_, fun i H x H' hi q y => ?_⟩
  · have h1 : i < xs.length := by omega
    have h2 : i < ys.length := by omega
    exact ⟨xs, ys, xs[i], ys[i], q.1, q.2, by simp [h1], by simp [h2]⟩
  · exact ⟨xs, ys, q.1, q.2, by omega⟩
  · obtain ⟨T, u, v, e1, hT, e2, h1, h2⟩ := y
    exact ⟨T, u, v, e1, hT, e2, h1 xs q.1, h2 ys q.2⟩
theorem ji_zip {e e2 : Expr} {m : M (List PD)} {elts : List Expr} {kk : Nat} {tpos : Pos} (hg : Gl X "zip") (hm : X.mg "zip" = none) (ha : JA X c [e, e2] m)
    (hs : starEach [e, e2] X.env = (false, eval e X.env) :: starEach [e2] X.env := by rfl) (hpl : (backTo pos (starEach [e2] X.env)).any (·.1) = false := by rfl) :
    JI X c (.Tuple elts kk tpos) (.Call (.Name "zip" p) [e, e2] [] pos) (iRow zipF m) :=
  pi_imp (RZ.pi_zipA hg hm ha hs hpl) fun σ H R h => row_it h fun ds vs xs H1 r e q => by
    unfold zipF at e
    split at e
    · cases e
      cases r with
      | cons r1 rt => cases rt with
        | cons r2 rt =>
          cases rt
          cases r1 with
          | lst hs ha => cases r2 with
            | lst hs2 ha2 => exact ⟨_, _, _, _, rfl, .inl ⟨.inl hs.rd, .inl hs2.rd, q _ (itd_pair (fun hn => walk_zip hn) (fun H2 m => ⟨.inl (hs.im m).rd, .inl (hs2.im m).rd⟩) ha ha2)⟩⟩
    · cases e
      cases r with
      | cons r1 rt => cases rt with
        | cons r2 rt =>
          cases rt
          cases r1 with
          | tup hs ha => cases r2 with
            | tup hs2 ha2 => exact ⟨_, _, _, _, rfl, .inr ⟨hs, hs2, q _ (itd_pair (fun hn => walk_zipT hn) (fun H2 m => ⟨sqT_im m hs, sqT_im m hs2⟩) ha ha2)⟩⟩
    · cases e
end

/-! ### for -/
def forL (t : Tg) (mb : M Fl) : List PD → M Fl
  | [], ε => .ok .nx ε
  | x :: xs, ε => match t x ε with
    | none => .stuck
    | some ε1 => (mb ε1).bind fun f ε2 => match f with
      | .nx => forL t mb xs ε2
      | .ct => forL t mb xs ε2
      | .bk => .ok .nx ε2
      | .rt d => .ok (.rt d) ε2
      | .rn _ => .stuck
def sFor (mi : M (List PD)) (t : Tg) (mb : M Fl) : M Fl := fun ε => (mi ε).bind fun xs ε1 => forL t mb xs ε1
section
variable {X : Cx} {c : Mc} {pos : Pos}
theorem js_for {tg iter : Expr} {body : List Stmt} {mi : M (List PD)} {sl : List Nat} {t : Tg} {mb : M Fl} (hp : PassesOwn (model X.prog X.w) X.A X.env X.xe) (hc : X.calm = true) (hi : JI X c tg iter mi) (hg : JG X c tg sl t) (hb : JB X c body mb)
    (hs : ∀ x, foldedSetIterable iter X.env x = pure x := by intro _; rfl) : JS X c (.For tg iter body [] pos) (sFor mi t mb) :=
  ps_imp (ps_for hp hc hi hg hb hs) fun D σ H ⟨ε, S, h⟩ => by
    unfold sFor at h
    refine ⟨ε, S, ?_⟩
    cases e1 : mi ε with
    | stuck => rw [e1] at h; exact h
    | exc C ε' => rw [e1] at h; exact fun H' a b => h σ H' a b
    | ok xs ε1 =>
      rw [e1, Out.bind_ok] at h
      intro J H1 t1 S1 ⟨G, Y, w, hG, hY⟩
      refine for_it w (fun i σ' H' => ∃ ε', SR X.K c ε' σ' H' ∧ Im H1 H' ∧ PostS X.K c (forL t mb (xs.drop i) ε') ε' σ' H' D) ⟨ε1, S1, Im.refl _, PostS.step t1 h⟩ (fun i σ' H' hi ⟨_, _, m, _⟩ => hG H' m) ?_ ?_
      · intro i x σ' H' H2 hi ⟨ε', S', m, p⟩ y
        obtain ⟨k, d, hd, rd⟩ := hY i H' x H2 hi m y
        obtain ⟨S2, t2⟩ := S'.same k
        rw [List.drop_eq_getElem_cons hi] at p
        have ed : xs[i] = d := by
          have := List.getElem?_eq_getElem hi
          rw [hd] at this
          exact (Option.some.inj this).symm
        rw [ed] at p
        unfold forL at p
        cases e2 : t d ε' with
        | none => simp only [e2] at p; exact p.elim
        | some ε2 =>
          simp only [e2] at p
          refine ⟨ε', d, ε2, S2, rd, e2, fun σ3 H3 t3 S3 _ => ⟨ε2, S3, ?_⟩⟩
          have t13 := t2.trans t3
          have m3 : Im H1 H3 := m.trans (S'.im t13)
          cases e3 : mb ε2 with
          | stuck => rw [e3] at p; exact p
          | exc C ε' => rw [e3] at p; exact fun σ4 H4 a b => p σ4 H4 (t13.trans a) b
          | ok f ε4 =>
            rw [e3, Out.bind_ok] at p
            cases f with
            | nx => exact fun σ4 H4 t4 S4 => ⟨ε4, S4, m3.trans (S3.im t4), PostS.step (t13.trans t4) p⟩
            | ct => exact fun σ4 H4 t4 S4 => ⟨ε4, S4, m3.trans (S3.im t4), PostS.step (t13.trans t4) p⟩
            | bk => exact fun σ4 H4 t4 S4 => p σ4 H4 (t13.trans t4) S4
            | rt d => exact fun v σ4 H4 t4 S4 r => p v σ4 H4 (t13.trans t4) S4 r
            | rn ob => exact p.elim
      · intro σ' H' ⟨ε', S', m, p⟩
        rw [List.drop_length] at p
        exact p σ' H' .refl S'

/-! ### while -/
def sWh (mt : M Bool) (mb : M Fl) : Nat → M Fl
  | 0, _ => .stuck
  | n + 1, ε => (mt ε).bind fun k ε1 => if k = true then (mb ε1).bind fun f ε2 => match f with
      | .nx => sWh mt mb n ε2
      | .ct => sWh mt mb n ε2
      | .bk => .ok .nx ε2
      | .rt d => .ok (.rt d) ε2
      | .rn _ => .stuck
    else .ok .nx ε1
theorem js_while (n : Nat) {t : Expr} {body : List Stmt} {mt : M Bool} {mb : M Fl} (hp : PassesOwn (model X.prog X.w) X.A X.env X.xe) (ht : JT X c t mt) (hb : JB X c body mb) : JS X c (.While t body [] pos) (sWh mt mb n) :=
  ps_imp (ps_while hp ht hb) fun D σ H ⟨ε, S, h⟩ => by
    refine ⟨fun m σ' H' => ∃ ε', SR X.K c ε' σ' H' ∧ PostS X.K c (sWh mt mb m ε') ε' σ' H' D, ⟨n, ε, S, h⟩, fun m σ' H' ⟨ε', S', p⟩ => ?_⟩
    cases m with
    | zero => exact p.elim
    | succ m =>
      unfold sWh at p
      refine ⟨ε', S', ?_⟩
      cases e1 : mt ε' with
      | stuck => rw [e1] at p; exact p
      | exc C ε2 => rw [e1] at p; exact fun H2 a b => p σ' H2 a b
      | ok k ε1 =>
        rw [e1, Out.bind_ok] at p
        intro H1 t1 S1
        cases k with
        | false => exact p σ' H1 t1 S1
        | true =>
          rw [if_pos rfl] at p ⊢
          refine ⟨fun σ2 H2 => ∃ ε2, SR X.K c ε2 σ2 H2 ∧ PostS X.K c (sWh mt mb m ε2) ε2 σ2 H2 D, fun σ2 H2 w => ⟨m, Nat.lt_succ_self m, w⟩, ε1, S1, ?_⟩
          cases e2 : mb ε1 with
          | stuck => rw [e2] at p; exact p
          | exc C ε2 => rw [e2] at p; exact fun σ2 H2 a b => p σ2 H2 (t1.trans a) b
          | ok f ε2 =>
            rw [e2, Out.bind_ok] at p
            cases f with
            | nx => exact fun σ2 H2 t2 S2 => ⟨ε2, S2, PostS.step (t1.trans t2) p⟩
            | ct => exact fun σ2 H2 t2 S2 => ⟨ε2, S2, PostS.step (t1.trans t2) p⟩
            | bk => exact fun σ2 H2 t2 S2 => p σ2 H2 (t1.trans t2) S2
            | rt d => exact fun v σ2 H2 t2 S2 r => p v σ2 H2 (t1.trans t2) S2 r
            | rn ob => exact p.elim
end
end MM

/-! ML7: comprehensions; what changes a name's own list. -/
namespace MM
open PySem PySem.Spec PyProof.Rows L2

/-- nothing may be raised -/
abbrev Mc.nox (c : Mc) : Mc := { c with W := fun _ _ _ _ => False }
section
variable {K : PySem.W.Frag} {c : Mc} {ε ε' : En} {σ σ' : L2.St} {H H' : Hp}
theorem SR.nox (S : SR K c ε σ H) : SR K c.nox ε σ H := ⟨S.len, S.fr, S.fin, S.pm, S.rel, S.own, S.ows, S.dis⟩
theorem SR.ofNox (S : SR K c.nox ε σ H) : SR K c ε σ H := ⟨S.len, S.fr, S.fin, S.pm, S.rel, S.own, S.ows, S.dis⟩

/-! ### the block's own names -/
def wipeE (ε : En) : List Nat → En
  | [] => ε
  | v :: vs => (wipeE ε vs).set v .no
def restE (ε ε' : En) : List Nat → En
  | [] => ε'
  | v :: vs => (restE ε ε' vs).set v (ε.getD v .no)
theorem wipeE_len (ε : En) : ∀ vs, (wipeE ε vs).length = ε.length
  | [] => rfl
  | v :: vs => by unfold wipeE; rw [List.length_set, wipeE_len ε vs]
theorem restE_len (ε ε' : En) : ∀ vs, (restE ε ε' vs).length = ε'.length
  | [] => rfl
  | v :: vs => by unfold restE; rw [List.length_set, restE_len ε ε' vs]
theorem wipeE_in {i : Nat} {sl : Sl} : ∀ {vs : List Nat}, i ∈ vs → (wipeE ε vs)[i]? = some sl → sl = .no
  | v :: vs, h, e => by
    unfold wipeE at e
    rcases get_set e with ⟨_, z⟩ | ⟨z, e⟩
    · exact z
    · rcases List.mem_cons.mp h with h | h
      · exact absurd h z
      · exact wipeE_in h e
theorem wipeE_out {i : Nat} : ∀ {vs : List Nat}, i ∉ vs → (wipeE ε vs)[i]? = ε[i]?
  | [], _ => rfl
  | v :: vs, h => by
    unfold wipeE
    rw [List.getElem?_set_ne (fun e => h (by simp [e]))]
    exact wipeE_out fun z => h (List.mem_cons_of_mem _ z)
theorem restE_in (hl : ε'.length = ε.length) {i : Nat} : ∀ {vs : List Nat}, i ∈ vs → (restE ε ε' vs)[i]? = ε[i]?
  | v :: vs, h => by
    unfold restE
    by_cases e : v = i
    · subst e
      by_cases hi : v < ε.length
      · rw [List.getElem?_set_self (by rw [restE_len, hl]; exact hi)]
        simp [List.getD, hi]
      · rw [List.getElem?_eq_none (by rw [List.length_set, restE_len, hl]; omega), List.getElem?_eq_none (by omega)]
    · rw [List.getElem?_set_ne e]
      rcases List.mem_cons.mp h with h | h
      · exact absurd h.symm e
      · exact restE_in hl h
theorem restE_out {i : Nat} : ∀ {vs : List Nat}, i ∉ vs → (restE ε ε' vs)[i]? = ε'[i]?
  | [], _ => rfl
  | v :: vs, h => by
    unfold restE
    rw [List.getElem?_set_ne (fun e => h (by simp [e]))]
    exact restE_out fun z => h (List.mem_cons_of_mem _ z)
theorem wipe_get {i : Nat} {vs : List Nat} (h : i ∉ vs) : (wipe σ vs)[i]? = σ[i]? := wipe_out h
def notIoB : Option Sl → Bool
  | some (.io _) => false
  | _ => true
theorem SR.wipe (S : SR K c ε σ H) {vs : List Nat} (ni : vs.all (fun i => notIoB ε[i]?) = true) : SR K c (wipeE ε vs) (L2.wipe σ vs) H ∧ ∀ b, Own (wipeE ε vs) (L2.wipe σ vs) H b → ∃ (i : Nat) (sl : Sl) (ov : Option V), i ∉ vs ∧ ε[i]? = some sl ∧ σ[i]? = some ov ∧ SlF H sl ov b := by
  have key : ∀ (i : Nat) (sl : Sl) (ov : Option V) (b : Addr), (wipeE ε vs)[i]? = some sl → (L2.wipe σ vs)[i]? = some ov → SlF H sl ov b → i ∉ vs ∧ ε[i]? = some sl ∧ σ[i]? = some ov := fun i sl ov b e1 e2 f => by
    by_cases h : i ∈ vs
    · have := wipeE_in h e1
      subst this
      exact f.elim
    · rw [wipeE_out h] at e1
      rw [wipe_out h] at e2
      exact ⟨h, e1, e2⟩
  refine ⟨⟨by rw [wipeE_len, wipe_length]; exact S.len, S.fr, S.fin, fun i v hi => ?_, fun i sl ov e1 e2 => ?_, fun i sl ov b e1 e2 f => ?_, fun i sl ov b e1 e2 f n => ?_, fun i j sl sl' ov ov' b e1 e2 f e3 e4 f' => ?_⟩, fun b ⟨i, sl, ov, e1, e2, f⟩ => ?_⟩
  · obtain ⟨p1, o, p2⟩ := S.pm i v hi
    have h : i ∉ vs := fun h => by
      have := List.all_eq_true.mp ni i h
      rw [p2] at this
      cases this
    rw [wipe_out h, wipeE_out h]
    exact ⟨p1, o, p2⟩
  · by_cases h : i ∈ vs
    · have := wipeE_in h e1
      subst this
      exact trivial
    · rw [wipeE_out h] at e1
      rw [wipe_out h] at e2
      exact S.rel i sl ov e1 e2
  · obtain ⟨_, a1, a2⟩ := key i sl ov b e1 e2 f
    exact S.own i sl ov b a1 a2 f
  · obtain ⟨_, a1, a2⟩ := key i sl ov b e1 e2 f
    exact S.ows i sl ov b a1 a2 f n
  · obtain ⟨_, a1, a2⟩ := key i sl ov b e1 e2 f
    obtain ⟨_, a3, a4⟩ := key j sl' ov' b e3 e4 f'
    exact S.dis i j sl sl' ov ov' b a1 a2 f a3 a4 f'
  · obtain ⟨a0, a1, a2⟩ := key i sl ov b e1 e2 f
    exact ⟨i, sl, ov, a0, a1, a2, f⟩
theorem SR.rest (S : SR K c ε σ H) {vs : List Nat} (ni : vs.all (fun i => notIoB ε[i]?) = true) (S' : SR K c ε' σ' H') (hw : L2.wipe σ' vs = L2.wipe σ vs) (t : Step (wipeE ε vs) (L2.wipe σ vs) H ε' σ' H') :
    SR K c (restE ε ε' vs) σ H' ∧ Step ε σ H (restE ε ε' vs) σ H' := by
  obtain ⟨_, wo⟩ := S.wipe ni
  have hl1 : σ'.length = σ.length := by rw [← wipe_length σ' vs, hw, wipe_length]
  have hl : ε'.length = ε.length := by rw [S'.len, S.len, hl1]
  have hs : ∀ {i : Nat}, i ∉ vs → σ'[i]? = σ[i]? := fun {i} h => by rw [← wipe_out h (σ := σ'), hw, wipe_out h]
  -- an address of a wiped name's object is not the block's
  have nob : ∀ (i : Nat) (sl : Sl) (ov : Option V) (b : Addr), i ∈ vs → ε[i]? = some sl → σ[i]? = some ov → SlF H sl ov b → ¬ Own (wipeE ε vs) (L2.wipe σ vs) H b := fun i sl ov b hi e1 e2 f ow => by
    obtain ⟨j, slj, ovj, hj, e3, e4, f'⟩ := wo b ow
    exact hj (S.dis i j sl slj ov ovj b e1 e2 f e3 e4 f' ▸ hi)
  have kin : ∀ (i : Nat) (sl : Sl) (ov : Option V), i ∈ vs → ε[i]? = some sl → σ[i]? = some ov → ∀ b u, SlF H sl ov b → H b = some u → H' b = some u := fun i sl ov hi e1 e2 b u f e => t.kp b u e (nob i sl ov b hi e1 e2 f)
  have im : Im H H' := (S.wipe ni).1.im t
  have key : ∀ (i : Nat) (sl : Sl) (ov : Option V) (b : Addr), (restE ε ε' vs)[i]? = some sl → σ[i]? = some ov → SlF H' sl ov b → (i ∈ vs ∧ ε[i]? = some sl ∧ SlF H sl ov b) ∨ (i ∉ vs ∧ ε'[i]? = some sl ∧ σ'[i]? = some ov) := fun i sl ov b e1 e2 f => by
    by_cases h : i ∈ vs
    · rw [restE_in hl h] at e1
      exact .inl ⟨h, e1, (S.rel i sl ov e1 e2).ft (kin i sl ov h e1 e2) f⟩
    · rw [restE_out h] at e1
      exact .inr ⟨h, e1, by rw [hs h]; exact e2⟩
  have cross : ∀ (i j : Nat) (sl sl' : Sl) (ov ov' : Option V) (b : Addr), i ∈ vs → ε[i]? = some sl → σ[i]? = some ov → SlF H sl ov b → ε'[j]? = some sl' → σ'[j]? = some ov' → SlF H' sl' ov' b → False := fun i j sl sl' ov ov' b hi e1 e2 f e3 e4 f' => by
    rcases t.ow b ⟨j, sl', ov', e3, e4, f'⟩ with z | z
    · exact nob i sl ov b hi e1 e2 f z
    · obtain ⟨u, hu, _⟩ := (S.rel i sl ov e1 e2).trk f
      rw [z] at hu; cases hu
  refine ⟨⟨by rw [restE_len, hl]; exact S.len, S'.fr, S'.fin, fun i v hi => ?_, fun i sl ov e1 e2 => ?_, fun i sl ov b e1 e2 f => ?_, fun i sl ov b e1 e2 f n => ?_, fun i j sl sl' ov ov' b e1 e2 f e3 e4 f' => ?_⟩, fun b o e n => ?_, fun b ⟨i, sl, ov, e1, e2, f⟩ => ?_, t.tr⟩
  · obtain ⟨p1, o, p2⟩ := S.pm i v hi
    have h : i ∉ vs := fun h => by
      have := List.all_eq_true.mp ni i h
      rw [p2] at this
      cases this
    obtain ⟨_, o', p3⟩ := S'.pm i v hi
    exact ⟨p1, o', by rw [restE_out h]; exact p3⟩
  · by_cases h : i ∈ vs
    · rw [restE_in hl h] at e1
      exact (S.rel i sl ov e1 e2).keep im (kin i sl ov h e1 e2)
    · rw [restE_out h] at e1
      exact S'.rel i sl ov e1 (by rw [hs h]; exact e2)
  · rcases key i sl ov b e1 e2 f with ⟨_, a1, a2⟩ | ⟨_, a1, a2⟩
    · exact S.own i sl ov b a1 e2 a2
    · exact S'.own i sl ov b a1 a2 f
  · rcases key i sl ov b e1 e2 f with ⟨_, a1, a2⟩ | ⟨_, a1, a2⟩
    · exact S.ows i sl ov b a1 e2 a2 n
    · exact S'.ows i sl ov b a1 a2 f n
  · rcases key i sl ov b e1 e2 f with ⟨h1, a1, a2⟩ | ⟨h1, a1, a2⟩
    · rcases key j sl' ov' b e3 e4 f' with ⟨_, b1, b2⟩ | ⟨_, b1, b2⟩
      · exact S.dis i j sl sl' ov ov' b a1 e2 a2 b1 e4 b2
      · exact (cross i j sl sl' ov ov' b h1 a1 e2 a2 b1 b2 f').elim
    · rcases key j sl' ov' b e3 e4 f' with ⟨h2, b1, b2⟩ | ⟨_, b1, b2⟩
      · exact (cross j i sl' sl ov' ov b h2 b1 e4 b2 a1 a2 f).elim
      · exact S'.dis i j sl sl' ov ov' b a1 a2 f b1 b2 f'
  · exact t.kp b o e fun w => by
      obtain ⟨i, sl, ov, _, e1, e2, f⟩ := wo b w
      exact n ⟨i, sl, ov, e1, e2, f⟩
  · rcases key i sl ov b e1 e2 f with ⟨_, a1, a2⟩ | ⟨_, a1, a2⟩
    · exact .inl ⟨i, sl, ov, a1, e2, a2⟩
    · rcases t.ow b ⟨i, sl, ov, a1, a2, f⟩ with z | z
      · obtain ⟨j, slj, ovj, _, e3, e4, f3⟩ := wo b z
        exact .inl ⟨j, slj, ovj, e3, e4, f3⟩
      · exact .inr z
end

/-! ### [.. for .. in ..] -/
def lcL (vs : List Nat) (t : Tg) (tt : M Bool) (te : M PD) : List PD → List PD → M Opd
  | [], acc, ε => .ok (.new (.l acc)) ε
  | x :: xs, acc, ε => match t x (wipeE ε vs) with
    | none => .stuck
    | some ε1 => match tt ε1 with
      | .ok k ε2 => if k = true then (match te ε2 with
          | .ok d ε3 => lcL vs t tt te xs (acc ++ [d]) (restE ε ε3 vs)
          | _ => .stuck) else lcL vs t tt te xs acc (restE ε ε2 vs)
      | _ => .stuck
def mLc (vs : List Nat) (mi : M (List PD)) (t : Tg) (tt : M Bool) (te : M PD) : M Opd := fun ε => (mi ε).bind fun xs ε1 => if xs.length ≤ big ∧ vs.all (fun i => notIoB ε1[i]?) = true then lcL vs t tt te xs [] ε1 else .stuck
/-- a clause's tests -/
abbrev JX (X : Cx) (c : Mc) (ifs : List Expr) (m : M Bool) : Prop := PTs X ifs (tT X.K c m)
def xYes : M Bool := fun ε => .ok true ε
section
variable {X : Cx} {c : Mc} {pos : Pos}
theorem jx_nil : JX X c [] xYes := ⟨fun pins s σ H Q I ⟨ε, S, h⟩ => pts_nil.run pins s σ H Q I (h H .refl S)⟩
theorem jx_one {e : Expr} {m : M Bool} (h : JT X c e m) : JX X c [e] m := pts_one h
theorem wipe_idem {σ : L2.St} {vs : List Nat} : wipe (wipe σ vs) vs = wipe σ vs := by
  apply List.ext_getElem?
  intro i
  by_cases h : i ∈ vs
  · have key : ∀ {s : L2.St} {ws : List Nat}, i ∈ ws → (wipe s ws)[i]? = if i < s.length then some none else none := by
      intro s ws
      induction ws with
      | nil => intro h; cases h
      | cons v ws ih =>
        intro h
        unfold wipe
        by_cases e : v = i
        · subst e
          by_cases hv : v < s.length
          · rw [List.getElem?_set_self (by rw [wipe_length]; exact hv), if_pos hv]
          · rw [List.getElem?_eq_none (by rw [List.length_set, wipe_length]; omega), if_neg hv]
        · rw [List.getElem?_set_ne e]
          exact ih ((List.mem_cons.mp h).resolve_left fun z => e z.symm)
    rw [key h, key h, wipe_length]
  · rw [wipe_out h]
theorem lc_read {K : PySem.W.Frag} {mi : M (List PD)} {t : Tg} {sl vs : List Nat} {tt : M Bool} {te : M PD} (hsl : ∀ i ∈ sl, i ∈ vs) (σ : L2.St) (H : Hp) (Q : VK) (h : tM K c (mLc vs mi t tt te) σ H Q) :
    tLc (tI K c mi) (gM K c.nox sl t) (tT K c.nox tt) (tV K c.nox te) vs σ H Q := by
  obtain ⟨ε, S, h⟩ := h
  unfold mLc at h
  refine ⟨ε, S, ?_⟩
  cases e1 : mi ε with
  | stuck => rw [e1] at h; exact h
  | exc C ε' => rw [e1] at h; exact h
  | ok xs ε1 =>
    rw [e1, Out.bind_ok] at h
    intro J H1 t1 S1 ⟨G, Y, w, hG, hY⟩ D hD
    by_cases hb : xs.length ≤ big ∧ vs.all (fun i => notIoB ε1[i]?) = true
    · rw [if_pos hb] at h
      obtain ⟨hb, ni⟩ := hb
      obtain ⟨S2, t2⟩ := S1.same (same_upd hD (o := .lst []))
      obtain ⟨h0, _, hn⟩ := S1.fresh hD
      have n2 : ¬ Own ε1 σ (upd H1 D (.lst [])) D := fun ow => by
        obtain ⟨i, sl, ov, a1, a2, f⟩ := ow
        exact hn ⟨i, sl, ov, a1, a2, (S1.rel i sl ov a1 a2).ft (fun b u _ e => same_upd hD b u e) f⟩
      refine lc_it w (fun i H' => ∃ (ε' : En) (us : List V) (acc : List PD), SR K c ε' σ H' ∧ Im H1 H' ∧ Step ε1 σ H1 ε' σ H' ∧ vs.all (fun i => notIoB ε'[i]?) = true ∧ H' D = some (.lst us) ∧ RpA K H' us acc ∧ acc.length ≤ i ∧ ¬ Own ε' σ H' D ∧ PostE K c (lcL vs t tt te (xs.drop i) acc ε') ε1 σ H1 Q)
        ⟨ε1, [], [], S2, fun b o e z => same_upd hD b o e, t2, ni, upd_same, .nil, Nat.le_refl _, n2, PostE.step t1 h⟩ (fun i H' hi ⟨_, _, _, _, m, _⟩ => hG H' m) ?_ ?_
      · intro i x H' H2 hi ⟨ε', us, acc, S', m, st, ni', hu, ra, hl, no, p⟩ y
        obtain ⟨k, d, hd, rd⟩ := hY i H' x H2 hi m y
        obtain ⟨S2, t2⟩ := S'.same k
        rw [List.drop_eq_getElem_cons hi] at p
        have ed : xs[i] = d := by
          have := List.getElem?_eq_getElem hi
          rw [hd] at this
          exact (Option.some.inj this).symm
        rw [ed] at p
        unfold lcL at p
        have no2 : ¬ Own ε' σ H2 D := fun ow => (t2.ow D ow).elim no fun z => by rw [hu] at z; cases z
        have nob : ¬ Own (wipeE ε' vs) (wipe σ vs) H2 D := fun ow => by
          obtain ⟨j, slj, ovj, _, a1, a2, f⟩ := (S2.wipe ni').2 D ow
          exact no2 ⟨j, slj, ovj, a1, a2, f⟩
        have us2 := RpA.im (fun b o e _ => k b o e) _ _ ra
        cases e2 : t d (wipeE ε' vs) with
        | none => simp only [e2] at p; exact p.elim
        | some ε2 =>
          simp only [e2] at p
          refine ⟨wipeE ε' vs, d, ε2, (S2.wipe ni').1.nox, rd, e2, fun σ3 H3 t3 S3 hw => ?_⟩
          have hw' : wipe σ3 vs = wipe σ vs := by rw [hw vs hsl, wipe_idem]
          refine ⟨hw', ε2, S3, ?_⟩
          cases e3 : tt ε2 with
          | stuck => simp only [e3] at p; exact p.elim
          | exc C ε3 => simp only [e3] at p; exact p.elim
          | ok b ε3 =>
            simp only [e3] at p
            intro H4 t4 S4
            -- behind the block's turn
            have fin : ∀ {ε4 : En} {H5 : Hp}, SR K c ε4 σ3 H5 → Step (wipeE ε' vs) (wipe σ vs) H2 ε4 σ3 H5 → SR K c (restE ε' ε4 vs) σ H5 ∧ Im H1 H5 ∧ Step ε1 σ H1 (restE ε' ε4 vs) σ H5 ∧ vs.all (fun i => notIoB (restE ε' ε4 vs)[i]?) = true ∧ H5 D = some (.lst us) ∧ RpA K H5 us acc ∧ ¬ Own (restE ε' ε4 vs) σ H5 D := fun {ε4 H5} S5 t5 => by
              obtain ⟨S6, t6⟩ := S2.rest ni' S5 hw' t5
              have i5 : Im H2 H5 := S2.im t6
              refine ⟨S6, m.trans ((S'.im t2).trans i5), st.trans (t2.trans t6), ?_, t5.kp D _ (k D _ hu) nob, RpA.im i5 _ _ us2, fun ow => (t6.ow D ow).elim no2 fun z => by rw [k D _ hu] at z; cases z⟩
              refine List.all_eq_true.mpr fun j hj => ?_
              have hl : ε4.length = ε'.length := by rw [S5.len, S'.len, ← wipe_length σ3 vs, hw', wipe_length]
              rw [restE_in hl hj]
              exact List.all_eq_true.mp ni' j hj
            cases b with
            | false =>
              simp only [Bool.false_eq_true, if_false] at p ⊢
              obtain ⟨f1, f2, f3, f4, f5, f6, f7⟩ := fin S4.ofNox (t3.trans t4)
              exact ⟨_, us, acc, f1, f2, f3, f4, f5, f6, Nat.le_succ_of_le hl, f7, p⟩
            | true =>
              simp only [if_true] at p ⊢
              refine ⟨ε3, S4, ?_⟩
              cases e4 : te ε3 with
              | stuck => simp only [e4] at p; exact p.elim
              | exc C ε4 => simp only [e4] at p; exact p.elim
              | ok d' ε4 =>
                simp only [e4] at p
                intro v H5 t5 S5 r5
                obtain ⟨f1, f2, f3, f4, f5, f6, f7⟩ := fin S5.ofNox (t3.trans (t4.trans t5))
                obtain ⟨g1, g2, g3, g4⟩ := f1.updU (o' := .lst (us ++ [v])) f5 rfl h0 f7
                have lu : us.length = acc.length := f6.length
                refine ⟨us, f5, Nat.lt_of_lt_of_le (by omega) (big_line hb), _, us ++ [v], acc ++ [d'], g1, f2.trans g4, ?_, f4, upd_same, (RpA.im g4 _ _ f6).append (.cons (Rp.im g4 _ _ r5) .nil), by simp; omega, fun ow => f7 (g2 D ow), p⟩
                refine ⟨fun b o e n => ?_, fun b ow => f3.ow b (g2 b ow), fun b o e => ?_⟩
                · have ne : b ≠ D := fun z => by subst z; rw [hD] at e; cases e
                  rw [g3 b ne]; exact f3.kp b o e n
                · by_cases z : b = D
                  · subst z; rw [upd_same]; exact fun z => nomatch z
                  · rw [g3 b z]; exact f3.tr b o e
      · intro H' ⟨ε', us, acc, S', m, st, ni', hu, ra, hl, no, p⟩
        rw [List.drop_length] at p
        exact p _ H' st S' ⟨⟨D, us, rfl, hu, ra⟩, fun b e => by cases e; exact ⟨h0, no⟩⟩ fun b e => by cases e; exact hD
    · rw [if_neg hb] at h; exact h.elim
theorem je_lc {elt tg iter : Expr} {ifs : List Expr} {scope : Scope} {own : List (Str × Nat)} {mi : M (List PD)} {t : Tg} {sl : List Nat} {tt : M Bool} {te : M PD} (hc : X.calm = true) (hN : X.N.Nodup) (hi : JI X c tg iter mi) (ok : BlkOk X.N X.env.scope scope own)
    (hg : ∀ (s : Shared) (H : Hp) (C : Addr) (cl : List (Str × Addr)) (fp : List Addr), JG (X.blk s H scope (compEnvC scope cl C X.env) fp) c.nox tg sl t) (ht : ∀ (s : Shared) (H : Hp) (C : Addr) (cl : List (Str × Addr)) (fp : List Addr), JX (X.blk s H scope (compEnvC scope cl C X.env) fp) c.nox ifs tt)
    (he : ∀ (s : Shared) (H : Hp) (C : Addr) (cl : List (Str × Addr)) (fp : List Addr), JV (X.blk s H scope (compEnvC scope cl C X.env) fp) c.nox elt te) (hsl : ∀ i ∈ sl, i ∈ own.map (·.2)) (hs : ∀ x, foldedSetIterable iter X.env x = pure x := by intro _; rfl) :
    JE X c (.ListComp elt [⟨tg, iter, ifs, 0⟩] scope pos) (mLc (own.map (·.2)) mi t tt te) :=
  pe_imp (pe_lc (g := gM X.K c.nox sl t) (tt := tT X.K c.nox tt) (te := tV X.K c.nox te) hc hN hi ok hg ht he hs) (lc_read hsl)
/-- name = [.. for ..] on one line, the name a local -/
theorem js_setLc {i : Nat} {y : Str} {py spos : Pos} {elt tg iter : Expr} {ifs : List Expr} {scope : Scope} {own : List (Str × Nat)} {mi : M (List PD)} {t : Tg} {sl : List Nat} {tt : M Bool} {te : M PD} (hc : X.calm = true) (hN : X.N.Nodup) (hy : X.N[i]? = some y) (hyl : X.env.scope.names.lookup y = some .local)
    (hsw : swapsWith (.ListComp elt [⟨tg, iter, ifs, 0⟩] scope pos) (some (.Name y py)) spos.line X.env = pure true) (hi : JI X c tg iter mi) (ok : BlkOk X.N X.env.scope scope own)
    (hg : ∀ (s : Shared) (H : Hp) (C : Addr) (cl : List (Str × Addr)) (fp : List Addr), JG (X.blk s H scope (compEnvC scope cl C X.env) fp) c.nox tg sl t) (ht : ∀ (s : Shared) (H : Hp) (C : Addr) (cl : List (Str × Addr)) (fp : List Addr), JX (X.blk s H scope (compEnvC scope cl C X.env) fp) c.nox ifs tt)
    (he : ∀ (s : Shared) (H : Hp) (C : Addr) (cl : List (Str × Addr)) (fp : List Addr), JV (X.blk s H scope (compEnvC scope cl C X.env) fp) c.nox elt te) (hsl : ∀ i ∈ sl, i ∈ own.map (·.2)) (hs : ∀ x, foldedSetIterable iter X.env x = pure x := by intro _; rfl) :
    JS X c (.Assign [.Name y py] (.ListComp elt [⟨tg, iter, ifs, 0⟩] scope pos) spos) (sSet i (mLc (own.map (·.2)) mi t tt te)) :=
  ps_imp (ps_setLc (g := gM X.K c.nox sl t) (tt := tT X.K c.nox tt) (te := tV X.K c.nox te) hc hN hy hyl hsw hi ok hg ht he hs) fun D σ H h => by
    refine lc_read hsl σ H _ ?_
    obtain ⟨ε, S, h⟩ := h
    unfold sSet at h
    refine ⟨ε, S, ?_⟩
    cases e1 : mLc (own.map (·.2)) mi t tt te ε with
    | stuck => rw [e1] at h; exact h
    | exc C ε' => rw [e1] at h; exact fun H' a b => h σ H' a b
    | ok o ε1 =>
      rw [e1, Out.bind_ok] at h
      intro v H1 t S1 r n
      cases e2 : sto i o ε1 with
      | none => simp only [e2] at h; exact h.elim
      | some ε2 =>
        simp only [e2] at h
        obtain ⟨S2, w2, _⟩ := sto_ok S1 r e2
        exact h _ _ (step_sto2 t fun b w => (w2 b w).imp id fun f => by
          cases o with
          | new ob => exact n b f
          | val d => exact f.elim
          | own k => exact f.elim) S2
end
end MM

/-! ML8: what changes a name's own list; lists and tuples many times; ranges as lists. -/
namespace MM
open PySem PySem.Spec PyProof.Rows L2

/-- the own list of a slot -/
def ownL (ε : En) (i : Nat) : Option (List PD) := match ε[i]? with
  | some (.ow (.l ds)) => some ds
  | some (.io (.l ds)) => some ds
  | _ => none
def setOb (ε : En) (i : Nat) (ob : Ob) : En := match ε[i]? with
  | some (.ow _) => ε.set i (.ow ob)
  | some (.io _) => ε.set i (.io ob)
  | _ => ε
section
variable {K : PySem.W.Frag} {c : Mc} {ε : En} {σ : L2.St} {H : Hp} {i : Nat} {ds : List PD}
theorem ownL_at (e : ownL ε i = some ds) : ε[i]? = some (.ow (.l ds)) ∨ ε[i]? = some (.io (.l ds)) := by
  unfold ownL at e
  split at e
  · cases e; exact .inl (by assumption)
  · cases e; exact .inr (by assumption)
  · cases e
theorem SR.atL (S : SR K c ε σ H) (e : ownL ε i = some ds) : ∃ a xs, σ[i]? = some (some (.ref a)) ∧ H a = some (.lst xs) ∧ RpA K H xs ds ∧ Own ε σ H a ∧ (∀ b, b ≠ a → ∀ sl, ε[i]? = some sl → ¬ SlF H sl (some (.ref a)) b) := by
  obtain ⟨v, h1, ⟨a, xs, rfl, h2, h3⟩, h4⟩ := S.atO (ownL_at e)
  refine ⟨a, xs, h1, h2, h3, h4 a rfl, fun b ne sl es f => ?_⟩
  rcases ownL_at e with z | z <;> (rw [z] at es; cases es; exact ne (by cases f; rfl))
/-- the own list is changed -/
theorem SR.setL (S : SR K c ε σ H) (e : ownL ε i = some ds) {a : Addr} {xs ys : List V} {es : List PD} (h1 : σ[i]? = some (some (.ref a))) (h2 : H a = some (.lst xs)) (r : RpA K H ys es) :
    SR K c (setOb ε i (.l es)) σ (upd H a (.lst ys)) ∧ Step ε σ H (setOb ε i (.l es)) σ (upd H a (.lst ys)) := by
  have im : Im H (upd H a (.lst ys)) := fun b o q z => by
    rw [upd_ne (fun w => by subst w; rw [h2] at q; cases q; cases z)]; exact q
  have t : ∀ b u, H b = some u → upd H a (.lst ys) b ≠ none := fun b u q => by
    by_cases w : b = a
    · subst w; rw [upd_same]; exact fun z => nomatch z
    · rw [upd_ne w, q]; exact fun z => nomatch z
  have ob : ObR K (upd H a (.lst ys)) (.l es) (.ref a) := ⟨a, ys, rfl, upd_same, RpA.im im _ _ r⟩
  rcases ownL_at e with z | z
  · have es' : setOb ε i (.l es) = ε.set i (.ow (.l es)) := by unfold setOb; rw [z]
    rw [es']
    exact S.chg (sl' := .ow (.l es)) z h1 (fun b u q n => by rw [upd_ne (fun w => n (by rw [w]; rfl))]; exact q) t ob (fun b f => f) fun o w => nomatch w
  · have es' : setOb ε i (.l es) = ε.set i (.io (.l es)) := by unfold setOb; rw [z]
    rw [es']
    exact S.chg (sl' := .io (.l es)) z h1 (fun b u q n => by rw [upd_ne (fun w => n (by rw [w]; rfl))]; exact q) t ob (fun b f => f) fun o w => ⟨_, rfl⟩
end

section
variable {X : Cx} {c : Mc} {pos apos : Pos}
def mApp (i : Nat) (m : M PD) : M Opd := fun ε => match ownL ε i with
  | none => .stuck
  | some _ => (m ε).bind fun d ε1 => match ownL ε1 i with
    | none => .stuck
    | some ds => if ds.length < big then .ok (.val .none) (setOb ε1 i (.l (ds ++ [d]))) else .stuck
theorem je_app {i : Nat} {o e : Expr} {m : M PD} (ho : PE X o (tVar i)) (he : JV X c e m) (hbase : attributeBase o "append" X.env (eval o X.env) = eval o X.env := by rfl)
    (hfew : ((backTo pos (starEach [e] X.env)).all (fun x => !x.1) && (backToKw pos (keywordEach [] X.env)).all (fun x => x.1.isSome) && decide ([e].length + ([] : List Keyword).length + (if ([] : List Keyword).isEmpty then 0 else 1) < 30)) = true := by rfl)
    (hline : (apos.endLine == pos.line) = true := by rfl) (hs : starEach [e] X.env = (false, eval e X.env) :: starEach [] X.env := by rfl) (hplain : (backTo pos (starEach [] X.env)).any (·.1) = false := by rfl) :
    JE X c (.Call (.Attribute o "append" apos) [e] [] pos) (mApp i m) :=
  pe_imp (pe_bm PySem.F.plainAttrs_list PySem.F.slot_list_append PySem.F.type_list_append mt_append ho (pa_cons he pa_nil hs) hbase hfew hline hs hplain) fun σ H Q ⟨ε, S, h⟩ => by
    unfold mApp at h
    cases e0 : ownL ε i with
    | none => simp only [e0] at h; exact h.elim
    | some ds0 =>
      simp only [e0] at h
      obtain ⟨a, xs, h1, h2, h3, _⟩ := S.atL e0
      refine ⟨_, h1, .inl ⟨rfl, xs, SqL.of h2⟩, ε, S, ?_⟩
      cases e1 : m ε with
      | stuck => rw [e1] at h; exact h
      | exc C ε' => rw [e1] at h; exact h
      | ok d ε1 =>
        rw [e1, Out.bind_ok] at h
        intro v H1 t1 S1 r1
        cases e2 : ownL ε1 i with
        | none => simp only [e2] at h; exact h.elim
        | some ds =>
          simp only [e2] at h
          obtain ⟨a', ys, g1, g2, g3, _⟩ := S1.atL e2
          have ea : some (some (V.ref a)) = some (some (V.ref a')) := h1.symm.trans g1
          cases ea
          by_cases hl : ds.length < big
          · rw [if_pos hl] at h
            obtain ⟨S2, t2⟩ := S1.setL e2 g1 g2 (g3.append (.cons r1 .nil))
            exact ⟨a, ys, v, rfl, rfl, g2, Nat.lt_of_lt_of_le (by rw [g3.length]; exact hl) (big_line (Nat.le_refl _)), h _ _ (t1.trans t2) S2 .non trivial⟩
          · rw [if_neg hl] at h; exact h.elim
/-- with a new list, or another name's own -/
def mExt (i : Nat) (m : M Opd) : M Opd := fun ε => match ownL ε i with
  | none => .stuck
  | some _ => (m ε).bind fun o ε1 => match ownL ε1 i with
    | none => .stuck
    | some ds => match o with
      | .new (.l es) => if ds.length + es.length ≤ big then .ok (.val .none) (setOb ε1 i (.l (ds ++ es))) else .stuck
      | .own k => match ownL ε1 k with
        | some es => if ds.length + es.length ≤ big then .ok (.val .none) (setOb ε1 i (.l (ds ++ es))) else .stuck
        | none => .stuck
      | _ => .stuck
theorem je_ext {i : Nat} {o e : Expr} {m : M Opd} (ho : PE X o (tVar i)) (he : JE X c e m) (hbase : attributeBase o "extend" X.env (eval o X.env) = eval o X.env := by rfl)
    (hfew : ((backTo pos (starEach [e] X.env)).all (fun x => !x.1) && (backToKw pos (keywordEach [] X.env)).all (fun x => x.1.isSome) && decide ([e].length + ([] : List Keyword).length + (if ([] : List Keyword).isEmpty then 0 else 1) < 30)) = true := by rfl)
    (hline : (apos.endLine == pos.line) = true := by rfl) (hs : starEach [e] X.env = (false, eval e X.env) :: starEach [] X.env := by rfl) (hplain : (backTo pos (starEach [] X.env)).any (·.1) = false := by rfl) :
    JE X c (.Call (.Attribute o "extend" apos) [e] [] pos) (mExt i m) :=
  pe_imp (pe_bm PySem.F.plainAttrs_list PySem.F.slot_list_extend PySem.F.type_list_extend mt_extend ho (pa_cons he pa_nil hs) hbase hfew hline hs hplain) fun σ H Q ⟨ε, S, h⟩ => by
    unfold mExt at h
    cases e0 : ownL ε i with
    | none => simp only [e0] at h; exact h.elim
    | some ds0 =>
      simp only [e0] at h
      obtain ⟨a, xs, h1, h2, h3, _⟩ := S.atL e0
      refine ⟨_, h1, .inl ⟨rfl, xs, SqL.of h2⟩, ε, S, ?_⟩
      cases e1 : m ε with
      | stuck => rw [e1] at h; exact h
      | exc C ε' => rw [e1] at h; exact h
      | ok op ε1 =>
        rw [e1, Out.bind_ok] at h
        intro v H1 t1 S1 r1 n1
        cases e2 : ownL ε1 i with
        | none => simp only [e2] at h; exact h.elim
        | some ds =>
          simp only [e2] at h
          obtain ⟨a', ys, g1, g2, g3, _⟩ := S1.atL e2
          have ea : some (some (V.ref a)) = some (some (V.ref a')) := h1.symm.trans g1
          cases ea
          cases op with
          | val d => exact h.elim
          | new ob =>
            cases ob with
            | dk kvs => exact h.elim
            | dn kvs => exact h.elim
            | ll dss => exact h.elim
            | ins x fs => exact h.elim
            | l es =>
              simp only at h
              obtain ⟨⟨b, zs, rfl, hb, rb⟩, _⟩ := r1
              by_cases hl : ds.length + es.length ≤ big
              · rw [if_pos hl] at h
                obtain ⟨S2, t2⟩ := S1.setL e2 g1 g2 (g3.append rb)
                exact ⟨a, b, ys, zs, rfl, rfl, g2, hb, by rw [g3.length, rb.length]; exact big_line hl, h _ _ (t1.trans t2) S2 .non trivial⟩
              · rw [if_neg hl] at h; exact h.elim
          | own k =>
            simp only at h
            cases e3 : ownL ε1 k with
            | none => simp only [e3] at h; exact h.elim
            | some es =>
              simp only [e3] at h
              obtain ⟨b, zs, k1, hb, rb, _⟩ := S1.atL e3
              have eb : some (some v) = some (some (V.ref b)) := r1.symm.trans k1
              cases eb
              by_cases hl : ds.length + es.length ≤ big
              · rw [if_pos hl] at h
                obtain ⟨S2, t2⟩ := S1.setL e2 g1 g2 (g3.append rb)
                exact ⟨a, b, ys, zs, rfl, rfl, g2, hb, by rw [g3.length, rb.length]; exact big_line hl, h _ _ (t1.trans t2) S2 .non trivial⟩
              · rw [if_neg hl] at h; exact h.elim
/-- x[i] = e -/
def sSetIx (i : Nat) (mi : M Opd) (me : M PD) : M Fl := fun ε => (me ε).bind fun d ε1 => match ownL ε1 i with
  | none => .stuck
  | some _ => (mi ε1).bind fun o ε2 => match o with
    | .val (.int k) => match ownL ε2 i with
      | none => .stuck
      | some ds => match ixN ds.length k with
        | none => .stuck
        | some j => .ok .nx (setOb ε2 i (.l (ds.set j d)))
    | _ => .stuck
theorem js_setIx {i : Nat} {o ix e : Expr} {mi : M Opd} {me : M PD} {p2 : Pos} (ho : PE X o (tVar i)) (hi : JE X c ix mi) (he : JV X c e me)
    (hsub : ∀ v, assign (.Subscript o ix p2) X.env v = (do
      let ov ← holding [v] (eval o X.env)
      let iv ← holding [v, ov] (eval ix X.env)
      standAt p2
      holding [v, ov, iv] (setItem ov iv v)
      release [v, ov, iv] []) := by intro _; rfl)
    (hs : swapsWithSole [.Subscript o ix p2] e pos.line X.env = pure false := by rfl) (hw : swappedStores [.Subscript o ix p2] e X.env = pure none := by rfl)
    (h1 : (assignEach [.Subscript o ix p2] X.env).map (·.2) = [assign (.Subscript o ix p2) X.env] := by rfl) : JS X c (.Assign [.Subscript o ix p2] e pos) (sSetIx i mi me) :=
  ps_imp (ps_asg he (pg_sub ho hi set_list hsub) hs hw h1) fun D σ H ⟨ε, S, h⟩ => ⟨ε, S, val_then h fun d ε1 v H1 _ t1 S1 rd p => by
    cases e0 : ownL ε1 i with
    | none => simp only [e0] at p; exact p.elim
    | some ds0 =>
      simp only [e0] at p
      obtain ⟨a, xs, h1, h2, h3, _⟩ := S1.atL e0
      refine ⟨_, h1, ε1, S1, ?_⟩
      cases e1 : mi ε1 with
      | stuck => rw [e1] at p; exact p
      | exc C ε' => rw [e1] at p; exact fun H' a b => p σ H' a b
      | ok op ε2 =>
        rw [e1, Out.bind_ok] at p
        intro u H2 t2 S2 r2 _
        cases op with
        | val dk =>
          cases dk with
          | int k =>
            simp only at p
            cases r2
            cases e2 : ownL ε2 i with
            | none => simp only [e2] at p; exact p.elim
            | some ds =>
              simp only [e2] at p
              obtain ⟨a', ys, g1, g2, g3, _⟩ := S2.atL e2
              have ea : some (some (V.ref a)) = some (some (V.ref a')) := h1.symm.trans g1
              cases ea
              cases e3 : ixN ds.length k with
              | none => simp only [e3] at p; exact p.elim
              | some j =>
                simp only [e3] at p
                obtain ⟨S3, t3⟩ := S2.setL e2 g1 g2 (RpA.set (Rp.im (S1.im t2) _ _ rd) j g3)
                exact ⟨a, ys, k, j, rfl, rfl, g2, by rw [g3.length]; exact e3, p _ _ (t2.trans t3) S3⟩
          | _ => exact p.elim
        | _ => exact p.elim⟩

/-! ### many times -/
/-- a new list so many times -/
def gRep : Opd → Opd → M Opd
  | .new (.l ds), .val (.int k) => fun ε => if midI k = true ∧ ds.length * k.toNat ≤ big then .ok (.new (.l (List.replicate k.toNat ds).flatten)) ε else .stuck
  | _, _ => fun _ => .stuck
def mRep (ma mb : M Opd) : M Opd := mBin gRep ma mb
theorem je_rep {a b : Expr} {ma mb : M Opd} (ha : JE X c a ma) (hb : JE X c b mb) : JE X c (.BinOp a .Mult b pos) (mRep ma mb) := by
  refine je_bin (op_imp op_rep fun x y H Q L ⟨ε, σ, o1, o2, S, r1, r2, p⟩ => ?_) ha hb
  unfold gRep at p
  split at p
  · rename_i ds k
    split at p
    · rename_i hc
      obtain ⟨⟨l, xs, rfl, hl, ra⟩, _⟩ := r1
      cases r2
      have hk := midI_ok hc.1
      exact ⟨l, k, xs, rfl, rfl, hl, by omega, by omega, by rw [ra.length]; exact big_line hc.2, fun q hq => PostP.nlst (PostP.of S noNew p) (ra.rep k.toNat) hq⟩
    · exact p.elim
  · exact p.elim

/-! ### list(range(..)), xs[::-1] -/
def PRm (X : Cx) (c : Mc) (e : Expr) (m : M (Int × Int)) : Prop := PRg X e (fun σ H Q => ∃ ε, SR X.K c ε σ H ∧ match m ε with
  | .ok p ε' => ∀ H', Step ε σ H ε' σ H' → SR X.K c ε' σ H' → Q p.1 p.2 H'
  | .exc C ε' => ∀ H', Step ε σ H ε' σ H' → SR X.K c ε' σ H' → c.W C ε' σ H'
  | .stuck => False)
def rg1 (m : M Opd) : M (Int × Int) := fun ε => (m ε).bind fun o ε1 => match o with
  | .val (.int n) => .ok (0, n) ε1
  | _ => .stuck
theorem prg_imp {e : Expr} {t t' : L2.St → Hp → (Int → Int → Hp → Prop) → Prop} (h : PRg X e t) (i : ∀ σ H Q, t' σ H Q → t σ H Q) : PRg X e t' := by
  intro pins s σ H Q I w
  exact h pins s σ H Q I (i _ _ _ w)
theorem prm_1 {a : Expr} {m : M Opd} {p : Pos} (hg : Gl X "range") (hm : X.mg "range" = none) (ha : JE X c a m) (na : starEach [a] X.env = (false, eval a X.env) :: starEach [] X.env := by rfl) : PRm X c (.Call (.Name "range" p) [a] [] pos) (rg1 m) :=
  prg_imp (prg_1 hg hm ha na) fun σ H Q ⟨ε, S, h⟩ => by
    refine ⟨ε, S, ?_⟩
    unfold rg1 at h
    cases e1 : m ε with
    | stuck => simp only [e1, Out.bind_stuck] at h
    | exc C ε' => simp only [e1, Out.bind_exc] at h; exact h
    | ok o ε1 =>
      simp only [e1, Out.bind_ok] at h
      intro v H1 t1 S1 r1 _
      cases o with
      | val d =>
        cases d with
        | int n => cases r1; exact ⟨n, rfl, h H1 t1 S1⟩
        | _ => exact h.elim
      | _ => exact h.elim
def mListRg (m : M (Int × Int)) : M Opd := fun ε => (m ε).bind fun p ε1 => if 0 ≤ p.1 ∧ p.1 ≤ 1000000 ∧ 0 ≤ p.2 ∧ p.2 ≤ 1000000 then .ok (.new (.l (rngD p.1 1 (p.2 - p.1).toNat))) ε1 else .stuck
theorem rgV_rp {K : PySem.W.Frag} {H : Hp} (a b : Int) : RpA K H (rgV a b) (rngD a 1 (b - a).toNat) := by
  have key : ∀ (l : List Nat), RpA K H (l.map fun (i : Nat) => V.int (a + (i : Int))) (l.map fun (i : Nat) => PyData.int (a + (i : Int) * 1)) := by
    intro l
    induction l with
    | nil => exact .nil
    | cons i l ih => exact .cons (by show Rp K H (V.int (a + (i : Int))) (PyData.int (a + (i : Int) * 1)); rw [Int.mul_one]; exact .int _) ih
  exact key _
theorem je_listRg {e : Expr} {m : M (Int × Int)} {p : Pos} (hc : X.calm = true) (hg : Gl X "list") (hm : X.mg "list" = none) (he : PRm X c e m) (na : starEach [e] X.env = (false, eval e X.env) :: starEach [] X.env := by rfl) : JE X c (.Call (.Name "list" p) [e] [] pos) (mListRg m) :=
  pe_imp (pe_listRg hc hg hm he na) fun σ H Q ⟨ε, S, h⟩ => by
    refine ⟨ε, S, ?_⟩
    unfold mListRg at h
    cases e1 : m ε with
    | stuck => simp only [e1, Out.bind_stuck] at h; exact h.elim
    | exc C ε' => simp only [e1, Out.bind_exc] at h; exact h
    | ok q ε1 =>
      simp only [e1, Out.bind_ok] at h
      intro H1 t1 S1
      by_cases hq : 0 ≤ q.1 ∧ q.1 ≤ 1000000 ∧ 0 ≤ q.2 ∧ q.2 ≤ 1000000
      · rw [if_pos hq] at h
        exact ⟨RgOk.of_le hq.1 (by omega) (by omega) hq.2.2.1, fun z hz => PostP.nlst (PostP.of S1 noNew (PostE.step t1 h)) (rgV_rp _ _) hz⟩
      · rw [if_neg hq] at h; exact h.elim
def fRev : PD → Option Opd
  | .list ds => some (.new (.l ds.reverse))
  | _ => none
theorem je_revL {e : Expr} {m : M Opd} {k : Nat} {p1 p2 p3 : Pos} (he : JE X c e m) : JE X c (.Subscript e (.Slice none none (some (.UnaryOp .USub (.Constant (.int 1) k p1) p2)) p3) pos) (mUn (lift1 fRev) m) :=
  pe_imp (pe_revL he) fun σ H Q h => by
    obtain ⟨ε, S, h'⟩ := un_read σ H Q h
    refine ⟨ε, S, ?_⟩
    cases e : m ε with
    | stuck => rw [e] at h'; exact h'
    | exc C ε' => rw [e] at h'; exact h'
    | ok o ε1 =>
      rw [e] at h'
      intro v H1 t1 S1 r1 n1
      obtain ⟨ε2, σ2, o2, S2, r2, p⟩ := h' v H1 t1 S1 r1 n1
      unfold lift1 at p
      cases e1 : rdO ε2 o2 with
      | none => simp only [e1, Option.bind_none] at p; exact p.elim
      | some d1 =>
        have rd := r2.rd S2 e1
        cases d1 with
        | list ds =>
          simp only [e1, fRev, Option.bind_some] at p
          obtain ⟨a, xs, rfl, ha, ra⟩ := rd.lst
          exact ⟨a, xs, rfl, rd_sqL ha, fun q hq => PostP.nlst (PostP.of S2 noNew p) ra.reverse hq⟩
        | _ => simp only [e1, fRev, Option.bind_some] at p; exact p.elim
end
end MM

/-! ML9: defs and their calls. -/
namespace MM
open PySem PySem.Spec PyProof.Rows L2

inductive FOut where
  | ok (d : PD) (as : List Sl)
  | nw (ob : Ob) (as : List Sl)
  | exc (C : Str) (as : List Sl)
  | stuck
def isArg : Sl → Prop
  | .p _ => True
  | .io _ => True
  | _ => False
/-- arguments: values, objects lent -/
structure ArgR (K : PySem.W.Frag) (H : Hp) (as : List Sl) (vs : List V) : Prop where
  len : as.length = vs.length
  rel : ∀ (i : Nat) (sl : Sl) (v : V), as[i]? = some sl → vs[i]? = some v → SoR K H sl (some v) ∧ isArg sl
  dis : ∀ (i j : Nat) (sl sl' : Sl) (v v' : V) (b : Addr), as[i]? = some sl → vs[i]? = some v → SlF H sl (some v) b → as[j]? = some sl' → vs[j]? = some v' → SlF H sl' (some v') b → i = j
structure ArgStep (K : PySem.W.Frag) (as : List Sl) (vs : List V) (H : Hp) (as' : List Sl) (H' : Hp) : Prop where
  args : ArgR K H' as' vs
  step : Step as (vs.map some) H as' (vs.map some) H'
  io : ∀ (i : Nat) (ob : Ob), as[i]? = some (.io ob) → ∃ ob', as'[i]? = some (.io ob')
/-- a def's promise by its mirror -/
def spF (K : PySem.W.Frag) (mg : Str → Option Value) (np : Nat) (F : List Sl → FOut) : Sp := fun vs H Q E => ∃ as, as.length = np ∧ ArgR K H as vs ∧ match F as with
  | .ok d as' => ∀ v H', ArgStep K as vs H as' H' → Rp K H' v d → Q v H'
  | .nw ob as' => ∀ v H', ArgStep K as vs H as' H' → ObR K H' ob v → (∀ b, Ft H' ob v b → H b = none ∧ ¬ Own as' (vs.map some) H' b) → Q v H'
  | .exc C as' => ∀ cls H', mg C = some cls → ArgStep K as vs H as' H' → E cls none H'
  | .stuck => False
/-- the wish about exceptions -/
def mW (K : PySem.W.Frag) (mg : Str → Option Value) (c : Mc) : WX := fun cls d σ H => ∃ C ε, mg C = some cls ∧ d = none ∧ SR K c ε σ H ∧ c.W C ε σ H
abbrev TK (X : Cx) (c : Mc) : Prop := Takes X (mW X.K X.mg c)
theorem tk_nox {X : Cx} {c : Mc} : TK X c.nox := fun u s' ⟨_, _, _, _, _, _, _, _, _, _, _, _, _, _, _, _, _, _, _, _, _, z⟩ => z.elim

/-! ### a def -/
def outs (as : List Sl) (ε : En) : List Sl := List.zipWith (fun a e => match a with
  | .io _ => e
  | a => a) as ε
def finF (as : List Sl) : Out Fl → FOut
  | .ok (.rt d) ε => if as.length ≤ ε.length then .ok d (outs as ε) else .stuck
  | .ok (.rn ob) ε => if as.length ≤ ε.length then .nw ob (outs as ε) else .stuck
  | .ok .nx ε => if as.length ≤ ε.length then .ok .none (outs as ε) else .stuck
  | .exc C ε => if as.length ≤ ε.length then .exc C (outs as ε) else .stuck
  | _ => .stuck
def runF (np nN : Nat) (m : M Fl) (as : List Sl) : FOut := finF as (m (as ++ List.replicate (nN - np) .no))
section
variable {K : PySem.W.Frag} {H H' : Hp} {as : List Sl} {vs : List V} {W : Str → En → L2.St → Hp → Prop}
def mcOf (H : Hp) (as : List Sl) (vs : List V) (W : Str → En → L2.St → Hp → Prop) : Mc := ⟨H, Own as (vs.map some) H, fun i v => (∃ ob, as[i]? = some (.io ob)) ∧ vs[i]? = some v, W⟩
theorem getS {i : Nat} {ov : Option V} (h : (vs.map some)[i]? = some ov) : ∃ v, vs[i]? = some v ∧ ov = some v := by
  rw [List.getElem?_map] at h
  cases e : vs[i]? with
  | none => rw [e] at h; cases h
  | some v => rw [e] at h; exact ⟨v, rfl, (Option.some.inj h).symm⟩
theorem entry_sr (A : ArgR K H as vs) {N : List Str} (hN : as.length ≤ N.length) : SR K (mcOf H as vs W) (as ++ List.replicate (N.length - as.length) .no) (L2.start N vs) H := by
  have ge : ∀ {i : Nat} {sl : Sl} {ov : Option V}, (as ++ List.replicate (N.length - as.length) Sl.no)[i]? = some sl → (L2.start N vs)[i]? = some ov → sl = .no ∨ ∃ v, as[i]? = some sl ∧ vs[i]? = some v ∧ ov = some v := fun {i sl ov} e1 e2 => by
    by_cases hi : i < as.length
    · rw [List.getElem?_append_left hi] at e1
      unfold L2.start at e2
      rw [List.getElem?_append_left (by rw [List.length_map, ← A.len]; exact hi)] at e2
      obtain ⟨v, h1, h2⟩ := getS e2
      exact .inr ⟨v, e1, h1, h2⟩
    · rw [List.getElem?_append_right (by omega), List.getElem?_replicate] at e1
      split at e1
      · cases e1; exact .inl rfl
      · cases e1
  refine ⟨by unfold L2.start; simp [A.len], fun a o h _ => h, fun a f e => ?_, fun i v ⟨⟨ob, h1⟩, h2⟩ => ?_, fun i sl ov e1 e2 => ?_, fun i sl ov b e1 e2 f => ?_, fun i sl ov b e1 e2 f n => ?_, fun i j sl sl' ov ov' b e1 e2 f e3 e4 f' => ?_⟩
  · obtain ⟨i, sl, ov, e1, e2, g⟩ := f
    obtain ⟨v, h1, rfl⟩ := getS e2
    obtain ⟨u, hu, _⟩ := (A.rel i sl v e1 h1).1.trk g
    rw [e] at hu; cases hu
  · have hi := (List.getElem?_eq_some_iff.mp h1).1
    refine ⟨?_, ob, by rw [List.getElem?_append_left hi]; exact h1⟩
    unfold L2.start
    rw [List.getElem?_append_left (by rw [List.length_map, ← A.len]; exact hi), List.getElem?_map, h2]
    rfl
  · rcases ge e1 e2 with z | ⟨v, h1, h2, h3⟩
    · subst z; exact trivial
    · subst h3; exact (A.rel i sl v h1 h2).1
  · rcases ge e1 e2 with z | ⟨v, h1, h2, h3⟩
    · subst z; exact f.elim
    · subst h3; exact .inl ⟨i, sl, some v, h1, by rw [List.getElem?_map, h2]; rfl, f⟩
  · rcases ge e1 e2 with z | ⟨v, h1, h2, h3⟩
    · subst z; exact f.elim
    · have ia := (A.rel i sl v h1 h2).2
      cases sl with
      | no => exact ia.elim
      | ow o => exact ia.elim
      | p d => exact f.elim
      | io o => exact absurd rfl (n o)
  · rcases ge e1 e2 with z | ⟨v, h1, h2, h3⟩
    · subst z; exact f.elim
    · rcases ge e3 e4 with z | ⟨v', h4, h5, h6⟩
      · subst z; exact f'.elim
      · subst h3 h6
        exact A.dis i j sl sl' v v' b h1 h2 f h4 h5 f'
theorem outs_get {ε : En} {i : Nat} {sl : Sl} (h : (outs as ε)[i]? = some sl) : ∃ a e, as[i]? = some a ∧ ε[i]? = some e ∧ sl = (match a with
  | .io _ => e
  | a => a) := by
  unfold outs at h
  rw [List.getElem?_zipWith] at h
  cases e1 : as[i]? with
  | none => rw [e1] at h; cases h
  | some a =>
    cases e2 : ε[i]? with
    | none => rw [e1, e2] at h; cases h
    | some e => rw [e1, e2] at h; exact ⟨a, e, rfl, rfl, (Option.some.inj h).symm⟩
theorem exit_as (A : ArgR K H as vs) {ε : En} {σ : L2.St} (S : SR K (mcOf H as vs W) ε σ H') (hl : as.length ≤ ε.length) : ArgStep K as vs H (outs as ε) H' := by
  have fz : ∀ b o, H b = some o → Fz o = true → ¬ Own as (vs.map some) H b := fun b o h z ⟨i, sl, ov, e1, e2, f⟩ => by
    obtain ⟨v, h1, rfl⟩ := getS e2
    obtain ⟨u, hu, fu, _⟩ := (A.rel i sl v e1 h1).1.trk f
    rw [h] at hu; cases hu
    rw [z] at fu; cases fu
  have im : Im H H' := fun b o h z => S.fr b o h (fz b o h z)
  have ol : (outs as ε).length = as.length := by unfold outs; rw [List.length_zipWith]; omega
  -- what stands in a slot behind the call
  have at_ : ∀ (i : Nat) (sl : Sl) (v : V), (outs as ε)[i]? = some sl → vs[i]? = some v → (∃ d, sl = .p d ∧ as[i]? = some (.p d)) ∨ (∃ ob, sl = .io ob ∧ ε[i]? = some (.io ob) ∧ σ[i]? = some (some v)) := fun i sl v h1 h2 => by
    obtain ⟨a, e, ea, ee, es⟩ := outs_get h1
    have ia := (A.rel i a v ea h2).2
    cases a with
    | no => exact ia.elim
    | ow o => exact ia.elim
    | p d => exact .inl ⟨d, es, ea⟩
    | io o =>
      obtain ⟨p1, ob, p2⟩ := S.pm i v ⟨⟨o, ea⟩, h2⟩
      rw [ee] at p2; cases p2
      exact .inr ⟨ob, es, ee, p1⟩
  refine ⟨⟨ol.trans A.len, fun i sl v h1 h2 => ?_, fun i j sl sl' v v' b h1 h2 f h3 h4 f' => ?_⟩, ⟨fun b o h n => S.fr b o h n, fun b ⟨i, sl, ov, h1, h2, f⟩ => ?_, fun b o h e => ?_⟩, fun i ob h => ?_⟩
  · rcases at_ i sl v h1 h2 with ⟨d, e, ea⟩ | ⟨ob, e, ee, es⟩
    · subst e; exact ⟨Rp.im im _ _ (A.rel i _ v ea h2).1, trivial⟩
    · subst e; exact ⟨S.rel i _ _ ee es, trivial⟩
  · rcases at_ i sl v h1 h2 with ⟨d, e, ea⟩ | ⟨ob, e, ee, es⟩
    · subst e; exact f.elim
    · rcases at_ j sl' v' h3 h4 with ⟨d, e', ea⟩ | ⟨ob', e', ee', es'⟩
      · subst e'; exact f'.elim
      · subst e e'
        exact S.dis i j _ _ _ _ b ee es f ee' es' f'
  · obtain ⟨v, hv, rfl⟩ := getS h2
    rcases at_ i sl v h1 hv with ⟨d, e, ea⟩ | ⟨ob, e, ee, es⟩
    · subst e; exact f.elim
    · subst e; exact S.own i _ _ b ee es f
  · by_cases fb : Own as (vs.map some) H b
    · exact S.fin b fb e
    · rw [S.fr b o h fb] at e; cases e
  · have hi := (List.getElem?_eq_some_iff.mp h).1
    have hv : i < vs.length := by rw [← A.len]; exact hi
    obtain ⟨p1, ob', p2⟩ := S.pm i vs[i] ⟨⟨ob, h⟩, by simp [hv]⟩
    refine ⟨ob', ?_⟩
    unfold outs
    rw [List.getElem?_zipWith, h, p2]
theorem own_outs (A : ArgR K H as vs) {ε : En} {σ : L2.St} (S : SR K (mcOf H as vs W) ε σ H') {b : Addr} (w : Own (outs as ε) (vs.map some) H' b) : IoO ε σ H' b := by
  obtain ⟨i, sl, ov, h1, h2, f⟩ := w
  obtain ⟨v, hv, rfl⟩ := getS h2
  obtain ⟨a, e, ea, ee, es⟩ := outs_get h1
  have ia := (A.rel i a v ea hv).2
  cases a with
  | no => exact ia.elim
  | ow o => exact ia.elim
  | p d => subst es; exact f.elim
  | io o =>
    obtain ⟨p1, ob, p2⟩ := S.pm i v ⟨⟨o, ea⟩, hv⟩
    rw [ee] at p2; cases p2
    subst es
    exact ⟨i, ob, some v, ee, p1, f⟩
end
section
variable {P : Program} {w : World} {K : PySem.W.Frag} {mg : Str → Option Value} {base : Heap}
/-- THE RULE for a def -/
theorem fn_ok {x qual : Str} {st : Stmt} {f : Addr} {fd : FuncData} {N ps : List Str} {k : Nat} {m : M Fl} (F : Fun K x qual st f fd) (S : FnScope N ps (defScope st))
    (hb : ∀ (cdv : Value) (A : Around) (outer : List Env) (s : Shared) (H : Hp) (E : XK) (c : Mc), Room k (A.deeper (envOfC qual (defScope st) s.heap.objs.size f cdv)) → TK (cxOf (L2.CX P w) P w K mg base N qual (defScope st) f cdv A outer s H E) c →
      PassesOwn (model P w) (A.deeper (envOfC qual (defScope st) s.heap.objs.size f cdv)) (envOfC qual (defScope st) s.heap.objs.size f cdv) (cxOf (L2.CX P w) P w K mg base N qual (defScope st) f cdv A outer s H E).xe →
      JB (cxOf (L2.CX P w) P w K mg base N qual (defScope st) f cdv A outer s H E) c (defBody st) m) : FnOk P w K mg base (L2.CX P w) (k + 1) f fd ps (spF K mg ps.length (runF ps.length N.length m)) := by
  have hpn : ps.length ≤ N.length := by
    have := congrArg List.length S.pre
    rw [List.length_take] at this
    omega
  refine F.okX S (fun vs H Q E ⟨as, hl, A, _⟩ => by rw [← A.len]; exact hl) (fun cdv A outer s H vs Q E hr ⟨as, hl, AR, h⟩ => ?_)
  have tk0 : Takes (cxOf (L2.CX P w) P w K mg base N qual (defScope st) f cdv A outer s H E) (fun cls d _ H => E cls d H) := takes_of rfl rfl rfl rfl
  have pp : PassesOwn (model P w) (A.deeper (envOfC qual (defScope st) s.heap.objs.size f cdv)) (envOfC qual (defScope st) s.heap.objs.size f cdv) (cxOf (L2.CX P w) P w K mg base N qual (defScope st) f cdv A outer s H E).xe := passes_of (X := cxOf (L2.CX P w) P w K mg base N qual (defScope st) f cdv A outer s H E) rfl
  have body := hb cdv A outer s H E (mcOf H as vs fun C ε σ H' => ∀ cls, mg C = some cls → E cls none H') hr (tk0.imp fun cls d σ H' ⟨C, ε, h1, h2, _, h4⟩ => by subst h2; exact h4 cls h1) pp
  refine ⟨_, body, ?_⟩
  refine ⟨as ++ List.replicate (N.length - as.length) Sl.no, entry_sr (N := N) AR (by omega), ?_⟩
  unfold runF at h
  rw [hl]
  cases e : m (as ++ List.replicate (N.length - ps.length) Sl.no) with
  | stuck => rw [e] at h; exact h
  | exc C ε =>
    rw [e] at h
    simp only [finF] at h
    by_cases hle : as.length ≤ ε.length
    · rw [if_pos hle] at h
      exact fun σ' H' t S' cls hc => h cls H' hc (exit_as AR S' hle)
    · rw [if_neg hle] at h; exact h.elim
  | ok fl ε =>
    rw [e] at h
    cases fl with
    | nx =>
      simp only [finF] at h
      by_cases hle : as.length ≤ ε.length
      · rw [if_pos hle] at h
        exact fun σ' H' t S' => h _ H' (exit_as AR S' hle) .non
      · rw [if_neg hle] at h; exact h.elim
    | rt d =>
      simp only [finF] at h
      by_cases hle : as.length ≤ ε.length
      · rw [if_pos hle] at h
        exact fun v σ' H' t S' r => h v H' (exit_as AR S' hle) r
      · rw [if_neg hle] at h; exact h.elim
    | rn ob =>
      simp only [finF] at h
      by_cases hle : as.length ≤ ε.length
      · rw [if_pos hle] at h
        exact fun v σ' H' t S' r f => h v H' (exit_as AR S' hle) r fun b q => ⟨(f b q).1, fun w => (f b q).2 (own_outs AR S' w)⟩
      · rw [if_neg hle] at h; exact h.elim
    | bk => exact h.elim
    | ct => exact h.elim
end

/-! ### a call -/
def argsOf (ε : En) : List Opd → Option (List Sl)
  | [] => some []
  | .val d :: os => (argsOf ε os).map (.p d :: ·)
  | .new ob :: os => (argsOf ε os).map (.io ob :: ·)
  | .own k :: os => match ε[k]? with
    | some (.ow ob) => (argsOf ε os).map (.io ob :: ·)
    | some (.io ob) => (argsOf ε os).map (.io ob :: ·)
    | _ => none
def ownsOf : List Opd → List Nat
  | [] => []
  | .own k :: os => k :: ownsOf os
  | _ :: os => ownsOf os
/-- what was lent comes back -/
def wb : List Opd → List Sl → En → En
  | .own k :: os, .io ob :: as, ε => wb os as (setOb ε k ob)
  | _ :: os, _ :: as, ε => wb os as ε
  | _, _, ε => ε
/-- how many are no values -/
def muts : List Opd → Nat
  | [] => 0
  | .val _ :: os => muts os
  | _ :: os => muts os + 1
theorem owns_muts : ∀ os : List Opd, (ownsOf os).length ≤ muts os
  | [] => Nat.le_refl _
  | .val _ :: os => owns_muts os
  | .new _ :: os => Nat.le_succ_of_le (owns_muts os)
  | .own _ :: os => Nat.succ_le_succ (owns_muts os)
theorem muts_pos : ∀ {os : List Opd} {j : Nat} {o : Opd}, os[j]? = some o → (∀ d, o ≠ .val d) → 0 < muts os
  | o :: os, 0, _, e, n => by
    simp at e; subst e
    cases o with
    | val d => exact absurd rfl (n d)
    | own k => exact Nat.succ_pos _
    | new ob => exact Nat.succ_pos _
  | o :: os, j + 1, _, e, n => by
    have := muts_pos (os := os) (j := j) (by simpa using e) n
    cases o <;> simp only [muts] <;> omega
theorem muts_one : ∀ {os : List Opd} {i j : Nat} {o o' : Opd}, muts os ≤ 1 → os[i]? = some o → (∀ d, o ≠ .val d) → os[j]? = some o' → (∀ d, o' ≠ .val d) → i = j
  | o :: os, 0, 0, _, _, _, _, _, _, _ => rfl
  | o :: os, 0, j + 1, _, _, h, e1, n1, e2, n2 => by
    have := muts_pos (os := os) (j := j) (by simpa using e2) n2
    simp at e1; subst e1
    cases o with
    | val d => exact absurd rfl (n1 d)
    | own k => simp only [muts] at h; omega
    | new ob => simp only [muts] at h; omega
  | o :: os, i + 1, 0, _, _, h, e1, n1, e2, n2 => by
    have := muts_pos (os := os) (j := i) (by simpa using e1) n1
    simp at e2; subst e2
    cases o with
    | val d => exact absurd rfl (n2 d)
    | own k => simp only [muts] at h; omega
    | new ob => simp only [muts] at h; omega
  | o :: os, i + 1, j + 1, _, _, h, e1, n1, e2, n2 => by
    have h' : muts os ≤ 1 := by cases o <;> simp only [muts] at h <;> omega
    rw [muts_one (os := os) (i := i) (j := j) h' (by simpa using e1) n1 (by simpa using e2) n2]
def mCall (F : List Sl → FOut) (ma : M (List Opd)) : M Opd := fun ε => (ma ε).bind fun os ε1 => match argsOf ε1 os with
  | none => .stuck
  | some as => if muts os ≤ 1 then (match F as with
      | .ok d as' => .ok (.val d) (wb os as' ε1)
      | .nw ob as' => .ok (.new ob) (wb os as' ε1)
      | .exc C as' => .exc C (wb os as' ε1)
      | .stuck => .stuck) else .stuck
section
variable {K : PySem.W.Frag} {c : Mc} {ε ε1 : En} {σ σ1 : L2.St} {H H' Hs : Hp} {os : List Opd} {as as' : List Sl} {vs : List V}
theorem args_get : ∀ {os : List Opd} {as : List Sl}, argsOf ε os = some as → as.length = os.length ∧ ∀ (i : Nat) (sl : Sl), as[i]? = some sl → (∃ d, os[i]? = some (.val d) ∧ sl = .p d) ∨ (∃ ob, os[i]? = some (.new ob) ∧ sl = .io ob) ∨
    (∃ k ob, os[i]? = some (.own k) ∧ sl = .io ob ∧ (ε[k]? = some (.ow ob) ∨ ε[k]? = some (.io ob)))
  | [], as, e => by cases e; exact ⟨rfl, fun i sl h => by simp at h⟩
  | o :: os, as, e => by
    have cons : ∀ {s0 : Sl}, (argsOf ε os).map (s0 :: ·) = some as → ∃ as0, as = s0 :: as0 ∧ argsOf ε os = some as0 := fun {s0} e => by
      cases e1 : argsOf ε os with
      | none => rw [e1] at e; cases e
      | some as0 => rw [e1] at e; cases e; exact ⟨as0, rfl, rfl⟩
    have step : ∀ {s0 : Sl}, (argsOf ε os).map (s0 :: ·) = some as → ((∃ d, o = .val d ∧ s0 = .p d) ∨ (∃ ob, o = .new ob ∧ s0 = .io ob) ∨ (∃ k ob, o = .own k ∧ s0 = .io ob ∧ (ε[k]? = some (.ow ob) ∨ ε[k]? = some (.io ob)))) →
        as.length = (o :: os).length ∧ ∀ (i : Nat) (sl : Sl), as[i]? = some sl → (∃ d, (o :: os)[i]? = some (.val d) ∧ sl = .p d) ∨ (∃ ob, (o :: os)[i]? = some (.new ob) ∧ sl = .io ob) ∨
          (∃ k ob, (o :: os)[i]? = some (.own k) ∧ sl = .io ob ∧ (ε[k]? = some (.ow ob) ∨ ε[k]? = some (.io ob))) := fun {s0} e q => by
      obtain ⟨as0, rfl, e0⟩ := cons e
      obtain ⟨h1, h2⟩ := args_get e0
      refine ⟨by simp [h1], fun i sl h => ?_⟩
      cases i with
      | zero =>
        simp at h; subst h
        rcases q with ⟨d, a, b⟩ | ⟨ob, a, b⟩ | ⟨k, ob, a, b, d⟩
        · subst a; exact .inl ⟨d, rfl, b⟩
        · subst a; exact .inr (.inl ⟨ob, rfl, b⟩)
        · subst a; exact .inr (.inr ⟨k, ob, rfl, b, d⟩)
      | succ i => simpa using h2 i sl (by simpa using h)
    cases o with
    | val d => exact step e (.inl ⟨d, rfl, rfl⟩)
    | new ob => exact step e (.inr (.inl ⟨ob, rfl, rfl⟩))
    | own k =>
      simp only [argsOf] at e
      split at e
      · exact step e (.inr (.inr ⟨k, _, rfl, rfl, .inl (by assumption)⟩))
      · exact step e (.inr (.inr ⟨k, _, rfl, rfl, .inr (by assumption)⟩))
      · cases e
theorem ros_get : ∀ {os : List Opd} {vs : List V} {i : Nat} {o : Opd} {v : V}, ROs K c ε σ H os vs → os[i]? = some o → vs[i]? = some v → RO K c ε σ H o v
  | _, _, 0, _, _, .cons r _, e1, e2 => by simp at e1 e2; subst e1 e2; exact r
  | _, _, i + 1, _, _, .cons _ t, e1, e2 => ros_get t (by simpa using e1) (by simpa using e2)
theorem newO_get : ∀ {os : List Opd} {vs : List V} {i : Nat} {o : Opd} {v : V} {b : Addr}, NewO Hs H os vs → os[i]? = some o → vs[i]? = some v → FtO H o v b → Hs b = none
  | o :: os, v :: vs, 0, _, _, b, n, e1, e2, f => by simp at e1 e2; subst e1 e2; exact (n.1 b f).1
  | o :: os, v :: vs, i + 1, _, _, b, n, e1, e2, f => newO_get n.2 (by simpa using e1) (by simpa using e2) f
theorem mem_zip_at : ∀ {os : List Opd} {vs : List V} {j : Nat} {o : Opd} {v : V}, os[j]? = some o → vs[j]? = some v → (o, v) ∈ os.zip vs
  | o :: os, v :: vs, 0, _, _, e1, e2 => by simp at e1 e2; subst e1 e2; simp
  | o :: os, v :: vs, j + 1, _, _, e1, e2 => by rw [List.zip_cons_cons]; exact List.mem_cons_of_mem _ (mem_zip_at (by simpa using e1) (by simpa using e2))
theorem newO_apart {b : Addr} : ∀ (os : List Opd) (vs : List V) (i j : Nat) (o o' : Opd) (v v' : V), NewO Hs H os vs → os[i]? = some o → vs[i]? = some v → FtO H o v b → os[j]? = some o' → vs[j]? = some v' → FtO H o' v' b → i = j := by
  intro os
  induction os with
  | nil => intro vs i j o o' v v' _ e1; simp at e1
  | cons o0 os ih =>
    intro vs i j o o' v v' n e1 e2 f e3 e4 f'
    cases vs with
    | nil => simp at e2
    | cons v0 vs =>
      cases i with
      | zero =>
        cases j with
        | zero => rfl
        | succ j =>
          rw [List.getElem?_cons_zero] at e1 e2
          rw [List.getElem?_cons_succ] at e3 e4
          cases e1; cases e2
          exact absurd f' ((n.1 b f).2 _ (mem_zip_at e3 e4))
      | succ i =>
        rw [List.getElem?_cons_succ] at e1 e2
        cases j with
        | zero =>
          rw [List.getElem?_cons_zero] at e3 e4
          cases e3; cases e4
          exact absurd f ((n.1 b f').2 _ (mem_zip_at e1 e2))
        | succ j =>
          rw [List.getElem?_cons_succ] at e3 e4
          rw [ih vs i j o o' v v' n.2 e1 e2 f e3 e4 f']
theorem owns_mem : ∀ {os : List Opd} {i k : Nat}, os[i]? = some (.own k) → k ∈ ownsOf os
  | o :: os, 0, k, e => by simp at e; subst e; simp [ownsOf]
  | o :: os, i + 1, k, e => by
    have := owns_mem (os := os) (i := i) (by simpa using e)
    cases o <;> simp [ownsOf, this]
theorem owns_one : ∀ {os : List Opd} {i j k l : Nat}, (ownsOf os).length ≤ 1 → os[i]? = some (.own k) → os[j]? = some (.own l) → i = j
  | o :: os, 0, 0, k, l, _, _, _ => rfl
  | o :: os, 0, j + 1, k, l, h, e1, e2 => by
    simp at e1; subst e1
    have := owns_mem (os := os) (i := j) (by simpa using e2)
    simp only [ownsOf, List.length_cons] at h
    rw [List.eq_nil_of_length_eq_zero (by omega : (ownsOf os).length = 0)] at this
    cases this
  | o :: os, i + 1, 0, k, l, h, e1, e2 => by
    simp at e2; subst e2
    have := owns_mem (os := os) (i := i) (by simpa using e1)
    simp only [ownsOf, List.length_cons] at h
    rw [List.eq_nil_of_length_eq_zero (by omega : (ownsOf os).length = 0)] at this
    cases this
  | o :: os, i + 1, j + 1, k, l, h, e1, e2 => by
    have h' : (ownsOf os).length ≤ 1 := by cases o <;> simp only [ownsOf, List.length_cons] at h <;> omega
    rw [owns_one (os := os) (i := i) (j := j) h' (by simpa using e1) (by simpa using e2)]
theorem wb_none : ∀ {os : List Opd} {as : List Sl} {ε : En}, ownsOf os = [] → wb os as ε = ε
  | [], _, _, _ => by simp [wb]
  | o :: os, [], ε, h => by cases o <;> simp [wb]
  | o :: os, a :: as, ε, h => by
    cases o with
    | own k => simp [ownsOf] at h
    | val d => simp only [wb]; exact wb_none h
    | new ob => simp only [wb]; exact wb_none h
theorem wb_one : ∀ {os : List Opd} {as : List Sl} {ε : En} {i k : Nat} {ob : Ob}, (ownsOf os).length ≤ 1 → os[i]? = some (.own k) → as[i]? = some (.io ob) → wb os as ε = setOb ε k ob
  | o :: os, [], ε, i, k, ob, _, _, e => by simp at e
  | o :: os, a :: as, ε, 0, k, ob, h, e1, e2 => by
    simp at e1 e2; subst e1 e2
    simp only [wb]
    refine wb_none (List.eq_nil_of_length_eq_zero ?_)
    simp only [ownsOf, List.length_cons] at h
    omega
  | o :: os, a :: as, ε, i + 1, k, ob, h, e1, e2 => by
    have m := owns_mem (os := os) (i := i) (by simpa using e1)
    cases o with
    | own l =>
      simp only [ownsOf, List.length_cons] at h
      rw [List.eq_nil_of_length_eq_zero (by omega : (ownsOf os).length = 0)] at m
      cases m
    | val d => simp only [wb]; exact wb_one (i := i) h (by simpa using e1) (by simpa using e2)
    | new o' => simp only [wb]; exact wb_one (i := i) h (by simpa using e1) (by simpa using e2)
/-- the arguments as they are lent -/
theorem args_ok (S : SR K c ε σ H) (r : ROs K c ε σ H os vs) (n : NewO Hs H os vs) (e : argsOf ε os = some as) (h1 : (ownsOf os).length ≤ 1) : ArgR K H as vs ∧
    ∀ b, Own as (vs.map some) H b → (∃ (i k : Nat) (sl : Sl) (ov : Option V), os[i]? = some (.own k) ∧ ε[k]? = some sl ∧ σ[k]? = some ov ∧ SlF H sl ov b) ∨ (c.H0 b = none ∧ ¬ Own ε σ H b ∧ Hs b = none ∧ ∀ u, H b = some u → Fz u = false) := by
  obtain ⟨el, g⟩ := args_get e
  have rl : os.length = vs.length := Paired.length r
  -- what an argument's addresses are
  have ft : ∀ (i : Nat) (sl : Sl) (v : V) (b : Addr), as[i]? = some sl → vs[i]? = some v → SlF H sl (some v) b → (∃ (k : Nat) (sk : Sl), os[i]? = some (.own k) ∧ ε[k]? = some sk ∧ σ[k]? = some (some v) ∧ SlF H sk (some v) b) ∨
      (∃ ob, os[i]? = some (.new ob) ∧ FtO H (.new ob) v b ∧ c.H0 b = none ∧ ¬ Own ε σ H b ∧ Hs b = none ∧ ∀ u, H b = some u → Fz u = false) := fun i sl v b ea ev f => by
    rcases g i sl ea with ⟨d, eo, es⟩ | ⟨ob, eo, es⟩ | ⟨k, ob, eo, es, ek⟩
    · subst es; exact f.elim
    · subst es
      have ro := ros_get r eo ev
      obtain ⟨h0, no⟩ := ro.2 b f
      exact .inr ⟨ob, eo, f, h0, no, newO_get n eo ev f, fun u hu => by
        obtain ⟨u', hu', fz, _⟩ := ro.1.trk f
        rw [hu] at hu'; cases hu'; exact fz⟩
    · subst es
      have ro : σ[k]? = some (some v) := ros_get r eo ev
      rcases ek with ek | ek
      · exact .inl ⟨k, _, eo, ek, ro, f⟩
      · exact .inl ⟨k, _, eo, ek, ro, f⟩
  refine ⟨⟨el.trans rl, fun i sl v ea ev => ?_, fun i j sl sl' v v' b e1 e2 f e3 e4 f' => ?_⟩, fun b ⟨i, sl, ov, ea, ev, f⟩ => ?_⟩
  · rcases g i sl ea with ⟨d, eo, es⟩ | ⟨ob, eo, es⟩ | ⟨k, ob, eo, es, ek⟩
    · subst es; exact ⟨ros_get r eo ev, trivial⟩
    · subst es; exact ⟨(ros_get r eo ev).1, trivial⟩
    · subst es
      have ro : σ[k]? = some (some v) := ros_get r eo ev
      rcases ek with ek | ek
      · exact ⟨show SoR K H (.io ob) (some v) from S.rel k (.ow ob) _ ek ro, trivial⟩
      · exact ⟨S.rel k _ _ ek ro, trivial⟩
  · rcases ft i sl v b e1 e2 f with ⟨k, sk, eo, ek, es, fk⟩ | ⟨ob, eo, fo, _, no, _⟩
    · rcases ft j sl' v' b e3 e4 f' with ⟨l, sl2, eo', el', es', fl⟩ | ⟨ob', eo', fo', _, no', _⟩
      · exact owns_one h1 eo eo'
      · exact absurd ⟨k, sk, _, ek, es, fk⟩ no'
    · rcases ft j sl' v' b e3 e4 f' with ⟨l, sl2, eo', el', es', fl⟩ | ⟨ob', eo', fo', _, no', _⟩
      · exact absurd ⟨l, sl2, _, el', es', fl⟩ no
      · exact newO_apart _ _ _ _ _ _ _ _ n eo e2 fo eo' e4 fo'
  · obtain ⟨v, hv, rfl⟩ := getS ev
    rcases ft i sl v b ea hv f with ⟨k, sk, eo, ek, es, fk⟩ | ⟨ob, eo, fo, h0, no, hs, fz⟩
    · exact .inl ⟨i, k, sk, some v, eo, ek, es, fk⟩
    · exact .inr ⟨h0, no, hs, fz⟩
/-- others changed what no name holds -/
theorem SR.keepW (S : SR K c ε σ H) (k : ∀ b u, H b = some u → (c.H0 b ≠ none ∨ Fz u = true ∨ Own ε σ H b) → H' b = some u) (t : ∀ b u, H b = some u → H' b ≠ none) : SR K c ε σ H' ∧ ∀ b, Own ε σ H' b → Own ε σ H b := by
  have im : Im H H' := fun b u e z => k b u e (.inr (.inl z))
  have kk : ∀ (i : Nat) (sl : Sl) (ov : Option V), ε[i]? = some sl → σ[i]? = some ov → ∀ b u, SlF H sl ov b → H b = some u → H' b = some u := fun i sl ov e1 e2 b u f e => k b u e (.inr (.inr ⟨i, sl, ov, e1, e2, f⟩))
  have ft : ∀ (i : Nat) (sl : Sl) (ov : Option V) (b : Addr), ε[i]? = some sl → σ[i]? = some ov → SlF H' sl ov b → SlF H sl ov b := fun i sl ov b e1 e2 f => (S.rel i sl ov e1 e2).ft (kk i sl ov e1 e2) f
  refine ⟨⟨S.len, fun a o h n => k a o (S.fr a o h n) (.inl (by rw [h]; exact fun z => nomatch z)), fun a fa e => ?_, S.pm, fun i sl ov e1 e2 => (S.rel i sl ov e1 e2).keep im (kk i sl ov e1 e2),
    fun i sl ov b e1 e2 f => S.own i sl ov b e1 e2 (ft i sl ov b e1 e2 f), fun i sl ov b e1 e2 f => S.ows i sl ov b e1 e2 (ft i sl ov b e1 e2 f), fun i j sl sl' ov ov' b e1 e2 f e3 e4 f' => S.dis i j sl sl' ov ov' b e1 e2 (ft _ _ _ _ e1 e2 f) e3 e4 (ft _ _ _ _ e3 e4 f')⟩,
    fun b ⟨i, sl, ov, e1, e2, f⟩ => ⟨i, sl, ov, e1, e2, ft _ _ _ _ e1 e2 f⟩⟩
  cases e2 : H a with
  | none => exact S.fin a fa e2
  | some o => exact t a o e2 e
/-- behind a call -/
theorem SR.call (S : SR K c ε σ H) (r : ROs K c ε σ H os vs) (n : NewO Hs H os vs) (ts : Step ε1 σ1 Hs ε σ H) (e : argsOf ε os = some as) (h1 : muts os ≤ 1) (A : ArgStep K as vs H as' H') : SR K c (wb os as' ε) σ H' ∧ Step ε1 σ1 Hs (wb os as' ε) σ H' ∧ ∀ b, Own (wb os as' ε) σ H' b → Own ε σ H b ∨ Own as' (vs.map some) H' b := by
  have ho : (ownsOf os).length ≤ 1 := Nat.le_trans (owns_muts os) h1
  obtain ⟨_, ow⟩ := args_ok S r n e ho
  obtain ⟨el, g⟩ := args_get e
  have rl : os.length = vs.length := Paired.length r
  have kp : ∀ b u, Hs b = some u → ¬ Own ε1 σ1 Hs b → H' b = some u := fun b u hu no => by
    have hu2 := ts.kp b u hu no
    refine A.step.kp b u hu2 fun w => ?_
    rcases ow b w with ⟨i, k, sl, ov, _, ek, es, f⟩ | ⟨_, _, z, _⟩
    · exact (ts.ow b ⟨k, sl, ov, ek, es, f⟩).elim no fun z => by rw [hu] at z; cases z
    · rw [hu] at z; cases z
  have tr : ∀ b u, Hs b = some u → H' b ≠ none := fun b u hu => by
    cases q : H b with
    | none => exact absurd q (ts.tr b u hu)
    | some w => exact A.step.tr b w q
  by_cases hex : ∃ (i k : Nat), os[i]? = some (Opd.own k)
  · obtain ⟨i, k, eo⟩ := hex
    have hi : i < os.length := (List.getElem?_eq_some_iff.mp eo).1
    obtain ⟨sa, ea⟩ : ∃ sa, as[i]? = some sa := ⟨as[i]'(by omega), by simp [show i < as.length by omega]⟩
    obtain ⟨v, ev⟩ : ∃ v, vs[i]? = some v := ⟨vs[i]'(by omega), by simp [show i < vs.length by omega]⟩
    have ro : σ[k]? = some (some v) := ros_get r eo ev
    rcases g i sa ea with ⟨d, eo', _⟩ | ⟨ob, eo', _⟩ | ⟨k', ob, eo', es, ek⟩
    · rw [eo] at eo'; cases eo'
    · rw [eo] at eo'; cases eo'
    · rw [eo] at eo'; cases eo'
      subst es
      obtain ⟨ob', ea'⟩ := A.io i ob ea
      rw [wb_one ho eo ea']
      have rob : ObR K H' ob' v := (A.args.rel i _ v ea' ev).1
      -- an argument's address is the slot's
      have own1 : ∀ b, Own as (vs.map some) H b → ∀ sl, ε[k]? = some sl → SlF H sl (some v) b := fun b w sl hk => by
        obtain ⟨j, sj, oj, fj, vj, ff⟩ := w
        obtain ⟨u, hu, rfl⟩ := getS vj
        have ij : j = i := by
          rcases g j sj fj with ⟨d, ej, es⟩ | ⟨o2, ej, es⟩ | ⟨k2, o2, ej, es, _⟩
          · subst es; exact ff.elim
          · exact muts_one h1 ej (fun _ z => nomatch z) eo (fun _ z => nomatch z)
          · exact muts_one h1 ej (fun _ z => nomatch z) eo (fun _ z => nomatch z)
        subst ij
        rw [ea] at fj; cases fj
        rw [ev] at hu; cases hu
        rcases ek with z | z <;> (rw [hk] at z; cases z; exact ff)
      have main : ∀ (sl sl' : Sl), ε[k]? = some sl → SoR K H' sl' (some v) → (∀ b, SlF H' sl' (some v) b → Ft H' ob' v b) → (∀ o, sl = .io o → ∃ o', sl' = .io o') → SR K c (ε.set k sl') σ H' ∧ Step ε1 σ1 Hs (ε.set k sl') σ H' ∧ ∀ b, Own (ε.set k sl') σ H' b → Own ε σ H b ∨ Own as' (vs.map some) H' b := fun sl sl' hk rs ff io => by
        obtain ⟨S', w'⟩ := S.chgW (H' := H') (sl' := sl') hk ro (fun b u hu ns hb => A.step.kp b u hu fun w => ns (own1 b w sl hk)) A.step.tr rs
          (fun b f => (A.step.ow b ⟨i, .io ob', some v, ea', by rw [List.getElem?_map, ev]; rfl, ff b f⟩).imp (fun w => own1 b w sl hk) id) io
        refine ⟨S', ⟨kp, fun b w => ?_, tr⟩, fun b w => (w' b w).imp id fun z => ⟨i, .io ob', some v, ea', by rw [List.getElem?_map, ev]; rfl, ff b z.2⟩⟩
        rcases w' b w with z | z
        · exact ts.ow b z
        · cases q : Hs b with
          | none => exact .inr rfl
          | some u => exact absurd z.1 (ts.tr b u q)
      rcases ek with z | z
      · rw [show setOb ε k ob' = ε.set k (.ow ob') by unfold setOb; rw [z]]
        exact main _ (.ow ob') z rob (fun b f => f) fun o w => nomatch w
      · rw [show setOb ε k ob' = ε.set k (.io ob') by unfold setOb; rw [z]]
        exact main _ (.io ob') z rob (fun b f => f) fun o w => ⟨_, rfl⟩
  · have en : ownsOf os = [] := by
      have key : ∀ {os : List Opd}, (¬ ∃ (i k : Nat), os[i]? = some (Opd.own k)) → ownsOf os = [] := by
        intro os
        induction os with
        | nil => intro _; rfl
        | cons o os ih =>
          intro hx
          have hx' : ¬ ∃ (i k : Nat), os[i]? = some (Opd.own k) := fun ⟨i, k, q⟩ => hx ⟨i + 1, k, by simpa using q⟩
          cases o with
          | own k => exact absurd ⟨0, k, rfl⟩ hx
          | val d => exact ih hx'
          | new ob => exact ih hx'
      exact key hex
    rw [wb_none en]
    obtain ⟨S', w'⟩ := S.keepW (H' := H') (fun b u hu hb => A.step.kp b u hu fun w => by
      rcases ow b w with ⟨i, k, _, _, eo, _⟩ | ⟨h0, no, _, fz⟩
      · exact hex ⟨i, k, eo⟩
      · rcases hb with z | z | z
        · exact z h0
        · rw [fz u hu] at z; cases z
        · exact no z) A.step.tr
    exact ⟨S', ⟨kp, fun b w => ts.ow b (w' b w), tr⟩, fun b w => .inl (w' b w)⟩
end
section
variable {X : Cx} {c : Mc} {pos p : Pos}
theorem call_sp {K : PySem.W.Frag} {mg : Str → Option Value} {np : Nat} {F : List Sl → FOut} {ma : M (List Opd)} {σ : L2.St} {H : Hp} {Q : VK} (hnp : ∀ os ε ε', ma ε = .ok os ε' → os.length = np) (h : tM K c (mCall F ma) σ H Q) :
    tCallS (spF K mg np F) (WE (mW K mg c)) (tO K c ma) σ H Q := by
  obtain ⟨ε, S, h⟩ := h
  unfold mCall at h
  refine ⟨ε, S, ?_⟩
  cases e1 : ma ε with
  | stuck => rw [e1] at h; exact h
  | exc C ε' => rw [e1] at h; exact h
  | ok os ε1 =>
    rw [e1, Out.bind_ok] at h
    intro vs H1 t1 S1 r1 n1
    cases e2 : argsOf ε1 os with
    | none => simp only [e2] at h; exact h.elim
    | some as =>
      simp only [e2] at h
      by_cases hm : muts os ≤ 1
      · rw [if_pos hm] at h
        refine ⟨as, (args_get e2).1.trans (hnp os ε ε1 e1), (args_ok S1 r1 n1 e2 (Nat.le_trans (owns_muts os) hm)).1, ?_⟩
        cases e3 : F as with
        | stuck => simp only [e3] at h; exact h
        | exc C as' =>
          simp only [e3] at h ⊢
          intro cls H' hc A
          obtain ⟨S2, t2, _⟩ := S1.call r1 n1 t1 e2 hm A
          exact ⟨C, _, hc, rfl, S2, h H' t2 S2⟩
        | ok d as' =>
          simp only [e3] at h ⊢
          intro v H' A rd
          obtain ⟨S2, t2, _⟩ := S1.call r1 n1 t1 e2 hm A
          exact h v H' t2 S2 rd trivial
        | nw ob as' =>
          simp only [e3] at h ⊢
          intro v H' A ro fo
          obtain ⟨S2, t2, w2⟩ := S1.call r1 n1 t1 e2 hm A
          have fr : ∀ b, H1 b = none → H b = none := fun b z => by
            cases q : H b with
            | none => rfl
            | some u => exact absurd z (t1.tr b u q)
          refine h v H' t2 S2 ⟨ro, fun b f => ?_⟩ fun b f => fr b (fo b f).1
          obtain ⟨h0, _, no⟩ := S1.fresh (fo b f).1
          exact ⟨h0, fun w => (w2 b w).elim no (fo b f).2⟩
      · rw [if_neg hm] at h; exact h.elim
/-- rows have the length that is written -/
def LenIs (m : M (List Opd)) (n : Nat) : Prop := ∀ os ε ε', m ε = .ok os ε' → os.length = n
theorem lenIs_nil : LenIs oNil 0 := fun os ε ε' e => by cases e; rfl
theorem lenIs_cons {m : M Opd} {r : M (List Opd)} {n : Nat} (h : LenIs r n) : LenIs (oCons m r) (n + 1) := fun os ε ε' e => by
  unfold oCons at e
  cases e1 : m ε with
  | stuck => rw [e1] at e; cases e
  | exc C ε1 => rw [e1] at e; cases e
  | ok d ε1 =>
    rw [e1, Out.bind_ok] at e
    cases e2 : r ε1 with
    | stuck => rw [e2] at e; cases e
    | exc C ε2 => rw [e2] at e; cases e
    | ok ds ε2 =>
      rw [e2, Out.bind_ok] at e
      cases e
      simp [h _ _ _ e2]
theorem je_call {k np : Nat} {f : Addr} {fd : FuncData} {ps : List Str} {F : List Sl → FOut} {x : Str} {e : Expr} {es : List Expr} {ma : M (List Opd)} (G : FnOk X.prog X.w X.K X.mg X.base (L2.CX X.prog X.w) k f fd ps (spF X.K X.mg np F)) (hr : Room k X.A) (hg : Gl X x)
    (hm : X.mg x = some (.ref f)) (hk : PySem.W.keepIn X.K (.ref f) = true) (hb : Binds X.K fd ps []) (tk : TK X c) (ha : JO X c (e :: es) ma) (hl : LenIs ma np) (hdb : (x == ("__debug__" : Str)) = false := by decide)
    (he : starEach (e :: es) X.env = (false, eval e X.env) :: starEach es X.env := by rfl) (hpl : (backTo pos (starEach es X.env)).any (·.1) = false := by rfl) : JE X c (.Call (.Name x p) (e :: es) [] pos) (mCall F ma) :=
  pe_imp (pe_callS G hr hg hm hk hb (fun σ => passAt tk σ) ha hdb he hpl) fun σ H Q h => call_sp hl h
end
end MM

set_option maxHeartbeats 1000000
/-! ML10: tuples many times; powers; enumerate of a tuple. -/
namespace MM
open PySem PySem.Spec PyProof.Rows L2

theorem tmul_one (l : Addr) (items : Array Value) (n : Nat) (dd : Option Addr) (sl : Array (Option Value)) (u : Tok) :
    Meets (Builtin.«tuple.__mul__» ⟨[.ref l, .int 1 u], []⟩) (fun _ R s => s.heap.get? l = some { cls := .type "tuple", dict := dd, data := .seq items n, slots := sl } ∧ R (.ok (.ret (.ref l))) s) :=
  .of_wp fun prog w A R s h => by
    obtain ⟨hp, g, d, tk, os⟩ := s
    obtain ⟨hl, h⟩ := h
    have f1 := AutoSeq1.idx_int
    wp_walk using wpAny_loadPart' hl
    exact ⟨_, rfl, h⟩
theorem tmul_zero (l : Addr) (items : Array Value) (n : Nat) (dd : Option Addr) (sl : Array (Option Value)) (u : Tok) (hne : items.isEmpty = false) :
    Meets (Builtin.«tuple.__mul__» ⟨[.ref l, .int 0 u], []⟩) (fun _ R s => s.heap.get? l = some { cls := .type "tuple", dict := dd, data := .seq items n, slots := sl } ∧
      R (.ok (.ret (.ref s.heap.objs.size))) { s with heap := s.heap.push { cls := .type "tuple", data := .seq #[] } }) :=
  .of_wp fun prog w A R s h => by
    obtain ⟨hp, g, d, tk, os⟩ := s
    obtain ⟨hl, h⟩ := h
    have f1 := AutoSeq1.idx_int
    wp_walk using wpAny_loadPart' hl
    exact ⟨_, rfl, h⟩
section
variable {X : Cx} {c : Mc}
def rRep01 (K : PySem.W.Frag) : R2 := fun x y H Q => ∃ l k xs, x = .ref l ∧ y = .int k ∧ SqT K H l xs ∧ xs ≠ [] ∧ ((k = 1 ∧ Q (.ref l) H) ∨ (k = 0 ∧ ∀ p, H p = none → Q (.ref p) (upd H p (.tup []))))
theorem op_rep01 : OpR X (binaryOp .Mult) (rRep01 X.K) := by
  intro pins s σ H x y v u Q I rx ry ⟨l, k, xs, e1, e2, hT, hne, q⟩
  subst e1 e2
  cases rx
  obtain ⟨t, rfl⟩ := ry
  obtain ⟨its, r, ⟨⟨cls, dd, data, sl⟩, ho, hc, n, hd⟩, _⟩ := I.tuple hT
  cases hc
  cases hd
  have hi : its.toArray.isEmpty = false := by
    cases its with
    | nil => cases r; exact absurd rfl hne
    | cons a b => rfl
  have road : ∀ {Q' : Value → Shared → Prop}, Meets (Builtin.«tuple.__mul__» ⟨[.ref l, .int k t], []⟩) (fun _ R s => s.heap.get? l = some { cls := .type "tuple", dict := dd, data := .seq its.toArray n, slots := sl } ∧ R (.ok (.ret (.ref l))) s) → Q' (.ref l) s →
      wpAny (model X.prog X.w) X.A (binaryOp .Mult (.ref l) (.int k t)) Q' X.xe s := fun hm hq =>
    wpAny_binaryOp_repeat_ref (T := "tuple") (U := "int") (by decide) ⟨_, ho, rfl⟩ (fun s' => typeIs_int s' k t) noFill_tuple_mul F.fills_int_mul F.slot_int_rmul repeat_tuple F.slot_int_index.lookup
      (call_meets F.slot_int_rmul (typeIs_int s k t) F.entry_int_rmul (F.args_int_rmul_2 _ _) (int_rmul_tuple k t l its.toArray n dd sl)
        ⟨ho, rfl, ⟨_, ho, rfl⟩, call_meets F.slot_tuple_mul ⟨_, ho, rfl⟩ F.entry_tuple_mul (F.args_tuple_mul_2 _ _) hm ⟨ho, hq⟩⟩)
  rcases q with ⟨e, q⟩ | ⟨e, q⟩
  · subst e
    exact road (tmul_one l its.toArray n dd sl t) ⟨.ref l, H, I, rfl, q⟩
  · subst e
    refine wpAny_binaryOp_repeat_ref (T := "tuple") (U := "int") (by decide) ⟨_, ho, rfl⟩ (fun s' => typeIs_int s' 0 t) noFill_tuple_mul F.fills_int_mul F.slot_int_rmul repeat_tuple F.slot_int_index.lookup
      (call_meets F.slot_int_rmul (typeIs_int s 0 t) F.entry_int_rmul (F.args_int_rmul_2 _ _) (int_rmul_tuple 0 t l its.toArray n dd sl)
        ⟨ho, rfl, ⟨_, ho, rfl⟩, call_meets F.slot_tuple_mul ⟨_, ho, rfl⟩ F.entry_tuple_mul (F.args_tuple_mul_2 _ _) (tmul_zero l its.toArray n dd sl t hi) ⟨ho, ?_⟩⟩)
    refine ⟨.ref s.heap.objs.size, _, I.laid (t' := s.toks) (o := .tup []) (fun b ob z => Heap.get?_push_of_some _ z) (Nat.le_refl _) ?_, rfl, q _ (I.hok.fresh (Nat.le_refl _))⟩
    exact ⟨Nat.zero_le _, [], .nil, IsTup.new _ _⟩
def fRepT : PD → PD → Option Opd
  | .tuple ds, .int k => if ds ≠ [] ∧ ds.length ≤ 1000 ∧ 0 ≤ k ∧ k ≤ 1000 then some (.val (.tuple (List.replicate k.toNat ds).flatten)) else none
  | _, _ => none
theorem o_repT : OpR X (binaryOp .Mult) (rM X.K c (lift2 fRepT)) := by
  refine lift2_op (op_repT.or op_rep01) fun x y d1 d2 o H Q L r1 r2 e => ?_
  cases d1 <;> cases d2 <;> simp only [fRepT] at e <;> try cases e
  split at e <;> cases e
  rename_i hc
  obtain ⟨h1, h2, h3, h4⟩ := hc
  obtain ⟨l, xs, rfl, hl, ra⟩ := r1.tup
  rename_i ds k
  cases r2.int
  have hne : xs ≠ [] := fun z => by subst z; cases ra; exact h1 rfl
  refine ⟨noVal, fun p => ?_⟩
  by_cases k2 : 2 ≤ k
  · exact .inl ⟨l, k, xs, rfl, rfl, hl, hne, k2, h4, by rw [ra.length]; exact h2, fun q hq => p.ntup (ra.rep k.toNat) hq⟩
  · by_cases k1 : k = 1
    · subst k1
      have e1 : (List.replicate (1 : Int).toNat ds).flatten = ds := by simp
      rw [e1] at p
      exact .inr ⟨l, 1, xs, rfl, rfl, hl, hne, .inl ⟨rfl, p.scal (.tup hl ra)⟩⟩
    · have k0 : k = 0 := by omega
      subst k0
      exact .inr ⟨l, 0, xs, rfl, rfl, hl, hne, .inr ⟨rfl, fun q hq => p.ntup (xs := []) .nil hq⟩⟩
def fPow : PD → PD → Option Opd
  | .int i, .int j => if smallI i = true ∧ 0 ≤ j ∧ j ≤ 1000000 then some (.val (.int (i ^ j.toNat))) else none
  | _, _ => none
theorem o_pow : OpR X (binaryOp .Pow) (rM X.K c (lift2 fPow)) := by
  refine lift2_op op_pow fun x y d1 d2 o H Q L r1 r2 e => ?_
  cases d1 <;> cases d2 <;> simp only [fPow] at e <;> try cases e
  split at e <;> cases e
  rename_i hc
  cases r1.int; cases r2.int
  have := smallI_ok hc.1
  exact ⟨noVal, fun p => ⟨_, _, rfl, rfl, ⟨hc.2.1, hc.2.2, by omega⟩, p.scal (.int _)⟩⟩

/-! ### enumerate of a tuple -/
theorem enum_newT (l : Addr) (items : Array Value) (n : Nat) (dct : Option Addr) (sl : Array (Option Value)) :
    Meets (Builtin.«enumerate.__new__» ⟨[.type "enumerate", .ref l], []⟩) (fun _ R s => s.heap.get? l = some { cls := .type "tuple", dict := dct, data := .seq items n, slots := sl } ∧
      R (.ok (.ret (.ref (s.heap.push { cls := .type "tuple_iterator", data := .fields #[.ref l, .int 0 0] }).objs.size)))
        { s with heap := (s.heap.push { cls := .type "tuple_iterator", data := .fields #[.ref l, .int 0 0] }).push { cls := .type "enumerate", data := .fields #[.none, .bool false, .ref s.heap.objs.size, rawInt 0, .none, .none] } }) :=
  .of_wp fun prog w A R s h => by
    obtain ⟨hp, g, d, tk, os⟩ := s
    obtain ⟨hl, h⟩ := h
    have sub := sub_enumerate
    have it : Heap.IsTuple (Shared.heap ⟨hp, g, d, tk, os⟩) l items := ⟨_, hl, rfl, n, rfl⟩
    wp_walk using wpAny_loadPart' hl
    refine wpAny_stack_any fun st => wpAny_pure ?_
    split
    · rename_i k _ _ _ _ _
      cases (k == Value.type "enumerate") <;> (wp_walk using wpAny_loadPart' hl, wpAny_pyIter_tuple it; exact ⟨_, rfl, h⟩)
    · wp_walk using wpAny_loadPart' hl, wpAny_pyIter_tuple it
      exact ⟨_, rfl, h⟩
theorem enum_callT {prog : Program} {w : World} {A : Around} {E : Value → Shared → Prop} {s : Shared} {l : Addr} {items : Array Value} {Q : Value → Shared → Prop} (hL : s.heap.IsTuple l items)
    (h : ∀ h', IsEnum h' (s.heap.objs.size + 1) s.heap.objs.size 0 .none → h'.IsTupleIter s.heap.objs.size l 0 → (∀ b o, s.heap.get? b = some o → h'.get? b = some o) → Q (.ref (s.heap.objs.size + 1)) { s with heap := h' }) :
    wpAny (model prog w) A (call (.type "enumerate") [.ref l]) Q E s := by
  obtain ⟨⟨k, dct, dt, sl⟩, hl, hc, n, hd⟩ := hL
  cases hc
  cases hd
  refine callType_new F.called_enumerate (by decide) (F.typeCall_enumerate_1 _) (F.newCall_enumerate_1 _) (fun obj => F.args_object_init_2 obj _) F.entry_enumerate_new (enum_newT l items n dct sl) ⟨hl, ?_⟩
  have hz : (s.heap.push { cls := .type "tuple_iterator", data := .fields #[.ref l, .int 0 0] }).objs.size = s.heap.objs.size + 1 := Heap.size_push ..
  show _ ∧ _
  rw [hz]
  have g1 : ((s.heap.push { cls := .type "tuple_iterator", data := .fields #[.ref l, .int 0 0] }).push { cls := .type "enumerate", data := .fields #[.none, .bool false, .ref s.heap.objs.size, rawInt 0, .none, .none] }).get? (s.heap.objs.size + 1) =
      some { cls := .type "enumerate", data := .fields #[.none, .bool false, .ref s.heap.objs.size, rawInt 0, .none, .none] } := by
    rw [← hz]; exact Heap.get?_push_size _ rfl
  exact ⟨⟨_, g1, rfl⟩, h _ g1 ⟨_, Heap.get?_push_of_some _ (Heap.get?_push_size _ rfl), rfl, rfl⟩ fun b o x => Heap.get?_push_of_some _ (Heap.get?_push_of_some _ x)⟩
def IteT (K : PySem.W.Frag) (a : Addr) : It :=
  ⟨fun i H => ∃ (xs : List V) (x : V), SqT K H a xs ∧ xs[i]? = some x, fun i H v H' => ∃ T x, v = .ref T ∧ H T = none ∧ H' = upd H T (.tup [.int (i : Nat), x]) ∧ ∀ xs, SqT K H a xs → xs[i]? = some x, fun i H => ∃ xs : List V, SqT K H a xs ∧ xs.length ≤ i⟩
theorem turn_enT {P : Program} {w : World} {K : PySem.W.Frag} {elts : List Expr} {kk : Nat} {tpos : Pos} (a e it : Addr) :
    Turn P w K (.Tuple elts kk tpos) (IteT K a) [e, it] e (fun i h => (∃ old, IsEnum h e it ((i : Nat) : Int) old) ∧ h.IsTupleIter it a i ∧ e ≠ it) where
  mem := by simp
  obj := fun i h st b hb => by
    obtain ⟨⟨old, he⟩, ⟨o, ho, hc, hd⟩, _⟩ := st
    rcases List.mem_cons.mp hb with z | hb
    · subst z; exact ⟨_, he, (fun v q => nomatch q)⟩
    · rw [List.mem_singleton.mp hb]; exact ⟨o, ho, fun v q => by rw [hd] at q; cases q⟩
  keep := fun i h h' st k => by
    obtain ⟨⟨old, he⟩, hi, hne⟩ := st
    exact ⟨⟨old, k e (by simp) _ he⟩, hi.at fun o q => k it (by simp) o q, hne⟩
  item := by
    intro X hP hw hK hc i pins s σ H E I hf st hg
    subst hP hw hK
    obtain ⟨⟨old, he⟩, hit, hne⟩ := st
    obtain ⟨xs, x, hq, hx⟩ := hg
    obtain ⟨its, rv, p, hz⟩ := I.tuple hq
    obtain ⟨u, hu, ru⟩ := rv.get hx
    have hT : s.heap.IsTuple a its.toArray := p
    have nit : a ≠ it := fun z => by
      subst z
      obtain ⟨o, h1, h2, _⟩ := hT
      obtain ⟨o', h3, h4, _⟩ := hit
      rw [h1] at h3; cases h3
      rw [h2] at h4
      simp at h4
    have nea : e ≠ a := fun z => by
      subst z
      obtain ⟨o, h1, h2, _⟩ := hT
      have h3 : s.heap.get? e = some _ := he
      rw [h1] at h3; cases h3
      simp at h2
    have hilt : i < its.toArray.size := by
      have := (List.getElem?_eq_some_iff.mp hu).1
      simpa using this
    have hel : e < s.heap.objs.size := Heap.lt_size he
    have hil : it < s.heap.objs.size := by obtain ⟨_, q, _⟩ := hit; exact Heap.lt_size q
    refine wpAny_pyNext_enum_itemC (Draws.tuple (A := X.A.in1) (I.ok.hd hc) it a nit its.toArray) he ⟨hit, hT⟩ hilt hne (by simp [hne, nea]) fun y h' tk hy ho hst hT' hsz hk => ?_
    have ey : y = u := by
      have h1 : its.toArray[i]? = some y := hy
      rw [List.getElem?_toArray, hu] at h1
      exact (Option.some.inj h1).symm
    subst ey
    refine ⟨_, rfl, wpAny_letOwnedTupleGo_enum (s := { s with heap := h', toks := tk + 1 }) ho fun h2 he2 sb => ?_⟩
    have g2 : h2.get? s.heap.objs.size = some { cls := .type "tuple", data := .seq #[.int i tk, y] } := (sb.2 _ (Nat.ne_of_gt hel)).trans hT'
    have new : ObjOk X.prog X.w (upd H s.heap.objs.size (.tup [.int (i : Nat), x])) h2 s.heap.objs.size (.tup [.int (i : Nat), x]) :=
      ⟨by show 2 ≤ sizeLine; decide, [.int i tk, y], .cons ⟨_, rfl⟩ (.cons ru .nil), ⟨_, g2, rfl, _, rfl⟩⟩
    have J : Inv X pins σ (upd H s.heap.objs.size (.tup [.int (i : Nat), x])) { s with heap := h2, toks := tk + 1 } :=
      I.turnedNew (ch := [e, it]) (fun b ob hb q => by
        have n1 : b ≠ e := fun z => hb (by simp [z])
        have n2 : b ≠ it := fun z => hb (by simp [z])
        exact (sb.2 b n1).trans (hk b ob n1 n2 q)) hf (Nat.le_refl _) new
    refine ⟨.ref s.heap.objs.size, _, J, rfl, ⟨_, x, rfl, I.hok.fresh (Nat.le_refl _), rfl, fun ys hy => by rw [I.tuple_inj hy hq]; exact hx⟩, ⟨⟨y, ?_⟩, hst.1.at fun o q => (sb.2 it (Ne.symm hne)).trans q, hne⟩, fun b hb => ?_⟩
    · rw [show ((i + 1 : Nat) : Int) = (i : Int) + 1 by omega]
      exact he2
    · have lt : b < s.heap.objs.size := by
        rcases List.mem_cons.mp hb with z | z
        · rw [z]; exact hel
        · rw [List.mem_singleton.mp z]; exact hil
      rw [upd_ne (Nat.ne_of_lt lt)]
      exact (hf b hb).1
  done := by
    intro X hP hw hK hc i pins s σ H E I hf st hg
    subst hP hw hK
    obtain ⟨⟨old, he⟩, hit, hne⟩ := st
    obtain ⟨xs, hq, hx⟩ := hg
    obtain ⟨its, rv, p, hz⟩ := I.tuple hq
    have hT : s.heap.IsTuple a its.toArray := p
    obtain ⟨f0, f1, f2, f3, f4, f5⟩ := hf it (by simp)
    have hl := rv.length
    have go : ∀ {h'}, Heap.ExtBut it s.heap h' → Inv X pins σ H { s with heap := h' } := fun {h'} eb => I.turned (t' := s.toks) (fun b o hb q => eb b o hb q) f0 f1 f3 f4 f5
    have hTy : s.TypeIs (.ref e) "enumerate" := ⟨_, he, rfl⟩
    unfold pyNext
    refine wpAny_bind (wpAny_attempt (wpAny_callSpecial?_slot (name := Str.ofString "__next__") hTy F.slot_enumerate_next (wpAny_call_entry F.slot_enumerate_next hTy F.entry_enumerate_next ?_ (F.args_enumerate_next_1 _))))
    show wpAny _ _ (field (.ref e) 2 >>= _) _ _ _
    refine wpAny_bind (wpAny_field he rfl (x := .ref it) rfl (wpAny_bind (wpAny_nextOf_tuple_end (I.ok.hd hc) hit hT (by simp; omega) fun h' z eb hx' => ?_)))
    obtain ⟨o, ho, hcl⟩ := hx'
    exact wpAny_bind (wpAny_isInstance (T := "StopIteration") (b := true) ⟨o, ho, hcl⟩ isSubtype_stop (wpAny_pure ⟨rfl, go eb⟩))
  self := fun A i s Q E st h => by
    obtain ⟨⟨_, he⟩, _⟩ := st
    exact wpAny_pyIter_enum he h
theorem pi_enT {e : Expr} {ta : TA} {p pos tpos : Pos} {elts : List Expr} {kk : Nat} (hg : Gl X "enumerate") (hm : X.mg "enumerate" = none) (ha : PA X [e] ta) (hs : starEach [e] X.env = [(false, eval e X.env)] := by rfl) :
    PI X (.Tuple elts kk tpos) (.Call (.Name "enumerate" p) [e] [] pos) (fun σ H R => ta σ H fun vs H1 => ∃ a xs, vs = [.ref a] ∧ SqT X.K H1 a xs ∧ R (IteT X.K a) H1) := by
  refine ⟨fun pins s σ H R I h => Call_ (ld_blt I hg hm boot_enumerate (PyProof.Rows.callWith_type1 (thn (ha.run pos pins s σ H _ I h) fun us s1 ⟨vs, H1, I1, r1, a, xs, ex, hq, q⟩ => ?_) hs rfl))⟩
  subst ex
  cases r1 with
  | cons r rr =>
    cases rr
    cases r
    obtain ⟨_, _, p', _⟩ := I1.tuple hq
    refine enum_callT p' fun h' he hit hk => wpAny_pyIter_enum he ?_
    have J : Inv X pins σ H1 { s1 with heap := h' } := I1.kept (t' := s1.toks) hk
    refine ⟨s1.heap.objs.size + 1, [s1.heap.objs.size + 1, s1.heap.objs.size], _, _, H1, rfl, J, turn_enT a (s1.heap.objs.size + 1) s1.heap.objs.size, ⟨⟨.none, he⟩, hit, Nat.succ_ne_self _⟩, fun b hb => ?_, q⟩
    have le : s1.heap.objs.size ≤ b := by
      rcases List.mem_cons.mp hb with z | z
      · rw [z]; exact Nat.le_succ _
      · rw [List.mem_singleton.mp z]; exact Nat.le_refl _
    exact I1.fpOk le (I1.hok.fresh le)
theorem walk_enT {K : PySem.W.Frag} {a : Addr} {xs : List V} : Walk (IteT K a) xs.length (fun H => SqT K H a xs) (YPair (fun i => some (.int (i : Nat))) (fun i => xs[i]?)) := by
  refine ⟨fun i H hi q => ⟨xs, xs[i], q, by simp [hi]⟩, fun H q => ⟨xs, q, Nat.le_refl _⟩, fun i H x H' hi q ⟨T, v, e1, hT, e2, h⟩ => ⟨T, .int (i : Nat), v, e1, hT, e2, rfl, h xs q⟩⟩
def enumFT : List PD → Option (List PD)
  | [.tuple ds] => some (enD ds)
  | _ => none
theorem itd_enT {K : PySem.W.Frag} {H : Hp} {a : Addr} {xs : List V} {ds : List PD} (h : SqT K H a xs) (r : RpA K H xs ds) : Itd K (IteT K a) H (enD ds) := by
  refine ⟨_, _, by rw [show (enD ds).length = xs.length by simp [enD, r.length]]; exact walk_enT (xs := xs), fun H1 m => sqT_im m h, fun i H1 x H2 hi m y => ?_⟩
  obtain ⟨T, u, v, e1, hT, e2, e3, e4⟩ := y
  subst e1 e2
  cases e3
  obtain ⟨d, h1, h2⟩ := r.getV e4
  have m2 : Im H1 (upd H1 T (.tup [.int (i : Nat), v])) := fun b o e _ => same_upd hT b o e
  exact ⟨same_upd hT, .tuple [.int (i : Nat), d], by simp [enD, h1], .tup (SqT.of upd_same) (.cons (.int _) (.cons (Rp.im (m.trans m2) _ _ h2) .nil))⟩
theorem ji_enumT {e : Expr} {m : M (List PD)} {elts : List Expr} {kk : Nat} {p pos tpos : Pos} (hg : Gl X "enumerate") (hm : X.mg "enumerate" = none) (ha : JA X c [e] m) (hs : starEach [e] X.env = [(false, eval e X.env)] := by rfl) :
    JI X c (.Tuple elts kk tpos) (.Call (.Name "enumerate" p) [e] [] pos) (iRow enumFT m) :=
  pi_imp (pi_enT hg hm ha hs) fun σ H R h => row_it h fun ds vs xs H1 r e q => by
    unfold enumFT at e
    split at e
    · cases e
      cases r with
      | cons r1 rt =>
        cases rt
        cases r1 with
        | tup hs ha => exact ⟨_, _, rfl, hs, q _ (itd_enT hs ha)⟩
    · cases e
end
end MM

/-! ML11: the script; room. -/
namespace MM
open PySem PySem.Spec PyProof.Rows L2
theorem hu64 {k : Nat} {A : Around} (r : Room k A) : A.units + 64 < cLine := r.units
theorem hu65 {k : Nat} {A : Around} (r : Room k A) : A.units + 65 < cLine := by have := r.un; omega

abbrev scrD (ns : List Int) : PD := .dict (ns.map fun n => (.int n, .none))
def scrOf : PD → Option (List Int)
  | .dict kvs => intsOf (kvs.map (·.1))
  | _ => none
theorem intsOf_map (ns : List Int) : intsOf (ns.map PyData.int) = some ns := by
  induction ns with
  | nil => rfl
  | cons n ns ih => simp [intsOf, ih]
@[simp] theorem scrOf_scrD (ns : List Int) : scrOf (scrD ns) = some ns := by
  show intsOf _ = _
  rw [List.map_map]
  exact intsOf_map ns
def fLenS : List PD → Option Opd
  | [d] => (scrOf d).map fun ns => .val (.int ns.length)
  | _ => none
def fIxS : PD → PD → Option Opd
  | d, .int i => (scrOf d).bind fun ns => (atI ns i).map fun n => .val (.int n)
  | _, _ => none
def fEqS : PD → PD → Option Opd
  | d, .list [] => (scrOf d).map fun ns => .val (.bool ns.isEmpty)
  | _, _ => none
section
variable {K : PySem.W.Frag} {H : Hp}
theorem Rd1.scr {v : V} {d : PD} {ns : List Int} (r : Rd1 K H v d) (e : scrOf d = some ns) : ∃ a, v = .ref a ∧ SqL K H a (ns.map V.int) := by
  cases r with
  | ls _ _ => cases e
  | rp h =>
    cases h with
    | scr hs =>
      rw [scrOf_scrD] at e
      cases e
      exact ⟨_, rfl, hs.sq⟩
    | _ => cases e
theorem atI_map {ns : List Int} {i n : Int} (h : atI ns i = some n) : atI (ns.map V.int) i = some (V.int n) := by
  unfold atI at h ⊢
  rw [List.length_map]
  cases e : ixN ns.length i with
  | none => rw [e] at h; cases h
  | some j => rw [e] at h; simp only [Option.bind_some] at h ⊢; rw [List.getElem?_map, h]; rfl
theorem dp_ints {ns : List Int} : DpAll K H (ns.map V.int) (ns.map PyData.int) := by
  induction ns with
  | nil => exact .nil
  | cons n ns ih => exact .cons (.int n) ih
end
section
variable {X : Cx} {c : Mc}
theorem c_lenS : CallR X (.builtin "len") (cM X.K c (liftN fLenS)) := by
  refine liftN_call call_len fun xs ds o H Q L r e => ?_
  unfold fLenS at e
  split at e
  · rename_i d
    cases e1 : scrOf d with
    | none => rw [e1] at e; cases e
    | some ns =>
      rw [e1] at e; cases e
      obtain ⟨x, rfl, q1⟩ := r.one
      obtain ⟨a, rfl, ha⟩ := q1.scr e1
      exact ⟨noVal, fun p => ⟨_, _, rfl, .inl ⟨_, ha, rfl⟩, p.scal (by rw [List.length_map]; exact .int _)⟩⟩
  · cases e
theorem o_ixS : IxR X (rM X.K c (lift2 fIxS)) := by
  refine lift2_ix ix_list fun x y d1 d2 o H Q L r1 r2 e => ?_
  unfold fIxS at e
  split at e
  · rename_i i
    cases e1 : scrOf d1 with
    | none => rw [e1] at e; cases e
    | some ns =>
      simp only [e1, Option.bind_some] at e
      cases e2 : atI ns i with
      | none => rw [e2] at e; cases e
      | some n =>
        rw [e2] at e; cases e
        obtain ⟨a, rfl, ha⟩ := r1.scr e1
        cases r2.int
        exact ⟨noVal, fun p => ⟨a, _, _, _, rfl, rfl, ha, atI_map e2, p.scal (.int _)⟩⟩
  · cases e
theorem o_eqS (hu : X.A.units + 64 < cLine) : OpR X (compareOp .Eq) (rM X.K c (lift2 fEqS)) := by
  refine lift2_op (op_eqD hu) fun x y d1 d2 o H Q L r1 r2 e => ?_
  unfold fEqS at e
  split at e
  · cases e1 : scrOf d1 with
    | none => rw [e1] at e; cases e
    | some ns =>
      rw [e1] at e; cases e
      obtain ⟨a, rfl, ha⟩ := r1.scr e1
      obtain ⟨b, ys, rfl, hb, rb⟩ := r2.lst
      cases rb
      refine ⟨noVal, fun p => ⟨.list (ns.map .int), .list [], .lst ha dp_ints, .lst (.inl hb) .nil, PySem.W.ke_shaped_ints ns, rfl, p.scal ?_⟩⟩
      have : PyData.eqv (.list (ns.map .int)) (.list []) = ns.isEmpty := by
        cases ns with
        | nil => rfl
        | cons n l => rfl
      rw [this]
      exact .bl _
  · cases e
variable {pos : Pos}
theorem je_globX {x : Str} {i : Int} (hg : Gl X x) (hm : ∃ t, X.mg x = some (.int i t)) (hd : (x == ("__debug__" : Str)) = false := by decide) : JE X c (.Name x pos) (mC (.int i)) :=
  let ⟨_, h⟩ := hm; je_glob hg h hd
theorem je_globSX {x : Str} {i : Str} (hg : Gl X x) (hm : ∃ t, X.mg x = some (.str i t)) (hd : (x == ("__debug__" : Str)) = false := by decide) : JE X c (.Name x pos) (mC (.str i)) :=
  let ⟨_, h⟩ := hm; je_globS hg h hd
end
end MM

/-! ML12: a law's end. -/
namespace MM
open PySem PySem.Spec PyProof.Rows L2
def spLw (K : PySem.W.Frag) : Sp := fun vs H Q _ => ∃ (ns : List Int) (a : Addr), ns.length ≤ 63 ∧ vs = [.ref a] ∧ SqS K H a (ns.map V.int) ∧ ∀ H', Q (.bl true) H'
theorem lw_ok {P : Program} {w : World} {K : PySem.W.Frag} {mg : Str → Option Value} {base : Heap} {CX : CXT} {k : Nat} {fa : Addr} {fd : FuncData} {x : Str} {F : List Sl → FOut} (G : FnOk P w K mg base CX k fa fd [x] (spF K mg 1 F))
    (hF : ∀ ns : List Int, ns.length ≤ 63 → ∃ as, F [.p (scrD ns)] = .ok (.bool true) as) : FnOk P w K mg base CX k fa fd [x] (spLw K) := G.imp fun vs H Q E h => by
  obtain ⟨ns, a, hl, e, hs, q⟩ := h
  subst e
  obtain ⟨as, e⟩ := hF ns hl
  refine ⟨[.p (scrD ns)], rfl, ?_, ?_⟩
  · refine ⟨rfl, fun i sl v h1 h2 => ?_, fun i j sl sl' v v' b h1 h2 f h3 h4 f' => ?_⟩
    · cases i with
      | zero => cases h1; cases h2; exact ⟨.scr hs, trivial⟩
      | succ i => simp at h1
    · cases i with
      | zero => cases h1; exact f.elim
      | succ i => simp at h1
  · rw [e]
    exact fun v H' _ r => by cases r; exact q H'
theorem walk_mm {l : PySem.W.OpenLaw} {q : Program} {loose : List Str} {XP : (Str → Option Value) → Heap → Prop} {YP : World → Heap → Prop} {d : DefRec} {K : Params → PySem.W.Frag} {k : Nat} (hn : l.most = some 63) (hdf : d.params.defaults = []) (hr : Room k callerA)
    (hY : ∀ (w : World) (h : Heap), YP w h → (K w.params).In h)
    (F : ∀ (w : World) (mg : Str → Option Value) (fa : Addr) (h : Heap), (K w.params).In h → h.Ns mainGlobals mg → mg d.name = some (.ref fa) →
      ∃ fd : FuncData, (∀ (s : Shared) (u : Value), BindsTo s fd ⟨[u], []⟩ [("_law_script", u)]) ∧ ∀ base : Heap, (K w.params).In base → base.Ns mainGlobals mg → FnOk l.prog w (K w.params) mg base (L2.CX l.prog w) k fa fd ["_law_script"] (spLw (K w.params))) :
    PySem.W.WalkO q loose XP YP l.row.toRowW d [] (fun f vs => PySem.call f vs) :=
  L2.walk_of (n := 63) (k := k) (x := "_law_script") (CX := fun w => L2.CX l.prog w) (sp := fun w => spLw (K w.params)) hn (by decide) hdf hr hY F
    (fun w H a ns hl hO hS => ⟨ns, a, hl, rfl, by
      rcases hS with (h | ⟨o, h⟩) | h
      · rcases hO a with z | ⟨o, xs, z⟩
        · rw [z] at h; cases h
        · rw [z] at h; cases h
      · exact .inl ⟨o, h⟩
      · exact .inr (.inr h), fun _ => rfl⟩)
    fun w H s e s' z => by
      obtain ⟨_, _, _, _, _, _, _, _, _, _, _, _, z⟩ := z
      exact z
end MM

/-! ML13: mirrors are computed. -/
namespace MM
open PySem PySem.Spec PyProof.Rows L2
theorem Out.bind_congr {α β : Type} {r r' : Out α} {f : α → M β} (h : r = r') : r.bind f = r'.bind f := by rw [h]
@[simp] theorem mBin_ap (g : Opd → Opd → M Opd) (ma mb : M Opd) (ε : En) : mBin g ma mb ε = ((ma ε).bind fun o1 ε1 => (mb ε1).bind fun o2 ε2 => g o1 o2 ε2) := rfl
@[simp] theorem mUn_ap (g : Opd → M Opd) (ma : M Opd) (ε : En) : mUn g ma ε = ((ma ε).bind g) := rfl
@[simp] theorem mCallB_ap (g : List Opd → M Opd) (ma : M (List Opd)) (ε : En) : mCallB g ma ε = ((ma ε).bind g) := rfl
@[simp] theorem lift1_ap (f : PD → Option Opd) (o : Opd) (ε : En) : lift1 f o ε = (match (rdO ε o).bind f with
  | some r => .ok r ε
  | none => .stuck) := rfl
@[simp] theorem lift2_ap (f : PD → PD → Option Opd) (o1 : Opd) (o2 : Opd) (ε : En) : lift2 f o1 o2 ε = (match (rdO ε o1).bind fun d1 => (rdO ε o2).bind fun d2 => f d1 d2 with
  | some r => .ok r ε
  | none => .stuck) := rfl
@[simp] theorem liftN_ap (f : List PD → Option Opd) (os : List Opd) (ε : En) : liftN f os ε = (match (rdOs ε os).bind f with
  | some r => .ok r ε
  | none => .stuck) := rfl
@[simp] theorem mC_ap (d : PD) (ε : En) : mC d ε = (.ok (.val d) ε) := rfl
@[simp] theorem mVar_ap (i : Nat) (ε : En) : mVar i ε = (match ε[i]? with
  | some (.p d) => .ok (.val d) ε
  | some (.ow _) => .ok (.own i) ε
  | some (.io _) => .ok (.own i) ε
  | _ => .stuck) := rfl
@[simp] theorem mVal_ap (m : M Opd) (ε : En) : mVal m ε = ((m ε).bind sink) := rfl
@[simp] theorem mNil_ap (ε : En) : mNil  ε = (.ok [] ε) := rfl
@[simp] theorem mCons_ap (m : M PD) (r : M (List PD)) (ε : En) : mCons m r ε = ((m ε).bind fun d ε1 => (r ε1).bind fun ds ε2 => .ok (d :: ds) ε2) := rfl
@[simp] theorem oNil_ap (ε : En) : oNil  ε = (.ok [] ε) := rfl
@[simp] theorem oCons_ap (m : M Opd) (r : M (List Opd)) (ε : En) : oCons m r ε = ((m ε).bind fun d ε1 => (r ε1).bind fun ds ε2 => .ok (d :: ds) ε2) := rfl
@[simp] theorem mSink_ap (m : M Opd) (ε : En) : mSink m ε = ((mVal m ε).bind fun d ε1 => .ok (.val d) ε1) := rfl
@[simp] theorem mTru_ap (m : M Opd) (ε : En) : mTru m ε = ((m ε).bind fun o ε1 => match o with
  | .val (.bool b) => .ok b ε1
  | _ => .stuck) := rfl
@[simp] theorem mChain_ap (g g' : Opd → Opd → M Opd) (ma mb mc : M Opd) (ε : En) : mChain g g' ma mb mc ε = ((ma ε).bind fun o1 ε1 => (mb ε1).bind fun o2 ε2 => (g o1 o2 ε2).bind fun o ε3 => match o with
  | .val (.bool true) => (mc ε3).bind fun o3 ε4 => g' o2 o3 ε4
  | .val (.bool false) => .ok (.val (.bool false)) ε3
  | _ => .stuck) := rfl
@[simp] theorem mAnd_ap (ma : M Bool) (mb : M Opd) (ε : En) : mAnd ma mb ε = ((ma ε).bind fun k ε1 => if k = true then mb ε1 else .ok (.val (.bool false)) ε1) := rfl
@[simp] theorem mOr_ap (ma : M Bool) (mb : M Opd) (ε : En) : mOr ma mb ε = ((ma ε).bind fun k ε1 => if k = true then .ok (.val (.bool true)) ε1 else mb ε1) := rfl
@[simp] theorem mNot_ap (ma : M Bool) (ε : En) : mNot ma ε = ((ma ε).bind fun k ε1 => .ok (.val (.bool (!k))) ε1) := rfl
@[simp] theorem bAnd_ap (ma mb : M Bool) (ε : En) : bAnd ma mb ε = ((ma ε).bind fun k ε1 => if k = true then mb ε1 else .ok false ε1) := rfl
@[simp] theorem bOr_ap (ma mb : M Bool) (ε : En) : bOr ma mb ε = ((ma ε).bind fun k ε1 => if k = true then .ok true ε1 else mb ε1) := rfl
@[simp] theorem bNot_ap (ma : M Bool) (ε : En) : bNot ma ε = ((ma ε).bind fun k ε1 => .ok (!k) ε1) := rfl
@[simp] theorem mIf_ap (t : M Bool) (ma mb : M Opd) (ε : En) : mIf t ma mb ε = ((t ε).bind fun k ε1 => if k = true then ma ε1 else mb ε1) := rfl
@[simp] theorem pNone_ap (ε : En) : pNone  ε = (.ok none ε) := rfl
@[simp] theorem pSome_ap (m : M Opd) (ε : En) : pSome m ε = ((m ε).bind fun o ε1 => match o with
  | .val (.int i) => .ok (some i) ε1
  | _ => .stuck) := rfl
@[simp] theorem mSlice_ap (g : Opd → Option Int → Option Int → M Opd) (me : M Opd) (ml mh : M (Option Int)) (ε : En) : mSlice g me ml mh ε = ((me ε).bind fun o ε1 => (ml ε1).bind fun l ε2 => (mh ε2).bind fun u ε3 => g o l u ε3) := rfl
@[simp] theorem liftS_ap (f : PD → Option Int → Option Int → Option Opd) (o : Opd) (lo : Option Int) (hi : Option Int) (ε : En) : liftS f o lo hi ε = (match (rdO ε o).bind fun d => f d lo hi with
  | some r => .ok r ε
  | none => .stuck) := rfl
@[simp] theorem sNil_ap (ε : En) : sNil  ε = (.ok .nx ε) := rfl
@[simp] theorem sSeq_ap (m1 m2 : M Fl) (ε : En) : sSeq m1 m2 ε = ((m1 ε).bind fun f ε1 => match f with
  | .nx => m2 ε1
  | f => .ok f ε1) := rfl
@[simp] theorem sBrk_ap (ε : En) : sBrk  ε = (.ok .bk ε) := rfl
@[simp] theorem sNever_ap (ε : En) : sNever  ε = (.stuck) := rfl
@[simp] theorem sDrop_ap (m : M Opd) (ε : En) : sDrop m ε = ((m ε).bind fun _ ε1 => .ok .nx ε1) := rfl
@[simp] theorem sRet_ap (m : M PD) (ε : En) : sRet m ε = ((m ε).bind fun d ε1 => .ok (.rt d) ε1) := rfl
@[simp] theorem sRetN_ap (ε : En) : sRetN  ε = (.ok (.rt .none) ε) := rfl
@[simp] theorem sIf_ap (t : M Bool) (a b : M Fl) (ε : En) : sIf t a b ε = ((t ε).bind fun k ε1 => if k = true then a ε1 else b ε1) := rfl
@[simp] theorem sSet_ap (i : Nat) (m : M Opd) (ε : En) : sSet i m ε = ((m ε).bind fun o ε1 => match sto i o ε1 with
  | some ε2 => .ok .nx ε2
  | none => .stuck) := rfl
@[simp] theorem sAug_ap (i : Nat) (g : Opd → Opd → M Opd) (m : M Opd) (ε : En) : sAug i g m ε = ((mVar i ε).bind fun o1 ε0 => (m ε0).bind fun o2 ε1 => (g o1 o2 ε1).bind fun o ε2 => match sto i o ε2 with
  | some ε3 => .ok .nx ε3
  | none => .stuck) := rfl
@[simp] theorem sAsg_ap (t : Tg) (m : M PD) (ε : En) : sAsg t m ε = ((m ε).bind fun d ε1 => match t d ε1 with
  | some ε2 => .ok .nx ε2
  | none => .stuck) := rfl
@[simp] theorem sPar_ap (is : List Nat) (m : M (List Opd)) (ε : En) : sPar is m ε = ((m ε).bind fun os ε1 => match stos is os ε1 with
  | some ε2 => .ok .nx ε2
  | none => .stuck) := rfl
@[simp] theorem iVal_ap (m : M PD) (ε : En) : iVal m ε = ((m ε).bind fun d ε1 => match d with
  | .list ds => .ok ds ε1
  | .tuple ds => .ok ds ε1
  | .str z => .ok (strD z) ε1
  | _ => .stuck) := rfl
@[simp] theorem iRow_ap (f : List PD → Option (List PD)) (m : M (List PD)) (ε : En) : iRow f m ε = ((m ε).bind fun ds ε1 => match f ds with
  | some xs => .ok xs ε1
  | none => .stuck) := rfl
@[simp] theorem sFor_ap (mi : M (List PD)) (t : Tg) (mb : M Fl) (ε : En) : sFor mi t mb ε = ((mi ε).bind fun xs ε1 => forL t mb xs ε1) := rfl
@[simp] theorem xYes_ap (ε : En) : xYes  ε = (.ok true ε) := rfl
@[simp] theorem mApp_ap (i : Nat) (m : M PD) (ε : En) : mApp i m ε = (match ownL ε i with
  | none => .stuck
  | some _ => (m ε).bind fun d ε1 => match ownL ε1 i with
    | none => .stuck
    | some ds => if ds.length < big then .ok (.val .none) (setOb ε1 i (.l (ds ++ [d]))) else .stuck) := rfl
@[simp] theorem mExt_ap (i : Nat) (m : M Opd) (ε : En) : mExt i m ε = (match ownL ε i with
  | none => .stuck
  | some _ => (m ε).bind fun o ε1 => match ownL ε1 i with
    | none => .stuck
    | some ds => match o with
      | .new (.l es) => if ds.length + es.length ≤ big then .ok (.val .none) (setOb ε1 i (.l (ds ++ es))) else .stuck
      | .own k => match ownL ε1 k with
        | some es => if ds.length + es.length ≤ big then .ok (.val .none) (setOb ε1 i (.l (ds ++ es))) else .stuck
        | none => .stuck
      | _ => .stuck) := rfl
@[simp] theorem sSetIx_ap (i : Nat) (mi : M Opd) (me : M PD) (ε : En) : sSetIx i mi me ε = ((me ε).bind fun d ε1 => match ownL ε1 i with
  | none => .stuck
  | some _ => (mi ε1).bind fun o ε2 => match o with
    | .val (.int k) => match ownL ε2 i with
      | none => .stuck
      | some ds => match ixN ds.length k with
        | none => .stuck
        | some j => .ok .nx (setOb ε2 i (.l (ds.set j d)))
    | _ => .stuck) := rfl
@[simp] theorem mListRg_ap (m : M (Int × Int)) (ε : En) : mListRg m ε = ((m ε).bind fun p ε1 => if 0 ≤ p.1 ∧ p.1 ≤ 1000000 ∧ 0 ≤ p.2 ∧ p.2 ≤ 1000000 then .ok (.new (.l (rngD p.1 1 (p.2 - p.1).toNat))) ε1 else .stuck) := rfl
@[simp] theorem mCall_ap (F : List Sl → FOut) (ma : M (List Opd)) (ε : En) : mCall F ma ε = ((ma ε).bind fun os ε1 => match argsOf ε1 os with
  | none => .stuck
  | some as => if muts os ≤ 1 then (match F as with
      | .ok d as' => .ok (.val d) (wb os as' ε1)
      | .nw ob as' => .ok (.new ob) (wb os as' ε1)
      | .exc C as' => .exc C (wb os as' ε1)
      | .stuck => .stuck) else .stuck) := rfl
def tupK (ds : List PD) : M Opd := fun ε1 => if ds.length ≤ 1000 then .ok (.val (.tuple ds)) ε1 else .stuck
def lstK (ds : List PD) : M Opd := fun ε1 => if ds.length ≤ 1000 then .ok (.new (.l ds)) ε1 else .stuck
def lcK (vs : List Nat) (t : Tg) (tt : M Bool) (te : M PD) (xs : List PD) : M Opd := fun ε1 => if xs.length ≤ big ∧ vs.all (fun i => notIoB ε1[i]?) = true then lcL vs t tt te xs [] ε1 else .stuck
@[simp] theorem rdO_val (ε : En) (d : PD) : rdO ε (.val d) = some d := rfl
@[simp] theorem rdO_new (ε : En) (ds : List PD) : rdO ε (.new (.l ds)) = some (.list ds) := rfl
@[simp] theorem rdO_own (ε : En) (k : Nat) : rdO ε (.own k) = (match ε[k]? with
    | some (.ow (.l ds)) => some (.list ds)
    | some (.io (.l ds)) => some (.list ds)
    | _ => none) := rfl
@[simp] theorem rdOs_nil (ε : En) : rdOs ε [] = some [] := rfl
@[simp] theorem rdOs_cons (ε : En) (o : Opd) (os : List Opd) : rdOs ε (o :: os) = ((rdO ε o).bind fun d => (rdOs ε os).map fun ds => d :: ds) := rfl
/-- a slot that may be stored to -/
def okSl : Option Sl → Bool
  | some (.io _) => false
  | none => false
  | some _ => true
@[simp] theorem okSl_none : okSl none = false := rfl
@[simp] theorem okSl_no : okSl (some .no) = true := rfl
@[simp] theorem okSl_p (d : PD) : okSl (some (.p d)) = true := rfl
@[simp] theorem okSl_ow (d : Ob) : okSl (some (.ow d)) = true := rfl
@[simp] theorem okSl_io (d : Ob) : okSl (some (.io d)) = false := rfl
/-- what a loop's name holds: nothing yet, or the last one -/
def jk (o : Option PD) : Sl := match o with
  | none => .no
  | some d => .p d
@[simp] theorem okSl_jk (o : Option PD) : okSl (some (jk o)) = true := by cases o <;> rfl
@[simp] theorem notIoB_jk (o : Option PD) : notIoB (some (jk o)) = true := by cases o <;> rfl
theorem jk_no : Sl.no = jk none := rfl
theorem jk_p (d : PD) : Sl.p d = jk (some d) := rfl
@[simp] theorem sto_val (i : Nat) (d : PD) (ε : En) : sto i (.val d) ε = (if okSl ε[i]? = true then some (ε.set i (.p d)) else none) := by
  unfold sto
  cases ε[i]? with
  | none => rfl
  | some s => cases s <;> rfl
@[simp] theorem sto_new (i : Nat) (ob : Ob) (ε : En) : sto i (.new ob) ε = (if okSl ε[i]? = true then some (ε.set i (.ow ob)) else none) := by
  unfold sto
  cases ε[i]? with
  | none => rfl
  | some s => cases s <;> rfl
@[simp] theorem stos_nil (ε : En) : stos [] [] ε = some ε := rfl
@[simp] theorem stos_cons (i : Nat) (is : List Nat) (o : Opd) (os : List Opd) (ε : En) : stos (i :: is) (o :: os) ε = (sto i o ε).bind (stos is os) := rfl
@[simp] theorem tName_ap (i : Nat) (d : PD) (ε : En) : tName i d ε = sto i (.val d) ε := rfl
@[simp] theorem tTupT_ap (is : List Nat) (ds : List PD) (ε : En) : tTupT is (.tuple ds) ε = stos is (ds.map .val) ε := rfl
@[simp] theorem argsOf_nil (ε : En) : argsOf ε [] = some [] := rfl
@[simp] theorem argsOf_val (ε : En) (d : PD) (os : List Opd) : argsOf ε (.val d :: os) = (argsOf ε os).map (.p d :: ·) := rfl
@[simp] theorem argsOf_new (ε : En) (d : Ob) (os : List Opd) : argsOf ε (.new d :: os) = (argsOf ε os).map (.io d :: ·) := rfl
@[simp] theorem argsOf_own (ε : En) (k : Nat) (os : List Opd) : argsOf ε (.own k :: os) = (match ε[k]? with
    | some (.ow ob) => (argsOf ε os).map (.io ob :: ·)
    | some (.io ob) => (argsOf ε os).map (.io ob :: ·)
    | _ => none) := rfl
@[simp] theorem muts_nil : muts [] = 0 := rfl
@[simp] theorem muts_val (d : PD) (os : List Opd) : muts (.val d :: os) = muts os := rfl
@[simp] theorem muts_own (d : Nat) (os : List Opd) : muts (.own d :: os) = muts os + 1 := rfl
@[simp] theorem muts_new (d : Ob) (os : List Opd) : muts (.new d :: os) = muts os + 1 := rfl
@[simp] theorem wb_nil (as : List Sl) (ε : En) : wb [] as ε = ε := by cases as <;> rfl
@[simp] theorem wb_own (k : Nat) (os : List Opd) (ob : Ob) (as : List Sl) (ε : En) : wb (.own k :: os) (.io ob :: as) ε = wb os as (setOb ε k ob) := rfl
@[simp] theorem wb_val (d : PD) (os : List Opd) (a : Sl) (as : List Sl) (ε : En) : wb (.val d :: os) (a :: as) ε = wb os as ε := by cases a <;> rfl
@[simp] theorem wb_new (d : Ob) (os : List Opd) (a : Sl) (as : List Sl) (ε : En) : wb (.new d :: os) (a :: as) ε = wb os as ε := by cases a <;> rfl
@[simp] theorem ownL_ap (ε : En) (i : Nat) : ownL ε i = (match ε[i]? with
  | some (.ow (.l ds)) => some ds
  | some (.io (.l ds)) => some ds
  | _ => none) := rfl
@[simp] theorem setOb_ap (ε : En) (i : Nat) (ob : Ob) : setOb ε i ob = (match ε[i]? with
  | some (.ow _) => ε.set i (.ow ob)
  | some (.io _) => ε.set i (.io ob)
  | _ => ε) := rfl
@[simp] theorem wipeE_nil (ε : En) : wipeE ε [] = ε := rfl
@[simp] theorem wipeE_cons (ε : En) (v : Nat) (vs : List Nat) : wipeE ε (v :: vs) = (wipeE ε vs).set v .no := rfl
@[simp] theorem restE_nil (ε ε' : En) : restE ε ε' [] = ε' := rfl
@[simp] theorem restE_cons (ε ε' : En) (v : Nat) (vs : List Nat) : restE ε ε' (v :: vs) = (restE ε ε' vs).set v (ε.getD v .no) := rfl
@[simp] theorem notIoB_no : notIoB (some .no) = true := rfl
@[simp] theorem notIoB_none : notIoB none = true := rfl
@[simp] theorem notIoB_p (d : PD) : notIoB (some (.p d)) = true := rfl
@[simp] theorem notIoB_ow (d : Ob) : notIoB (some (.ow d)) = true := rfl
@[simp] theorem sink_val (d : PD) (ε : En) : sink (.val d) ε = .ok d ε := rfl
@[simp] theorem sink_new (ds : List PD) (ε : En) : sink (.new (.l ds)) ε = .ok (.list ds) ε := rfl
@[simp] theorem outs_nil (ε : En) : outs [] ε = [] := rfl
@[simp] theorem outs_p (d : PD) (as : List Sl) (e : Sl) (ε : En) : outs (.p d :: as) (e :: ε) = .p d :: outs as ε := rfl
@[simp] theorem outs_io (d : Ob) (as : List Sl) (e : Sl) (ε : En) : outs (.io d :: as) (e :: ε) = e :: outs as ε := rfl
@[simp] theorem finF_rt (as : List Sl) (d : PD) (ε : En) : finF as (.ok (.rt d) ε) = (if as.length ≤ ε.length then .ok d (outs as ε) else .stuck) := rfl
@[simp] theorem finF_nx (as : List Sl) (ε : En) : finF as (.ok .nx ε) = (if as.length ≤ ε.length then .ok .none (outs as ε) else .stuck) := rfl
@[simp] theorem forL_nil (t : Tg) (mb : M Fl) (ε : En) : forL t mb [] ε = .ok .nx ε := rfl
@[simp] theorem lcL_nil (vs : List Nat) (t : Tg) (tt : M Bool) (te : M PD) (acc : List PD) (ε : En) : lcL vs t tt te [] acc ε = .ok (.new (.l acc)) ε := rfl
@[simp] theorem gRep_ap (ds : List PD) (k : Int) (ε : En) (h1 : midI k = true) (h2 : ds.length * k.toNat ≤ big) : gRep (.new (.l ds)) (.val (.int k)) ε = .ok (.new (.l (List.replicate k.toNat ds).flatten)) ε := if_pos ⟨h1, h2⟩
@[simp] theorem mRep_ap (ma mb : M Opd) (ε : En) : mRep ma mb ε = ((ma ε).bind fun o1 ε1 => (mb ε1).bind fun o2 ε2 => gRep o1 o2 ε2) := rfl
@[simp] theorem rg1_ap (m : M Opd) (ε : En) : rg1 m ε = ((m ε).bind fun o ε1 => match o with
  | .val (.int n) => .ok ((0 : Int), n) ε1
  | _ => .stuck) := rfl
@[simp] theorem mTup_ap (m : M (List PD)) (ε : En) : mTup m ε = (m ε).bind tupK := rfl
@[simp] theorem mLst_ap (m : M (List PD)) (ε : En) : mLst m ε = (m ε).bind lstK := rfl
@[simp] theorem tupK_ap (ds : List PD) (ε : En) (h : ds.length ≤ 1000) : tupK ds ε = .ok (.val (.tuple ds)) ε := if_pos h
@[simp] theorem lstK_ap (ds : List PD) (ε : En) (h : ds.length ≤ 1000) : lstK ds ε = .ok (.new (.l ds)) ε := if_pos h
@[simp] theorem mLc_ap (vs : List Nat) (mi : M (List PD)) (t : Tg) (tt : M Bool) (te : M PD) (ε : En) : mLc vs mi t tt te ε = (mi ε).bind (lcK vs t tt te) := rfl
@[simp] theorem lcK_ap (vs : List Nat) (t : Tg) (tt : M Bool) (te : M PD) (xs : List PD) (ε : En) (h1 : xs.length ≤ big) (h2 : vs.all (fun i => notIoB ε[i]?) = true) : lcK vs t tt te xs ε = lcL vs t tt te xs [] ε := if_pos ⟨h1, h2⟩
/-- a row -/
def iD (ns : List Int) : List PD := ns.map PyData.int
@[simp] theorem iD_len (ns : List Int) : (iD ns).length = ns.length := List.length_map _
@[simp] theorem iD_nil : iD [] = [] := rfl
theorem iD_at (ns : List Int) (i : Nat) : (iD ns)[i]? = ns[i]?.map .int := List.getElem?_map ..
theorem iD_mem {ns : List Int} {x : PD} (h : x ∈ iD ns) : ∃ n ∈ ns, x = .int n := let ⟨n, a, b⟩ := List.mem_map.mp h; ⟨n, a, b.symm⟩
theorem iD_drop (ns : List Int) (k : Nat) : iD (ns.drop k) = (iD ns).drop k := List.map_drop
theorem iD_take (ns : List Int) (k : Nat) : iD (ns.take k) = (iD ns).take k := List.map_take
theorem iD_app (a b : List Int) : iD (a ++ b) = iD a ++ iD b := List.map_append
theorem iD_rep (k : Nat) (n : Int) : iD (List.replicate k n) = List.replicate k (.int n) := List.map_replicate
theorem iD_set (ns : List Int) (k : Nat) (n : Int) : (iD ns).set k (.int n) = iD (ns.set k n) := List.map_set.symm
@[simp] theorem fAdd_ii (i j : Int) : fAdd (.int i) (.int j) = some (.val (.int (i + j))) := rfl
@[simp] theorem fAdd_tt (i j : List PD) (h : i.length + j.length ≤ big) : fAdd (.tuple i) (.tuple j) = some (.val (.tuple (i ++ j))) := if_pos h
@[simp] theorem fAdd_ll (i j : List PD) (h : i.length + j.length ≤ big) : fAdd (.list i) (.list j) = some (.new (.l (i ++ j))) := if_pos h
@[simp] theorem fAddI_ii (i j : Int) : fAddI (.int i) (.int j) = some (.val (.int (i + j))) := rfl
@[simp] theorem fSub_ii (i j : Int) : fSub (.int i) (.int j) = some (.val (.int (i - j))) := rfl
@[simp] theorem fMul_ii (i j : Int) : fMul (.int i) (.int j) = (if (smallI i || smallI j) = true then some (.val (.int (i * j))) else none) := rfl
@[simp] theorem fDiv_ii (i j : Int) : fDiv (.int i) (.int j) = (if 0 < j ∧ j < 1073741824 then some (.val (.int (i / j))) else none) := rfl
@[simp] theorem fMod_ii (i j : Int) : fMod (.int i) (.int j) = (if 0 < j then some (.val (.int (i % j))) else none) := rfl
@[simp] theorem fNeg_i (i : Int) : fNeg (.int i) = some (.val (.int (-i))) := rfl
@[simp] theorem fCmp_ii (f : Int → Int → Bool) (i j : Int) : fCmp f (.int i) (.int j) = some (.val (.bool (f i j))) := rfl
@[simp] theorem fIsN_bb (i j : Bool) : fIsN (.bool i) (.bool j) = some (.val (.bool (!decide (i = j)))) := rfl
@[simp] theorem fIs_bb (i j : Bool) : fIs (.bool i) (.bool j) = some (.val (.bool (decide (i = j)))) := rfl
@[simp] theorem fIsi_int (i : Int) : fIsi .int (.int i) = some (.val (.bool true)) := rfl
@[simp] theorem fIsi_bool (i : Int) : fIsi .bool (.int i) = some (.val (.bool false)) := rfl
@[simp] theorem fIsi_tuple (i : List PD) : fIsi .tuple (.tuple i) = some (.val (.bool true)) := rfl
@[simp] theorem fIx_l (ds : List PD) (i : Int) : fIx (.list ds) (.int i) = (atI ds i).map .val := rfl
@[simp] theorem fIx_t (ds : List PD) (i : Int) : fIx (.tuple ds) (.int i) = (atI ds i).map .val := rfl
@[simp] theorem fSl_l (ds : List PD) (lo hi : Option Int) : fSl (.list ds) lo hi = some (.new (.l (cutD ds lo hi))) := rfl
@[simp] theorem fSl_t (ds : List PD) (lo hi : Option Int) : fSl (.tuple ds) lo hi = some (.val (.tuple (cutD ds lo hi))) := rfl
@[simp] theorem fLen_l (ds : List PD) : fLen [.list ds] = some (.val (.int ds.length)) := rfl
@[simp] theorem fLen_t (ds : List PD) : fLen [.tuple ds] = some (.val (.int ds.length)) := rfl
@[simp] theorem fMin2_ii (i j : Int) : fMin2 [.int i, .int j] = some (.val (.int (if j < i then j else i))) := rfl
@[simp] theorem fMax2_ii (i j : Int) : fMax2 [.int i, .int j] = some (.val (.int (if j > i then j else i))) := rfl
@[simp] theorem fTuple_l (ds : List PD) : fTuple [.list ds] = some (.val (.tuple ds)) := rfl
@[simp] theorem fTuple_t (ds : List PD) : fTuple [.tuple ds] = some (.val (.tuple ds)) := rfl
@[simp] theorem fList_l (ds : List PD) : fList [.list ds] = some (.new (.l ds)) := rfl
@[simp] theorem fList_t (ds : List PD) : fList [.tuple ds] = some (.new (.l ds)) := rfl
@[simp] theorem fRev_l (ds : List PD) : fRev (.list ds) = some (.new (.l ds.reverse)) := rfl
@[simp] theorem fLenS_s (ns : List Int) : fLenS [scrD ns] = some (.val (.int ns.length)) := by
  show (scrOf (scrD ns)).map _ = _
  rw [scrOf_scrD]; rfl
@[simp] theorem fIxS_s (ns : List Int) (i : Int) : fIxS (scrD ns) (.int i) = (atI ns i).map fun n => .val (.int n) := by
  show (scrOf (scrD ns)).bind _ = _
  rw [scrOf_scrD]; rfl
@[simp] theorem fEqS_s (ns : List Int) : fEqS (scrD ns) (.list []) = some (.val (.bool ns.isEmpty)) := by
  show (scrOf (scrD ns)).map _ = _
  rw [scrOf_scrD]; rfl
@[simp] theorem fRepT_ti (ds : List PD) (k : Int) (h1 : ds ≠ []) (h2 : ds.length ≤ 1000) (h3 : 0 ≤ k) (h4 : k ≤ 1000) : fRepT (.tuple ds) (.int k) = some (.val (.tuple (List.replicate k.toNat ds).flatten)) := if_pos ⟨h1, h2, h3, h4⟩
@[simp] theorem fPow_ii (i j : Int) (h1 : smallI i = true) (h2 : 0 ≤ j) (h3 : j ≤ 1000000) : fPow (.int i) (.int j) = some (.val (.int (i ^ j.toNat))) := if_pos ⟨h1, h2, h3⟩
@[simp] theorem iVal_f (ds : List PD) : boolsOf [] = some [] := rfl
@[simp] theorem rng1_i (j : Int) : rng1 [.int j] = (if midI j = true then some (rngD 0 1 j.toNat) else none) := rfl
@[simp] theorem enumFT_t (ds : List PD) : enumFT [.tuple ds] = some (enD ds) := rfl
@[simp] theorem boolsOf_map {α : Type} (f : α → Bool) (l : List α) : boolsOf (l.map fun x => .bool (f x)) = some (l.map f) := by
  induction l with
  | nil => rfl
  | cons a l ih => simp only [List.map_cons, boolsOf, ih, Option.map_some]
@[simp] theorem intsOf_map' {α : Type} (f : α → Int) (l : List α) : intsOf (l.map fun x => .int (f x)) = some (l.map f) := by
  induction l with
  | nil => rfl
  | cons a l ih => simp only [List.map_cons, intsOf, ih, Option.map_some]
theorem shI (i : Int) : SeqAt.shaped (.int i) = true := by simp [SeqAt.shaped, PyData.canLay0, PyData.depth]
theorem shL (ns : List Int) : SeqAt.shaped (.list (iD ns)) = true := PySem.W.ke_shaped_ints ns
theorem shT (ns : List Int) : SeqAt.shaped (.tuple (iD ns)) = true := by simp [SeqAt.shaped, PyData.canLay0, PyData.depth, PySem.W.ke_canLayAll0, PySem.W.ke_depthAll, iD]
@[simp] theorem fEq_ii (i j : Int) : fEq (.int i) (.int j) = some (.val (.bool (decide (i = j)))) := by simp [fEq, shI, PyData.eqv]; by_cases h : i = j <;> simp [h]
@[simp] theorem fNe_ii (i j : Int) : fNe (.int i) (.int j) = some (.val (.bool (!decide (i = j)))) := by simp [fNe, shI, PyData.eqv]; by_cases h : i = j <;> simp [h]
theorem eqvI (a b : List Int) : PyData.eqvAll (iD a) (iD b) = decide (a = b) := PySem.W.ked_eqvAll a b
theorem fEq_LL (a b : List Int) : fEq (.list (iD a)) (.list (iD b)) = some (.val (.bool (decide (a = b)))) := by simp [fEq, shL, PyData.eqv, eqvI]
theorem fNe_LL (a b : List Int) : fNe (.list (iD a)) (.list (iD b)) = some (.val (.bool (!decide (a = b)))) := by simp [fNe, shL, PyData.eqv, eqvI]
theorem fEq_TT (a b : List Int) : fEq (.tuple (iD a)) (.tuple (iD b)) = some (.val (.bool (decide (a = b)))) := by simp [fEq, shT, PyData.eqv, eqvI]
theorem fNe_TT (a b : List Int) : fNe (.tuple (iD a)) (.tuple (iD b)) = some (.val (.bool (!decide (a = b)))) := by simp [fNe, shT, PyData.eqv, eqvI]
theorem cut_from (xs : List PD) {k : Int} (h : 0 ≤ k) : cutD xs (some k) none = xs.drop k.toNat := by
  obtain ⟨n, rfl⟩ : ∃ n : Nat, k = n := ⟨k.toNat, by omega⟩
  unfold cutD
  rw [HT.sIx_nat, HT.sIx_none, Int.toNat_natCast]
  by_cases hn : n ≤ xs.length
  · rw [Nat.min_eq_left hn, List.take_of_length_le (by rw [List.length_drop]; omega)]
  · rw [Nat.min_eq_right (by omega), Nat.sub_self, List.take_zero, List.drop_eq_nil_of_le (by omega)]
theorem cut_to (xs : List PD) {k : Int} (h : 0 ≤ k) : cutD xs none (some k) = xs.take k.toNat := by
  obtain ⟨n, rfl⟩ : ∃ n : Nat, k = n := ⟨k.toNat, by omega⟩
  unfold cutD
  rw [HT.sIx_nat, HT.sIx_none, Int.toNat_natCast, List.drop_zero, Nat.sub_zero]
  by_cases hn : n ≤ xs.length
  · rw [Nat.min_eq_left hn]
  · rw [Nat.min_eq_right (by omega), List.take_of_length_le (Nat.le_refl _), List.take_of_length_le (by omega)]
theorem midI_of {i : Int} (h0 : -1000000000 ≤ i) (h1 : i ≤ 1000000000) : midI i = true := by
  unfold midI
  simp only [Bool.and_eq_true, decide_eq_true_eq]
  omega
theorem smallI_of {i : Int} (h0 : -1000000000000 ≤ i) (h1 : i ≤ 1000000000000) : smallI i = true := by
  unfold smallI
  simp only [Bool.and_eq_true, decide_eq_true_eq]
  omega
theorem atI_nat {α : Type} {l : List α} {k : Int} {x : α} (h0 : 0 ≤ k) (h : l[k.toNat]? = some x) : atI l k = some x := by
  have hl := (List.getElem?_eq_some_iff.mp h).1
  unfold atI ixN
  rw [if_pos h0, if_pos (by omega)]
  exact h
theorem iD_atI {ns : List Int} {i : Nat} (h : i < ns.length) : atI (iD ns) (i : Int) = some (.int ns[i]) := atI_nat (by omega) (by rw [Int.toNat_natCast, iD_at, List.getElem?_eq_getElem h]; rfl)
theorem iD_atZ {ns : List Int} {k : Int} (h0 : 0 ≤ k) (h : k.toNat < ns.length) : atI (iD ns) k = some (.int ns[k.toNat]) := atI_nat h0 (by rw [iD_at, List.getElem?_eq_getElem h]; rfl)
/-- a comprehension whose parts change nothing -/
theorem lcL_map {vs : List Nat} {t : Tg} {tt : M Bool} {te : M PD} {ε : En} (f : PD → PD) : ∀ (xs acc : List PD), (∀ x ∈ xs, ∃ ε1 ε2 ε3, t x (wipeE ε vs) = some ε1 ∧ tt ε1 = .ok true ε2 ∧ te ε2 = .ok (f x) ε3 ∧ restE ε ε3 vs = ε) →
    lcL vs t tt te xs acc ε = .ok (.new (.l (acc ++ xs.map f))) ε
  | [], acc, _ => by simp
  | x :: xs, acc, h => by
    obtain ⟨ε1, ε2, ε3, h1, h2, h3, h4⟩ := h x (List.mem_cons_self ..)
    unfold lcL
    simp only [h1, h2, h3, if_pos, h4]
    rw [lcL_map f xs _ fun y hy => h y (List.mem_cons_of_mem _ hy)]
    simp
theorem lcL_pure {vs : List Nat} {t : Tg} {tt : M Bool} {te : M PD} {ε : En} (f : PD → PD) (xs : List PD) (h : ∀ x ∈ xs, ∃ ε1, t x (wipeE ε vs) = some ε1 ∧ tt ε1 = .ok true ε1 ∧ te ε1 = .ok (f x) ε1 ∧ restE ε ε1 vs = ε) : lcL vs t tt te xs [] ε = .ok (.new (.l (xs.map f))) ε :=
  lcL_map f xs [] fun x hx => let ⟨ε1, a, b, c, d⟩ := h x hx; ⟨ε1, ε1, ε1, a, b, c, d⟩
/-- a loop: what stands before each turn -/
theorem forL_inv {t : Tg} {mb : M Fl} (I : List PD → En → Prop) (step : ∀ x xs ε, I (x :: xs) ε → ∃ ε1 ε2, t x ε = some ε1 ∧ mb ε1 = .ok .nx ε2 ∧ I xs ε2) : ∀ (xs : List PD) (ε : En), I xs ε → ∃ ε', forL t mb xs ε = .ok .nx ε' ∧ I [] ε'
  | [], ε, h => ⟨ε, rfl, h⟩
  | x :: xs, ε, h => by
    obtain ⟨ε1, ε2, h1, h2, h3⟩ := step x xs ε h
    obtain ⟨ε', h4, h5⟩ := forL_inv I step xs ε2 h3
    refine ⟨ε', ?_, h5⟩
    unfold forL
    simp only [h1, h2, Out.bind_ok]
    exact h4
/-- a body that returns d -/
def Ret (r : Out Fl) (d : PD) : Prop := ∃ ε, r = .ok (.rt d) ε ∧ 1 ≤ ε.length
theorem Ret.seq {a b : M Fl} {ε ε1 : En} {d : PD} (h : a ε = .ok .nx ε1) (r : Ret (b ε1) d) : Ret (sSeq a b ε) d := by
  rw [sSeq_ap, h]
  exact r
theorem Ret.seqR {a b : M Fl} {ε : En} {d : PD} (r : Ret (a ε) d) : Ret (sSeq a b ε) d := by
  obtain ⟨ε', h, l⟩ := r
  rw [sSeq_ap, h]
  exact ⟨ε', rfl, l⟩
theorem Ret.ret {m : M PD} {ε ε1 : En} {d : PD} (h : m ε = .ok d ε1) (l : 1 ≤ ε1.length) : Ret (sRet m ε) d := ⟨ε1, by rw [sRet_ap, h]; rfl, l⟩
theorem Ret.fin {x d : PD} {n : Nat} {m : M Fl} (r : Ret (m ([.p x] ++ List.replicate (n - 1) .no)) d) : ∃ as, runF 1 n m [.p x] = .ok d as := by
  obtain ⟨ε, h, l⟩ := r
  refine ⟨outs [.p x] ε, ?_⟩
  unfold runF
  rw [h]
  exact if_pos l
/-- a loop until the first place at which the test fails -/
theorem sWh_upto {mt : M Bool} {mb : M Fl} (st : Nat → En) (n : Nat) (h1 : ∀ i, i < n → ∃ ε1, mt (st i) = .ok true ε1 ∧ mb ε1 = .ok .nx (st (i + 1))) (h2 : ∃ ε1, mt (st n) = .ok false ε1 ∧ ε1 = st n) : ∀ (k i fuel : Nat), i + k = n → k < fuel → sWh mt mb fuel (st i) = .ok .nx (st n)
  | 0, i, fuel + 1, e, _ => by
    have : i = n := by omega
    subst this
    obtain ⟨ε1, h3, h4⟩ := h2
    subst h4
    unfold sWh
    rw [h3]
    rfl
  | k + 1, i, fuel + 1, e, hf => by
    obtain ⟨ε1, h3, h4⟩ := h1 i (by omega)
    unfold sWh
    rw [h3]
    simp only [Out.bind_ok, if_pos, h4]
    exact sWh_upto st n h1 h2 k (i + 1) fuel (by omega) (by omega)
  | k, i, 0, _, hf => absurd hf (Nat.not_lt_zero _)
end MM

/-! ML14: tuples without a dict of their own; dicts with numbers as keys. -/
namespace MM
open PySem PySem.Spec PyProof.Rows L2
/-- a tuple of which it is known that it has no dict of its own -/
abbrev ptD (ds : List PD) : PD := .dict [(.none, .tuple ds)]
section
variable {X : Cx} {c : Mc} {pos : Pos}
theorem pe_tupP {es : List Expr} {k : Nat} {t : TA} (h : PA X es t) : PE X (.Tuple es k pos) (fun σ H Q => t σ H fun xs H1 => xs.length ≤ sizeLine ∧ ∀ (p : Addr) (o : Obj), o.dict = none → H1 p = none → Q (.ref p) (upd H1 p (.frz o (.tup xs)))) := by
  refine ⟨fun pins s σ H Q I hq => ?_⟩
  refine wpAny_Tuple_spliced (thn (h.run pos pins s σ H _ I hq) fun us s1 ⟨xs, H1, I1, r, z, q⟩ => ⟨by rw [← r.length]; exact z, ?_⟩)
  have hf : H1 s1.heap.objs.size = none := I1.hok.fresh (Nat.le_refl _)
  refine ⟨.ref s1.heap.objs.size, upd H1 s1.heap.objs.size (.frz { cls := .type "tuple", data := .seq us.toArray } (.tup xs)), I1.laid (t' := s1.toks) (fun b u e => Heap.get?_push_of_some _ e) (Nat.le_refl _) ?_, rfl, q _ _ rfl hf⟩
  exact ⟨Heap.get?_push_size _ rfl, z, us, r, ⟨_, Heap.get?_push_size _ rfl, rfl, _, rfl⟩⟩
def mTupP (m : M (List PD)) : M Opd := fun ε => (m ε).bind fun ds ε1 => if ds.length ≤ 1000 then .ok (.val (ptD ds)) ε1 else .stuck
theorem je_tupP {es : List Expr} {k : Nat} {m : M (List PD)} (h : JA X c es m) : JE X c (.Tuple es k pos) (mTupP m) := pe_imp (pe_tupP h) fun σ H Q ⟨ε, S, h⟩ => by
  unfold mTupP at h
  refine ⟨ε, S, ?_⟩
  cases e1 : m ε with
  | stuck => rw [e1] at h; exact h
  | exc C ε' => rw [e1] at h; exact h
  | ok ds ε1 =>
    rw [e1, Out.bind_ok] at h
    intro vs H1 t1 S1 r1
    by_cases hl : ds.length ≤ 1000
    · rw [if_pos hl] at h
      refine ⟨l1000 (by rw [r1.length]; exact hl), fun p o ho hp => ?_⟩
      have pp := PostP.of S1 noVal (PostE.step t1 h)
      exact pp _ _ (same_upd hp) (.ptu upd_same ho (RpA.im (fun b o e _ => same_upd hp b o e) _ _ r1))
    · rw [if_neg hl] at h; exact h.elim
/-- as any tuple -/
def mUnt (m : M Opd) : M Opd := fun ε => (m ε).bind fun o ε1 => match o with
  | .val (.dict [(.none, .tuple ds)]) => .ok (.val (.tuple ds)) ε1
  | _ => .stuck
theorem Rp.unt {K : PySem.W.Frag} {H : Hp} {v : V} {ds : List PD} (h : Rp K H v (ptD ds)) : ∃ (a : Addr) (o : Obj) (xs : List V), v = .ref a ∧ H a = some (.frz o (.tup xs)) ∧ o.dict = none ∧ RpA K H xs ds := by
  generalize e : ptD ds = d at h
  cases h with
  | scr hs =>
    rename_i ns
    cases ns with
    | nil => cases e
    | cons n ns => cases e
  | ptu h1 h2 h3 => cases e; exact ⟨_, _, _, rfl, h1, h2, h3⟩
  | _ => cases e
theorem je_unt {e : Expr} {m : M Opd} (h : JE X c e m) : JE X c e (mUnt m) := pe_imp h fun σ H Q ⟨ε, S, h⟩ => by
  unfold mUnt at h
  refine ⟨ε, S, ?_⟩
  cases e1 : m ε with
  | stuck => rw [e1] at h; exact h
  | exc C ε' => rw [e1] at h; exact h
  | ok o ε1 =>
    rw [e1, Out.bind_ok] at h
    intro v H1 t1 S1 r1 _
    split at h
    · obtain ⟨a, o, xs, rfl, h1, h2, h3⟩ := Rp.unt r1
      exact h _ H1 t1 S1 (.tup (.inl (.inr ⟨o, h1⟩)) h3) trivial
    · exact h.elim

/-! ### dicts -/
def dkGet (kvs : List (Int × PD)) (k : Int) : Option PD := (kvs.find? fun p => decide (p.1 = k)).map (·.2)
def dkPut (kvs : List (Int × PD)) (k : Int) (d : PD) : List (Int × PD) := if (kvs.any fun p => decide (p.1 = k)) = true then kvs.map (fun p => if p.1 = k then (p.1, d) else p) else kvs ++ [(k, d)]
theorem inl_iff {a b : Int} : (decide ((Sum.inl a : Key) = .inl b)) = decide (a = b) := by
  by_cases h : a = b
  · subst h; simp
  · simp [h]
section
variable {K : PySem.W.Frag} {H : Hp}
theorem dk_get {xs : List (Key × V)} {kvs : List (Int × PD)} (r : DkR K H xs kvs) (k : Int) : (∀ d, dkGet kvs k = some d → ∃ v, valV xs (.inl k) = some v ∧ Rp K H v d) ∧ (valV xs (.inl k)).isSome = (dkGet kvs k).isSome := by
  induction r with
  | nil => exact ⟨fun d e => by simp [dkGet] at e, rfl⟩
  | @cons p q ps qs h t ih =>
    obtain ⟨h1, h2⟩ := h
    obtain ⟨a, b⟩ := p
    simp only at h1 h2
    subst h1
    unfold valV dkGet at ih ⊢
    rw [List.find?_cons, List.find?_cons]
    simp only [inl_iff]
    by_cases e : q.1 = k
    · simp only [e, decide_true, Option.map_some, Option.some.injEq, Option.isSome_some, and_true]
      exact fun d hd => ⟨b, rfl, by rw [← hd]; exact h2⟩
    · simp only [e, decide_false]
      exact ih
theorem dk_any {xs : List (Key × V)} {kvs : List (Int × PD)} (r : DkR K H xs kvs) (k : Int) : (xs.any fun p => decide (p.1 = .inl k)) = kvs.any fun p => decide (p.1 = k) := by
  induction r with
  | nil => rfl
  | @cons p q ps qs h t ih => rw [List.any_cons, List.any_cons, ih, h.1, inl_iff]
theorem dk_map {xs : List (Key × V)} {kvs : List (Int × PD)} (r : DkR K H xs kvs) (k : Int) {v : V} {d : PD} (hd : Rp K H v d) : DkR K H (xs.map fun p => if p.1 = .inl k then (p.1, v) else p) (kvs.map fun p => if p.1 = k then (p.1, d) else p) := by
  induction r with
  | nil => exact .nil
  | @cons p q ps qs h t ih =>
    refine .cons ?_ ih
    obtain ⟨a, b⟩ := p
    obtain ⟨h1, h2⟩ := h
    simp only at h1 h2
    subst h1
    by_cases e : q.1 = k
    · have e' : (Sum.inl q.1 : Key) = .inl k := by rw [e]
      dsimp only
      rw [if_pos e, if_pos e']
      exact ⟨rfl, hd⟩
    · have e' : (Sum.inl q.1 : Key) ≠ .inl k := fun z => e (by injection z)
      dsimp only
      rw [if_neg e, if_neg e']
      exact ⟨rfl, h2⟩
theorem dk_app {xs ys : List (Key × V)} {kvs lvs : List (Int × PD)} (r : DkR K H xs kvs) (r2 : DkR K H ys lvs) : DkR K H (xs ++ ys) (kvs ++ lvs) := by
  induction r with
  | nil => exact r2
  | cons h t ih => exact .cons h ih
theorem dk_put {xs : List (Key × V)} {kvs : List (Int × PD)} (r : DkR K H xs kvs) (k : Int) {v : V} {d : PD} (hd : Rp K H v d) : DkR K H (putK xs (.inl k) v) (dkPut kvs k d) := by
  unfold putK dkPut
  rw [dk_any r k]
  split
  · exact dk_map r k hd
  · exact dk_app r (.cons ⟨rfl, hd⟩ .nil)
def dkMerge (ps : List (Int × PD)) : List (Int × PD) := ps.foldl (fun acc p => dkPut acc p.1 p.2) []
theorem dk_merge {ys : List (Key × V)} {lvs : List (Int × PD)} (r2 : DkR K H ys lvs) : ∀ {xs : List (Key × V)} {kvs : List (Int × PD)}, DkR K H xs kvs → DkR K H (mergeK xs ys) (lvs.foldl (fun acc p => dkPut acc p.1 p.2) kvs) := by
  induction r2 with
  | nil => exact fun r => r
  | @cons p q ps qs h t ih =>
    intro xs kvs r
    obtain ⟨a, b⟩ := p
    obtain ⟨h1, h2⟩ := h
    simp only at h1 h2
    subst h1
    exact ih (dk_put r q.1 h2)
end
section
variable {X : Cx}
theorem pairs2 {pins : List (Addr × Obj)} {σ : L2.St} {H : Hp} {s : Shared} (I : Inv X pins σ H s) : ∀ {ps : List Addr} {kvs : List (Key × V)}, Paired (fun p kv => SqT X.K H p [kV kv.1, kv.2]) ps kvs →
    ∃ (prs : List (Key × Value)) (pv : List (Value × Value)), KV kvs prs ∧ prs.length = ps.length ∧ pv.length = ps.length ∧ ∀ (j : Nat) (u y : Value), pv[j]? = some (u, y) → ∃ (b : Addr) (k : Key), ps[j]? = some b ∧ prs[j]? = some (k, y) ∧ IsTup s.heap b #[u, y] ∧ (mixKind X.prog X.w).is k u = true
  | _, _, .nil => ⟨[], [], .nil, rfl, rfl, fun j q y e => by simp at e⟩
  | _, _, .cons (a := p) (b := kv) h t => by
    obtain ⟨prs, pv, r, hl, hl2, hp⟩ := pairs2 I t
    obtain ⟨its, rv, ht, _⟩ := I.tuple h
    obtain ⟨u, y, ei, ru, ry⟩ := vals2 rv
    subst ei
    refine ⟨(kv.1, y) :: prs, (u, y) :: pv, .cons ⟨rfl, ry⟩ r, by rw [List.length_cons, List.length_cons, hl], by rw [List.length_cons, List.length_cons, hl2], fun j u' y' e => ?_⟩
    cases j with
    | zero =>
      have e' : (u, y) = (u', y') := Option.some.inj e
      cases e'
      exact ⟨p, kv.1, rfl, rfl, ht, kV_is (P := X.prog) (w := X.w) ru⟩
    | succ j =>
      obtain ⟨b, k, e1, e2, e3⟩ := hp j u' y' (by simpa using e)
      exact ⟨b, k, by simpa using e1, by simpa using e2, e3⟩
def rDictT (K : PySem.W.Frag) : List V → Hp → VK → Prop := fun xs H Q => ∃ (a : Addr) (o : Obj) (ps : List Addr) (kvs : List (Key × V)), xs = [.ref a] ∧ H a = some (.frz o (.tup (ps.map V.ref))) ∧ o.dict = none ∧ Paired (fun p kv => SqT K H p [kV kv.1, kv.2]) ps kvs ∧
    ∀ p, H p = none → Q (.ref p) (upd H p (.dK (mergeK [] kvs)))
theorem call_dictT (hcalm : X.calm = true) : CallR X (.type "dict") (rDictT X.K) := by
  intro pins s σ H xs us Q I r q
  obtain ⟨a, o, ps, kvs, ex, hq, hd, hp, q⟩ := q
  subst ex
  obtain ⟨u, eu, rx⟩ := vals1 r
  subst eu
  cases rx
  obtain ⟨ho, hz, its, rv, o', ho', hc, n, hdat⟩ := I.hok a _ hq
  rw [ho] at ho'
  cases ho'
  have ei := refs_at rv
  subst ei
  rw [List.length_map] at hz
  obtain ⟨prs, pv, rel, hl, hl2, hpr⟩ := pairs2 I hp
  have P := PySem.PairArg.tuple (prog := X.prog) (w := X.w) a (ps.map Value.ref).toArray (fun j => ps.getD j 0) pv
  refine PySem.call_dict_pairs (knd := mixKind X.prog X.w) (kvs := prs) P (I.ok.hd hcalm) ⟨⟨o, n, ho, hc, hd, hdat⟩, by simp [hl2], fun j k v hj => ?_⟩ ⟨by rw [hl, hl2], fun i key v hi => ?_⟩ (by rw [hl2]; exact hz) fun h' tk hd' k => ?_
  · obtain ⟨b, k', e1, e2, e3, e4⟩ := hpr j k v hj
    have eb : ps.getD j 0 = b := by rw [List.getD_eq_getElem?_getD, e1]; rfl
    exact ⟨by simp [e1], .inl (by dsimp only; rw [eb]; exact e3)⟩
  · obtain ⟨b, k', e1, e2, e3, e4⟩ := hpr i key v hi
    exact ⟨k', e2, e4⟩
  · have hm : (s.heap.objs.size == sysModules) = false := beq_eq_false_iff_ne.mpr (Nat.ne_of_gt I.big)
    have hlen : (mergeK [] kvs).length ≤ sizeLine := by
      refine Nat.le_trans (length_mergeK kvs []) ?_
      rw [List.length_nil, Nat.zero_add, rel.length, hl]
      exact hz
    exact ⟨.ref s.heap.objs.size, upd H s.heap.objs.size (.dK (mergeK [] kvs)), I.laid (t' := tk) (fun b o e => k b o (fun z => nomatch z) e) (Nat.le_refl _) (show ObjOk X.prog X.w _ _ _ (.dK (mergeK [] kvs)) from ⟨hlen, hm, merged [] prs, KV.merge rel .nil, hd'⟩), rfl, q _ (I.hok.fresh (Nat.le_refl _))⟩
end
def prOf : PD → Option (Int × PD)
  | .tuple [.int k, d] => some (k, d)
  | _ => none
def prsOf : List PD → Option (List (Int × PD))
  | [] => some []
  | d :: r => (prOf d).bind fun p => (prsOf r).map (p :: ·)
def fDictT : List PD → Option Opd
  | [.dict [(.none, .tuple ds)]] => (prsOf ds).map fun ps => .new (.dk (dkMerge ps))
  | _ => none
theorem prs_ok {K : PySem.W.Frag} {H : Hp} : ∀ {ds : List PD} {ps : List (Int × PD)} {xs : List V}, prsOf ds = some ps → RpA K H xs ds → ∃ (as : List Addr) (kvs : List (Key × V)), xs = as.map V.ref ∧ Paired (fun p kv => SqT K H p [kV kv.1, kv.2]) as kvs ∧ DkR K H kvs ps
  | [], ps, xs, e, r => by cases e; cases r; exact ⟨[], [], rfl, .nil, .nil⟩
  | d :: ds, ps, xs, e, r => by
    cases r with
    | cons r1 r2 =>
      unfold prsOf at e
      cases e1 : prOf d with
      | none => rw [e1] at e; cases e
      | some p =>
        rw [e1, Option.bind_some] at e
        cases e2 : prsOf ds with
        | none => rw [e2] at e; cases e
        | some ps' =>
          rw [e2] at e; cases e
          obtain ⟨as, kvs, e3, e4, e5⟩ := prs_ok e2 r2
          subst e3
          unfold prOf at e1
          split at e1
          · cases e1
            cases r1 with
            | tup hs ha =>
              cases ha with
              | cons h1 ht =>
                cases ht with
                | cons h2 ht =>
                  cases ht
                  cases h1
                  exact ⟨_ :: as, (.inl _, _) :: kvs, rfl, .cons hs e4, .cons ⟨rfl, h2⟩ e5⟩
          · cases e1
theorem DkR.new {K : PySem.W.Frag} {H : Hp} {xs : List (Key × V)} {kvs : List (Int × PD)} {Q : VK} (p : PostP K H (.new (.dk kvs)) Q) (r : DkR K H xs kvs) {a : Addr} (h : H a = none) : Q (.ref a) (upd H a (.dK xs)) :=
  p _ _ (same_upd h) ⟨a, xs, rfl, upd_same, r.im fun b o e _ => same_upd h b o e⟩ fun b q => by cases q; exact h
theorem c_dictT (hcalm : X.calm = true) : CallR X (.type "dict") (cM X.K c (liftN fDictT)) := by
  refine liftN_call (call_dictT hcalm) fun xs ds o H Q L r e => ?_
  unfold fDictT at e
  split at e
  · rename_i ds
    cases e1 : prsOf ds with
    | none => rw [e1] at e; cases e
    | some ps =>
      rw [e1] at e; cases e
      obtain ⟨x, rfl, q1⟩ := r.one
      cases q1 with
      | rp h =>
        obtain ⟨a, o, xs, rfl, h1, h2, h3⟩ := Rp.unt h
        obtain ⟨as, kvs, e3, e4, e5⟩ := prs_ok e1 h3
        subst e3
        exact ⟨noNew, fun p => ⟨a, o, as, kvs, rfl, h1, h2, e4, fun q hq => DkR.new p (dk_merge e5 .nil) hq⟩⟩
  · cases e
/-- the dict in a slot -/
def dkAt (ε : En) (i : Nat) : Option (List (Int × PD)) := match ε[i]? with
  | some (.ow (.dk kvs)) => some kvs
  | some (.io (.dk kvs)) => some kvs
  | _ => none
theorem dkAt_at {ε : En} {i : Nat} {kvs : List (Int × PD)} (e : dkAt ε i = some kvs) : ε[i]? = some (.ow (.dk kvs)) ∨ ε[i]? = some (.io (.dk kvs)) := by
  unfold dkAt at e
  split at e
  · rename_i h; cases e; exact .inl h
  · rename_i h; cases e; exact .inr h
  · cases e
theorem SR.dk {K : PySem.W.Frag} {ε : En} {σ : L2.St} {H : Hp} {i : Nat} {kvs : List (Int × PD)} (S : SR K c ε σ H) (e : dkAt ε i = some kvs) : ∃ a xs, σ[i]? = some (some (.ref a)) ∧ H a = some (.dK xs) ∧ DkR K H xs kvs := by
  obtain ⟨v, h1, ⟨a, xs, rfl, h2, h3⟩, _⟩ := S.atO (dkAt_at e)
  exact ⟨a, xs, h1, h2, h3⟩
/-- own[k] -/
def mDGet (i : Nat) (m : M Opd) : M Opd := fun ε => match dkAt ε i with
  | none => .stuck
  | some _ => (m ε).bind fun o ε1 => match o with
    | .val (.int k) => match (dkAt ε1 i).bind fun kvs => dkGet kvs k with
      | some d => .ok (.val d) ε1
      | none => .stuck
    | _ => .stuck
theorem je_dget {e ei : Expr} {i : Nat} {m : M Opd} (hu : X.A.units + 64 < cLine) (he : PE X e (tVar i)) (hi : JE X c ei m) (hs : NoSl ei) : JE X c (.Subscript e ei pos) (mDGet i m) :=
  pe_imp (pe_dget (by omega) he hi hs) fun σ H Q ⟨ε, S, h⟩ => by
    unfold mDGet at h
    cases e0 : dkAt ε i with
    | none => rw [e0] at h; exact h.elim
    | some kvs0 =>
      rw [e0] at h
      simp only at h
      obtain ⟨a, xs0, h1, _, _⟩ := S.dk e0
      refine ⟨_, h1, ε, S, ?_⟩
      cases e1 : m ε with
      | stuck => simp only [e1, Out.bind_stuck] at h; exact h.elim
      | exc C ε' => simp only [e1, Out.bind_exc] at h; exact h
      | ok o ε1 =>
        simp only [e1, Out.bind_ok] at h
        intro y H1 t1 S1 r1 nn
        split at h
        · rename_i k
          cases r1
          split at h
          · rename_i d hd
            cases e2 : dkAt ε1 i with
            | none => rw [e2] at hd; cases hd
            | some kvs =>
              rw [e2] at hd
              obtain ⟨a', xs, h2, h3, h4⟩ := S1.dk e2
              rw [h1] at h2; cases h2
              obtain ⟨v, h5, h6⟩ := (dk_get h4 k).1 d hd
              refine ⟨a, v, rfl, ?_, h v H1 t1 S1 h6 trivial⟩
              rw [← h5]
              exact DGet.k (k := .inl k) h3
          · exact h.elim
        · exact h.elim
/-- k in own -/
def mDIn (m : M Opd) (i : Nat) : M Opd := fun ε => (m ε).bind fun o ε1 => match o with
  | .val (.int k) => match dkAt ε1 i with
    | some kvs => .ok (.val (.bool (dkGet kvs k).isSome)) ε1
    | none => .stuck
  | _ => .stuck
theorem din_read {K : PySem.W.Frag} {i : Nat} {m : M Opd} (σ : L2.St) (H : Hp) (Q : VK) (h : tM K c (mDIn m i) σ H Q) : tDIn (tM K c m) (tVar i) σ H Q := by
  obtain ⟨ε, S, h⟩ := h
  unfold mDIn at h
  refine ⟨ε, S, ?_⟩
  cases e1 : m ε with
  | stuck => rw [e1] at h; exact h
  | exc C ε' => rw [e1] at h; exact h
  | ok o ε1 =>
    rw [e1, Out.bind_ok] at h
    intro y H1 t1 S1 r1 nn
    split at h
    · rename_i k
      cases r1
      cases e2 : dkAt ε1 i with
      | none => rw [e2] at h; exact h.elim
      | some kvs =>
        rw [e2] at h
        obtain ⟨a, xs, h2, h3, h4⟩ := S1.dk e2
        refine ⟨_, h2, a, valV xs (.inl k), rfl, DGet.k (k := .inl k) h3, ?_⟩
        have e3 := (dk_get h4 k).2
        rw [e3]
        exact h _ H1 t1 S1 (.bl _) trivial
    · exact h.elim
theorem je_din {e ei : Expr} {i : Nat} {m : M Opd} (hu : X.A.units + 64 < cLine) (hi : JE X c ei m) (he : PE X e (tVar i)) (hm : behindInMarks .In e = false := by first | exact nobehind _ (by decide) (by decide) | rfl) : JE X c (.Compare ei [.In] [e] pos) (mDIn m i) :=
  pe_imp (pe_cmp (pc_din (by omega) hi he) hm) din_read
theorem jt_din {e ei : Expr} {i : Nat} {m : M Opd} (hu : X.A.units + 64 < cLine) (hi : JE X c ei m) (he : PE X e (tVar i)) (hm : behindInMarks .In e = false := by first | exact nobehind _ (by decide) (by decide) | rfl) : JT X c (.Compare ei [.In] [e] pos) (mTru (mDIn m i)) :=
  pt_imp (pt_cmp (pc_din (by omega) hi he) hm) fun σ H Q h => din_read _ _ _ (tru_read σ H Q h)

/-! ### sum of a tuple; tuple(list), known to have no dict of its own -/
def rSumT (K : PySem.W.Frag) : List V → Hp → VK → Prop := fun vs H Q => ∃ (a : Addr) (ns : List Int), vs = [V.ref a] ∧ SqT K H a (ns.map V.int) ∧ Q (.int ns.sum) H
theorem cr_sumT (hc : X.calm = true) : CallR X (.builtin "sum") (rSumT X.K) := by
  intro pins s σ H vs us Q I r h
  obtain ⟨a, ns, rfl, hs, q⟩ := h
  obtain ⟨its, rv, hl, _⟩ := I.tuple hs
  rw [Vals.ref1 r]
  have hi : IntsAre its ns := rv.ints
  obtain ⟨xs, e⟩ := hi.allInts.items
  have hn : numsOf (intItems xs).toList = ns := by rw [← e]; exact hi.numsOf
  rw [nums_intItems] at hn
  rw [e] at hl
  refine PySem.W.ktm_sumG (I.ok.hd hc) hl fun h' tk t' hk => ?_
  rw [preSum_eq, List.take_of_length_le (by simp), hn]
  exact ⟨.int _, H, I.kept hk, ⟨_, rfl⟩, q⟩
def fSumT : List PD → Option Opd
  | [.tuple ds] => (intsOf ds).map fun bs => .val (.int bs.sum)
  | _ => none
theorem c_sumT (hc : X.calm = true) : CallR X (.builtin "sum") (cM X.K c (liftN fSumT)) := by
  refine liftN_call (cr_sumT hc) fun xs ds o H Q L r e => ?_
  unfold fSumT at e
  split at e
  · rename_i ds
    cases e1 : intsOf ds with
    | none => rw [e1] at e; cases e
    | some bs =>
      rw [e1] at e; cases e
      obtain ⟨x, rfl, q1⟩ := r.one
      obtain ⟨a, xs, rfl, ha, ra⟩ := q1.tup
      exact ⟨noVal, fun p => ⟨a, bs, rfl, by rw [← ints_ok e1 ra]; exact ha, p.scal (.int _)⟩⟩
  · cases e
theorem call_tupleP : CallR X (.type "tuple") (fun xs H Q => ∃ p ys, xs = [.ref p] ∧ SqL X.K H p ys ∧ ∀ (l : Addr) (o : Obj), o.dict = none → H l = none → Q (.ref l) (upd H l (.frz o (.tup ys)))) := by
  intro pins s σ H xs us Q I r h
  obtain ⟨p, ys, rfl, hq, q⟩ := h
  obtain ⟨u, rfl, rx⟩ := vals1 r
  cases rx
  obtain ⟨its, r', pl, hz⟩ := I.list hq
  have hlen := r'.length
  refine call_tuple_list pl.isList (fun h' kp => ?_) (by simp only [List.size_toArray] <;> omega)
  have I1 : Inv X pins σ H { s with heap := h' } := I.kept (t' := s.toks) kp
  have I2 : Inv X pins σ (upd H h'.objs.size (.frz { cls := .type "tuple", data := .seq its.toArray } (.tup ys))) { s with heap := h'.push { cls := .type "tuple", data := .seq its.toArray } } :=
    I1.laid (t' := s.toks) (fun b o e => Heap.get?_push_of_some _ e) (Nat.le_refl _) (show ObjOk X.prog X.w _ _ _ (.frz _ (.tup ys)) from ⟨Heap.get?_push_size _ rfl, hz, its, r', IsTup.new _ _⟩)
  exact ⟨.ref h'.objs.size, _, I2, rfl, q _ _ rfl (I1.hok.fresh (Nat.le_refl _))⟩
def fTupleP : List PD → Option Opd
  | [.list ds] => some (.val (ptD ds))
  | _ => none
theorem c_tupleP : CallR X (.type "tuple") (cM X.K c (liftN fTupleP)) := by
  refine liftN_call call_tupleP fun xs ds o H Q L r e => ?_
  unfold fTupleP at e
  split at e <;> cases e
  obtain ⟨x, rfl, q1⟩ := r.one
  obtain ⟨a, xs, rfl, ha, ra⟩ := q1.lst
  exact ⟨noVal, fun p => ⟨a, xs, rfl, rd_sqL ha, fun q o ho hq => p _ _ (same_upd hq) (.ptu upd_same ho (RpA.im (fun b o e _ => same_upd hq b o e) _ _ ra))⟩⟩
end
end MM

/-! ML15: sorted. -/
namespace MM
open PySem PySem.Spec PyProof.Rows L2
def leD (a b : PD) : Bool := !PySem.W.dataLt b a
def insD (x : PD) : List PD → List PD
  | [] => [x]
  | y :: l => if leD x y = true then x :: y :: l else y :: insD x l
def sortD : List PD → List PD
  | [] => []
  | x :: l => insD x (sortD l)
abbrev leP : PD → PD → Bool := PySem.W.dataLe false (fun d : PD => d)
theorem leP_eq (a b : PD) : leP a b = leD a b := rfl
theorem leP_total : PySem.W.TotalLe leP := PySem.W.sortLe_total _ false _
theorem insD_mem {x z : PD} : ∀ {l : List PD}, z ∈ insD x l → z = x ∨ z ∈ l
  | [], h => .inl (List.mem_singleton.mp h)
  | y :: l, h => by
    unfold insD at h
    split at h
    · exact (List.mem_cons.mp h)
    · rcases List.mem_cons.mp h with h | h
      · exact .inr (by rw [h]; exact List.mem_cons_self ..)
      · exact (insD_mem h).imp id fun z => List.mem_cons_of_mem _ z
theorem insD_pair {x : PD} : ∀ {l : List PD}, l.Pairwise (fun a b => leP a b = true) → (insD x l).Pairwise (fun a b => leP a b = true)
  | [], _ => List.pairwise_singleton _ _
  | y :: l, h => by
    obtain ⟨h1, h2⟩ := List.pairwise_cons.mp h
    unfold insD
    split
    · rename_i hx
      refine List.pairwise_cons.mpr ⟨fun z hz => ?_, h⟩
      rcases List.mem_cons.mp hz with e | hz
      · rw [e]; exact hx
      · exact leP_total.trans _ _ _ hx (h1 z hz)
    · rename_i hx
      refine List.pairwise_cons.mpr ⟨fun z hz => ?_, insD_pair h2⟩
      rcases insD_mem hz with e | hz
      · rw [e]; exact (leP_total.total y x).resolve_right hx
      · exact h1 z hz
theorem insD_filter (c x : PD) : ∀ l : List PD, (insD x l).filter (PySem.W.sameRank leP c) = (x :: l).filter (PySem.W.sameRank leP c)
  | [] => rfl
  | y :: l => by
    unfold insD
    split
    · rfl
    · rename_i hx
      rw [List.filter_cons, insD_filter c x l, List.filter_cons, List.filter_cons, List.filter_cons]
      by_cases h1 : PySem.W.sameRank leP c x = true
      · by_cases h2 : PySem.W.sameRank leP c y = true
        · unfold PySem.W.sameRank at h1 h2
          rw [Bool.and_eq_true] at h1 h2
          exact absurd (leP_total.trans _ _ _ h1.2 h2.1) hx
        · simp only [h1, h2, if_true, if_false]
          rfl
      · simp only [h1, if_false]
        rfl
theorem sortD_eq (l : List PD) : sortD l = l.mergeSort leP := by
  refine PySem.W.sort_unique leP_total ?_ ?_
  · induction l with
    | nil => exact .nil
    | cons x l ih => exact insD_pair ih
  · intro c
    induction l with
    | nil => rfl
    | cons x l ih =>
      show (insD x (sortD l)).filter _ = _
      rw [insD_filter, List.filter_cons, List.filter_cons, ih]
def neTup : PD → Bool
  | .tuple (_ :: _) => true
  | _ => false
def noTup : PD → Bool
  | .tuple _ => false
  | .none => false
  | _ => true
def srtOk (ds : List PD) : Bool := (ds.all fun d => ds.all fun e => PySem.W.alike d e) && (ds.all neTup || ds.all noTup) && (ds.all fun d => SeqAt.shaped d) && decide (ds.length ≤ big)
def fSorted : List PD → Option Opd
  | [.list ds] => if srtOk ds = true then some (.new (.l (sortD ds))) else none
  | _ => none
section
variable {X : Cx} {c : Mc}
def rSrt (K : PySem.W.Frag) : List V → Hp → VK → Prop := fun vs H Q => ∃ (a : Addr) (xs : List V) (ds : List PD), vs = [V.ref a] ∧ SqL K H a xs ∧ RpA K H xs ds ∧ srtOk ds = true ∧
  ∀ (ys : List V) (p : Addr), RpA K H ys (sortD ds) → H p = none → Q (.ref p) (upd H p (.lst ys))
theorem rpa_zip {K : PySem.W.Frag} {H : Hp} : ∀ {xs : List V} {ds : List PD}, RpA K H xs ds → ∀ b ∈ xs.zip ds, Rp K H b.1 b.2
  | _, _, .nil, b, h => by simp at h
  | _, _, .cons r t, b, h => by
    rw [List.zip_cons_cons] at h
    rcases List.mem_cons.mp h with e | h
    · rw [e]; exact r
    · exact rpa_zip t b h
theorem rpa_of {K : PySem.W.Frag} {H : Hp} : ∀ {bs : List (V × PD)}, (∀ b ∈ bs, Rp K H b.1 b.2) → RpA K H (bs.map (·.1)) (bs.map (·.2))
  | [], _ => .nil
  | b :: bs, h => .cons (h b (List.mem_cons_self ..)) (rpa_of fun b hb => h b (List.mem_cons_of_mem _ hb))
theorem vals_each : ∀ {out : List Value} {bs : List (V × PD)}, PySem.W.EachIs (fun (v : Value) (b : V × PD) => RelV b.1 v) out bs → Vals (bs.map (·.1)) out
  | _, _, .nil => .nil
  | _, _, .cons r t => .cons r (vals_each t)
theorem each_vals : ∀ {xs : List V} {its : List Value} {ds : List PD}, Vals xs its → xs.length = ds.length → PySem.W.EachIs (fun (v : Value) (b : V × PD) => RelV b.1 v) its (xs.zip ds)
  | _, _, [], .nil, _ => .nil
  | _, _, _ :: _, .nil, h => by cases h
  | _, _, [], .cons _ _, h => by cases h
  | _, _, d :: ds, .cons r t, h => .cons r (each_vals t (by simpa using h))
theorem cr_srt (hu : X.A.units + 160 < cLine) : CallR X (.builtin "sorted") (rSrt X.K) := by
  intro pins s σ H vs us Q I r h
  obtain ⟨a, xs, ds, rfl, hs, rp, hok, q⟩ := h
  obtain ⟨its, rv, hl, hz⟩ := I.list hs
  rw [Vals.ref1 r]
  unfold srtOk at hok
  simp only [Bool.and_eq_true, Bool.or_eq_true, List.all_eq_true, decide_eq_true_eq] at hok
  obtain ⟨⟨⟨hal, hk⟩, hsh⟩, hlen⟩ := hok
  have el := rp.length
  have em : (xs.zip ds).map (fun b : V × PD => b.2) = ds := List.map_snd_zip (by omega)
  have em1 : (xs.zip ds).map (fun b : V × PD => b.1) = xs := List.map_fst_zip (by omega)
  have hrp := rpa_zip rp
  have e := each_vals rv el
  have er : PySem.W.EachIs (fun (v : Value) (b : V × PD) => ∃ as, Reads s.heap v b.2 as) its (xs.zip ds) := by
    have key : ∀ {its : List Value} {bs : List (V × PD)}, PySem.W.EachIs (fun (v : Value) (b : V × PD) => RelV b.1 v) its bs → (∀ b ∈ bs, Rp X.K H b.1 b.2 ∧ SeqAt.shaped b.2 = true) → PySem.W.EachIs (fun (v : Value) (b : V × PD) => ∃ as, Reads s.heap v b.2 as) its bs := by
      intro its bs h
      induction h with
      | nil => exact fun _ => .nil
      | cons r t ih =>
        intro hb
        obtain ⟨h1, h2⟩ := hb _ (List.mem_cons_self ..)
        exact .cons (Dp.reads I _ _ _ (Rp.dp _ _ (SeqAt.canLay_of_shaped h2) h1) r) (ih fun b hb' => hb b (List.mem_cons_of_mem _ hb'))
    exact key e fun b hb => ⟨hrp b hb, hsh _ (List.of_mem_zip hb).2⟩
  refine PySem.W.sorted_data (enc := fun b : V × PD => b.2) hl.isList e er ?_ ?_ (by rw [List.length_zip]; exact Nat.le_trans (Nat.min_le_right _ _) (big_line hlen)) (fun b hb => ?_) fun out ho hout => ?_
  · rw [em]
    exact hal
  · rw [em]
    rcases hk with hk | hk
    · refine .inl fun d hd => ?_
      have := hk d hd
      unfold neTup at this
      split at this
      · exact ⟨_, _, rfl⟩
      · cases this
    · refine .inr fun d hd => ?_
      have := hk d hd
      unfold noTup at this
      split at this
      · cases this
      · cases this
      · rename_i h1 h2
        exact ⟨h2, fun xs z => h1 xs z⟩
  · have h1 := hsh _ (List.of_mem_zip hb).2
    have : b.2.depth ≤ 64 := by
      unfold SeqAt.shaped at h1
      rw [Bool.and_eq_true, decide_eq_true_eq] at h1
      exact h1.2
    omega
  · have hm : ((xs.zip ds).mergeSort (PySem.W.dataLe false fun b : V × PD => b.2)).map (·.2) = sortD ds := by
      rw [sortD_eq, PySem.W.sort_maps (r := PySem.W.dataLe false fun b : V × PD => b.2) (s := leP) (fun b : V × PD => b.2) (fun _ _ _ _ => rfl), em]
    have hr : RpA X.K H (((xs.zip ds).mergeSort (PySem.W.dataLe false fun b : V × PD => b.2)).map (·.1)) (sortD ds) := by
      rw [← hm]
      exact rpa_of fun b hb => hrp b (List.mem_mergeSort.mp hb)
    obtain ⟨ep, he'⟩ := PyProof.Rows.sortedAll_at s.heap its (List.toArray out)
    refine ⟨.ref _, upd H (s.heap.objs.size + 1) (.lst (((xs.zip ds).mergeSort (PySem.W.dataLe false fun b : V × PD => b.2)).map (·.1))), I.laid (t' := s.toks) (fun _ _ => PyProof.Rows.sortedAll_old) (Nat.le_succ _) ⟨?_, out, ep, vals_each hout, he'⟩, rfl, q _ _ hr (I.hok.fresh (Nat.le_succ _))⟩
    rw [List.length_map, List.length_mergeSort, List.length_zip]
    exact Nat.le_trans (Nat.min_le_left _ _) hz
theorem c_sorted {k : Nat} (hr : Room k X.A) : CallR X (.builtin "sorted") (cM X.K c (liftN fSorted)) := by
  refine liftN_call (cr_srt (by have := hr.un; omega)) fun xs ds o H Q L r e => ?_
  unfold fSorted at e
  split at e
  · split at e <;> cases e
    rename_i ds hok
    obtain ⟨x, rfl, q1⟩ := r.one
    obtain ⟨a, xs, rfl, ha, ra⟩ := q1.lst
    exact ⟨noNew, fun p => ⟨a, xs, ds, rfl, rd_sqL ha, ra, hok, fun ys q r hq => p.nlst r hq⟩⟩
  · cases e
end
end MM

/-! ML16: defs that call themselves. -/
namespace MM
open PySem PySem.Spec PyProof.Rows L2
theorem fn_no {P : Program} {w : World} {K : PySem.W.Frag} {mg : Str → Option Value} {base : Heap} {CX : CXT} {k np : Nat} {f : Addr} {fd : FuncData} {ps : List Str} : FnOk P w K mg base CX k f fd ps (spF K mg np (fun _ => .stuck)) :=
  ⟨fun vs H Q E ⟨_, _, _, h⟩ => h.elim, fun A outer s H args us vs Q E _ _ _ _ ⟨_, _, _, h⟩ => h.elim⟩
end MM

/-! ML17: dicts with tuples as keys. -/
namespace MM
open PySem PySem.Spec PyProof.Rows L2
mutual
theorem khash_ok (w : World) : ∀ (d : PD) (k : NestedKey), kyD d = some k → k.hash w = khash k
  | .int i, k, h => by cases h; rfl
  | .tuple ds, k, h => by
    simp only [kyD] at h
    obtain ⟨ks, h1, rfl⟩ := Option.map_eq_some_iff.mp h
    simp only [NestedKey.hash, khash]
    rw [khashes_ok w ds ks h1]
  | .none, k, h => by cases h
  | .bool _, k, h => by cases h
  | .str _, k, h => by cases h
  | .list _, k, h => by cases h
  | .dict _, k, h => by cases h
theorem khashes_ok (w : World) : ∀ (ds : List PD) (ks : List NestedKey), kysD ds = some ks → NestedKey.hashes w ks = khashes ks
  | [], ks, h => by cases h; rfl
  | d :: ds, ks, h => by
    simp only [kysD] at h
    obtain ⟨k, h1, h2⟩ := Option.bind_eq_some_iff.mp h
    obtain ⟨ks', h3, rfl⟩ := Option.map_eq_some_iff.mp h2
    simp only [NestedKey.hashes, khashes]
    rw [khash_ok w d k h1, khashes_ok w ds ks' h3]
end
theorem keyD_of {d : PD} {k : NestedKey} (h : keyD d = some k) : kyD d = some k ∧ k.depth ≤ 8 ∧ ∃ ds, d = .tuple ds := by
  unfold keyD at h
  split at h
  · rename_i ds
    obtain ⟨ks, h1, h2⟩ := Option.bind_eq_some_iff.mp h
    split at h2
    · rename_i hd
      cases h2
      exact ⟨by simp only [kyD, h1, Option.map_some], hd, ds, rfl⟩
    · cases h2
  · cases h
mutual
theorem kyD_data : ∀ (d : PD) (k : NestedKey), kyD d = some k → k.data = d
  | .int i, k, h => by cases h; rfl
  | .tuple ds, k, h => by
    simp only [kyD] at h
    obtain ⟨ks, h1, rfl⟩ := Option.map_eq_some_iff.mp h
    simp only [NestedKey.data]
    rw [kysD_data ds ks h1]
  | .none, k, h => by cases h
  | .bool _, k, h => by cases h
  | .str _, k, h => by cases h
  | .list _, k, h => by cases h
  | .dict _, k, h => by cases h
theorem kysD_data : ∀ (ds : List PD) (ks : List NestedKey), kysD ds = some ks → NestedKey.datas ks = ds
  | [], ks, h => by cases h; rfl
  | d :: ds, ks, h => by
    simp only [kysD] at h
    obtain ⟨k, h1, h2⟩ := Option.bind_eq_some_iff.mp h
    obtain ⟨ks', h3, rfl⟩ := Option.map_eq_some_iff.mp h2
    simp only [NestedKey.datas]
    rw [kyD_data d k h1, kysD_data ds ks' h3]
end
theorem keyD_inj {d e : PD} {k : NestedKey} (h : keyD d = some k) (h' : keyD e = some k) : d = e := by
  rw [← kyD_data d k (keyD_of h).1, ← kyD_data e k (keyD_of h').1]
section
variable {X : Cx} {pins : List (Addr × Obj)} {σ : L2.St} {H : Hp} {s : Shared}
mutual
theorem key_is (I : Inv X pins σ H s) : ∀ (d : PD) (k : NestedKey) (v : V) (u : Value), kyD d = some k → Rp X.K H v d → RelV v u → NestedIs s.heap k u
  | .int i, k, v, u, e, r, q => by
    cases e
    cases r
    obtain ⟨t, rfl⟩ := q
    exact .int _ _
  | .tuple ds, k, v, u, e, r, q => by
    simp only [kyD] at e
    obtain ⟨ks, e1, rfl⟩ := Option.map_eq_some_iff.mp e
    cases r with
    | tup hs ha =>
      cases q
      obtain ⟨its, rv, ⟨o, ho, hc, n, hd⟩, _⟩ := I.tuple hs
      exact .tup ho hc hd (by simpa using keys_is I ds ks _ _ e1 ha rv)
  | .none, k, _, _, h, _, _ => by cases h
  | .bool _, k, _, _, h, _, _ => by cases h
  | .str _, k, _, _, h, _, _ => by cases h
  | .list _, k, _, _, h, _, _ => by cases h
  | .dict _, k, _, _, h, _, _ => by cases h
theorem keys_is (I : Inv X pins σ H s) : ∀ (ds : List PD) (ks : List NestedKey) (vs : List V) (us : List Value), kysD ds = some ks → RpA X.K H vs ds → Vals vs us → NestedAll s.heap ks us
  | [], ks, _, _, h, r, q => by
    cases h
    cases r
    cases q
    exact .nil
  | d :: ds, ks, _, _, h, r, q => by
    simp only [kysD] at h
    obtain ⟨k, h1, h2⟩ := Option.bind_eq_some_iff.mp h
    obtain ⟨ks', h3, rfl⟩ := Option.map_eq_some_iff.mp h2
    cases r with
    | cons r1 r2 =>
      cases q with
      | cons q1 q2 => exact .cons (key_is I d k _ _ h1 r1 q1) (keys_is I ds ks' _ _ h3 r2 q2)
end
theorem dkey_is (I : Inv X pins σ H s) {d : PD} {k : NestedKey} {v : V} {u : Value} (e : keyD d = some k) (r : Rp X.K H v d) (q : RelV v u) : ∃ b, v = .ref b ∧ u = .ref b ∧ (nestedKind X.prog X.w).is s.heap k b := by
  obtain ⟨h1, h2, ds, rfl⟩ := keyD_of e
  have h := key_is I _ _ _ _ h1 r q
  cases r with
  | tup hs ha =>
    cases q
    exact ⟨_, rfl, rfl, h, h2⟩
theorem rpn_is (I : Inv X pins σ H s) : ∀ {xs : List NE} {kvs : List (PD × PD)}, RpN X.K H xs kvs → (∀ x ∈ xs, (nestedKind X.prog X.w).is s.heap x.1 x.2.1) ∧ xs.map entN = xs.map (entryOfKey (nestedKind X.prog X.w))
  | _, _, .nil => ⟨fun x h => absurd h (List.not_mem_nil), rfl⟩
  | _, _, .cons h1 h2 h3 h4 h5 => by
    obtain ⟨i1, i2⟩ := rpn_is I h5
    obtain ⟨b, e1, e2, e3⟩ := dkey_is I h1 h2 rfl
    cases e1
    refine ⟨fun x hx => ?_, ?_⟩
    · rcases List.mem_cons.mp hx with e | hx
      · subst e; exact e3
      · exact i1 x hx
    · rw [List.map_cons, List.map_cons, i2]
      congr 1
      show (⟨khash _, _, _⟩ : DictEntry) = ⟨NestedKey.hash X.w _, _, _⟩
      rw [khash_ok X.w _ _ (keyD_of h1).1]
theorem dn_of (I : Inv X pins σ H s) {a : Addr} {xs : List NE} {kvs : List (PD × PD)} (h : Rd H a (dnO a xs)) (r : RpN X.K H xs kvs) : (a == sysModules) = false ∧ xs.length ≤ sizeLine ∧ s.heap.DictOfH (nestedKind X.prog X.w) a xs := by
  obtain ⟨⟨h1, h2, o, es, ep, h3, h4, h5, h6, h7⟩, _, _⟩ := (show ObjOk X.prog X.w H s.heap a (dnO a xs) from h.ok I.hok)
  obtain ⟨i1, i2⟩ := rpn_is I r
  exact ⟨h1, h2, o, es, ep, h3, h4, h5, by rw [h6, i2], i1, h7⟩
theorem dn_ok {xs : List NE} {a : Addr} {h' : Heap} {H' : Hp} (hs : (a == sysModules) = false) (hz : xs.length ≤ sizeLine) (hd : h'.DictOfH (nestedKind X.prog X.w) a xs) (he : xs.map entN = xs.map (entryOfKey (nestedKind X.prog X.w))) : ObjOk X.prog X.w H' h' a (dnO a xs) := by
  obtain ⟨o, es, ep, h3, h4, h5, h6, h7, h8⟩ := hd
  refine ⟨⟨hs, hz, o, es, ep, h3, h4, h5, by rw [h6, he], h8⟩, ⟨o, h3⟩, ?_⟩
  rintro h1 h2 ⟨p1, p2, o', es', ep', q1, q2⟩ hk
  exact ⟨p1, p2, o', es', ep', hk _ q1, q2⟩
end
/-! ### what stands in one -/
def dnGet (kvs : List (PD × PD)) (d : PD) : Option PD := (kvs.find? fun p => decide (keyD p.1 = keyD d)).map (·.2)
def dnPut (kvs : List (PD × PD)) (d e : PD) : List (PD × PD) := if (dnGet kvs d).isSome = true then kvs.map (fun p => if keyD p.1 = keyD d then (p.1, e) else p) else kvs ++ [(d, e)]
section
variable {K : PySem.W.Frag} {H : Hp}
theorem RpN.length : ∀ {xs : List NE} {kvs : List (PD × PD)}, RpN K H xs kvs → xs.length = kvs.length
  | _, _, .nil => rfl
  | _, _, .cons _ _ _ _ t => by simp [RpN.length t]
theorem RpN.append : ∀ {xs ys : List NE} {kvs lvs : List (PD × PD)}, RpN K H xs kvs → RpN K H ys lvs → RpN K H (xs ++ ys) (kvs ++ lvs)
  | _, _, _, _, .nil, h => h
  | _, _, _, _, .cons a b c d t, h => .cons a b c d (RpN.append t h)
theorem RpN.at : ∀ {xs : List NE} {kvs : List (PD × PD)} {i : Nat} {x : NE}, RpN K H xs kvs → xs[i]? = some x → ∃ d e, kvs[i]? = some (d, e) ∧ Rp K H (.ref x.2.1) d
  | _, _, _, _, .nil, e => by simp at e
  | _, _, 0, _, .cons h1 h2 _ _ _, e => by simp at e; subst e; exact ⟨_, _, rfl, h2⟩
  | _, _, i + 1, x, .cons _ _ _ _ t, e => by
    obtain ⟨d, e', h1, h2⟩ := RpN.at (i := i) (x := x) t (by simpa using e)
    exact ⟨d, e', by simpa using h1, h2⟩
theorem dn_get {xs : List NE} {kvs : List (PD × PD)} (r : RpN K H xs kvs) {d : PD} {k : NestedKey} (hk : keyD d = some k) : (∀ e, dnGet kvs d = some e → ∃ b u v, atKey xs k = some (b, u) ∧ RelV v u ∧ Rp K H v e) ∧ (atKey xs k).isSome = (dnGet kvs d).isSome := by
  induction xs generalizing kvs with
  | nil => cases r; exact ⟨fun e h => by simp [dnGet] at h, rfl⟩
  | cons x xs ih =>
    cases r with
    | @cons k' b u v d' e' _ kvs' h1 h2 h3 h4 h5 =>
      have ih := ih h5
      unfold atKey dnGet at ih ⊢
      rw [List.find?_cons, List.find?_cons]
      by_cases e : k' = k
      · have e2 : keyD d' = keyD d := by rw [h1, hk, e]
        simp only [e, e2, decide_true, Option.map_some, Option.isSome_some, Option.some.injEq, and_true]
        intro z hz
        subst hz
        exact ⟨b, u, v, rfl, h3, h4⟩
      · have e2 : ¬ keyD d' = keyD d := by rw [h1, hk]; exact fun z => e (Option.some.inj z)
        simp only [e, e2, decide_false]
        exact ih
theorem dn_map {xs : List NE} {kvs : List (PD × PD)} (r : RpN K H xs kvs) {d e : PD} {k : NestedKey} {u : Value} {v : V} (hk : keyD d = some k) (hv : RelV v u) (he : Rp K H v e) : RpN K H (xs.map (putAt k u)) (kvs.map (fun p => if keyD p.1 = keyD d then (p.1, e) else p)) := by
  induction xs generalizing kvs with
  | nil => cases r; exact .nil
  | cons x xs ih =>
    cases r with
    | @cons k' b u' v' d' e' _ kvs' h1 h2 h3 h4 h5 =>
      rw [List.map_cons, List.map_cons]
      unfold putAt
      by_cases q : k' = k
      · have e2 : keyD d' = keyD d := by rw [h1, hk, q]
        dsimp only
        rw [if_pos q, if_pos e2]
        exact .cons h1 h2 hv he (ih h5)
      · have e2 : ¬ keyD d' = keyD d := by rw [h1, hk]; exact fun z => q (Option.some.inj z)
        dsimp only
        rw [if_neg q, if_neg e2]
        exact .cons h1 h2 h3 h4 (ih h5)
theorem dn_put {xs : List NE} {kvs : List (PD × PD)} (r : RpN K H xs kvs) {d e : PD} {k : NestedKey} {b : Addr} {u : Value} {v : V} (hk : keyD d = some k) (hb : Rp K H (.ref b) d) (hv : RelV v u) (he : Rp K H v e) : RpN K H (storedH xs k b u) (dnPut kvs d e) := by
  unfold storedH dnPut
  rw [(dn_get r hk).2]
  split
  · exact dn_map r hk hv he
  · exact r.append (.cons hk hb hv he .nil)
theorem storedH_len (xs : List NE) (k : NestedKey) (b : Addr) (u : Value) : (storedH xs k b u).length ≤ xs.length + 1 := by
  unfold storedH
  split
  · rw [List.length_map]; omega
  · simp
end
/-! ### at the names -/
/-- the dict in a slot: own, or locked -/
def dnAt (ε : En) (i : Nat) : Option (List (PD × PD)) := match ε[i]? with
  | some (.ow (.dn kvs)) => some kvs
  | some (.io (.dn kvs)) => some kvs
  | some (.p (.dict ((.bool true, .none) :: kvs))) => some kvs
  | _ => none
theorem Rp.dnl' {K : PySem.W.Frag} {H : Hp} {v : V} {kvs : List (PD × PD)} (h : Rp K H v (lockN kvs)) : ∃ (a : Addr) (o : Obj) (xs : List NE), v = .ref a ∧ H a = some (.frz o (dnO a xs)) ∧ RpN K H xs kvs := by
  generalize e : lockN kvs = d at h
  cases h with
  | scr hs =>
    rename_i ns
    cases ns with
    | nil => cases e
    | cons n ns => cases e
  | dnl h1 h2 => cases e; exact ⟨_, _, _, rfl, h1, h2⟩
  | _ => cases e
section
variable {c : Mc}
theorem SR.dn {K : PySem.W.Frag} {ε : En} {σ : L2.St} {H : Hp} {i : Nat} {kvs : List (PD × PD)} (S : SR K c ε σ H) (e : dnAt ε i = some kvs) : ∃ a xs, σ[i]? = some (some (.ref a)) ∧ Rd H a (dnO a xs) ∧ RpN K H xs kvs := by
  unfold dnAt at e
  split at e
  · rename_i h
    cases e
    obtain ⟨v, h1, ⟨a, xs, rfl, h2, h3⟩, _⟩ := S.atO (.inl h)
    exact ⟨a, xs, h1, .inl h2, h3⟩
  · rename_i h
    cases e
    obtain ⟨v, h1, ⟨a, xs, rfl, h2, h3⟩, _⟩ := S.atO (.inr h)
    exact ⟨a, xs, h1, .inl h2, h3⟩
  · rename_i h
    cases e
    obtain ⟨v, h1, h2⟩ := S.atP h
    obtain ⟨a, o, xs, rfl, h3, h4⟩ := Rp.dnl' h2
    exact ⟨a, xs, h1, .inr ⟨o, h3⟩, h4⟩
  · cases e
variable {X : Cx} {pos : Pos}
theorem nroom {A : Around} (hu : A.units + 64 < cLine) : (nestedKind X.prog X.w).room A.in1 := by
  show A.in1.units + 8 < cLine
  rw [Around.in1_units]
  omega
/-- {} -/
def mNewN : M Opd := fun ε => .ok (.new (.dn [])) ε
theorem pe_nnew : PE X (.Dict [] [] pos) (fun _ H Q => ∀ p, H p = none → Q (.ref p) (upd H p (dnO p []))) := ⟨fun pins s σ H Q I h =>
  wpAny_Dict_empty ⟨.ref s.heap.objs.size, _, I.laid (a := s.heap.objs.size) (o := dnO s.heap.objs.size []) (t' := s.toks) (fun _ _ q => Heap.get?_push_of_some _ q) (Nat.le_refl _)
    (dn_ok (X := X) (beq_eq_false_iff_ne.mpr (Ne.symm (Nat.ne_of_lt I.big))) (Nat.zero_le _) (Heap.DictOfH.new s.heap) rfl), rfl, h _ (I.hok.fresh (Nat.le_refl _))⟩⟩
theorem je_nnew : JE X c (.Dict [] [] pos) mNewN := pe_imp pe_nnew fun σ H Q ⟨ε, S, h⟩ p hp => by
  have pp := PostP.of S noNew h
  exact pp _ _ (same_upd hp) ⟨p, [], rfl, upd_same, .nil⟩ fun b q => by cases q; exact hp
/-- own[k] -/
def tNGet (K : PySem.W.Frag) (td ty : TE) : TE := fun σ H Q => td σ H fun x H1 => ty σ H1 fun y H2 => ∃ a xs kvs d k e, x = .ref a ∧ Rd H2 a (dnO a xs) ∧ RpN K H2 xs kvs ∧ Rp K H2 y d ∧ keyD d = some k ∧ dnGet kvs d = some e ∧ ∀ v, Rp K H2 v e → Q v H2
theorem pe_nget {o i : Expr} {td ty : TE} (hu : X.A.units + 64 < cLine) (ho : PE X o td) (hi : PE X i ty) (hs : NoSl i) : PE X (.Subscript o i pos) (tNGet X.K td ty) := by
  refine ⟨fun pins s σ H Q I h => ?_⟩
  refine subD_of PySem.F.slot_dict_getitem.lookup hs (thn (ho.run pins s σ H _ I h) fun u s1 ⟨x, H1, I1, rx, q1⟩ => thn (hi.run pins s1 σ H1 _ I1 q1) fun iv s2 ⟨y, H2, I2, ry, a, xs, kvs, d, k, e, ex, hr, rn, rk, ek, eg, q2⟩ => ?_)
  subst ex
  obtain rfl : u = Value.ref a := rx
  obtain ⟨_, _, D⟩ := dn_of I2 hr rn
  obtain ⟨b, rfl, rfl, kis⟩ := dkey_is I2 ek rk ry
  obtain ⟨b', u', v', h1, h2, h3⟩ := (dn_get rn ek).1 e eg
  exact ⟨D.typeIs, wpAny_getItem_heap (nroom hu) kis D h1 ⟨v', H2, I2.tok _, h2, q2 v' h3⟩⟩
def mNGet (i : Nat) (m : M PD) : M Opd := fun ε => match dnAt ε i with
  | none => .stuck
  | some _ => (m ε).bind fun d ε1 => match (dnAt ε1 i).bind fun kvs => if (keyD d).isSome = true then dnGet kvs d else none with
    | some e => .ok (.val e) ε1
    | none => .stuck
theorem je_nget {e ei : Expr} {i : Nat} {m : M PD} (hu : X.A.units + 64 < cLine) (he : PE X e (tVar i)) (hi : JV X c ei m) (hs : NoSl ei) : JE X c (.Subscript e ei pos) (mNGet i m) :=
  pe_imp (pe_nget hu he hi hs) fun σ H Q ⟨ε, S, h⟩ => by
    unfold mNGet at h
    cases e0 : dnAt ε i with
    | none => rw [e0] at h; exact h.elim
    | some kvs0 =>
      rw [e0] at h
      simp only at h
      obtain ⟨a, xs0, h1, _, _⟩ := S.dn e0
      refine ⟨_, h1, ε, S, ?_⟩
      cases e1 : m ε with
      | stuck => simp only [e1, Out.bind_stuck] at h; exact h.elim
      | exc C ε' => simp only [e1, Out.bind_exc] at h; exact h
      | ok d ε1 =>
        simp only [e1, Out.bind_ok] at h
        intro y H1 t1 S1 r1
        split at h
        · rename_i e' hd
          obtain ⟨kvs, e2, e3⟩ := Option.bind_eq_some_iff.mp hd
          split at e3
          · rename_i hk
            obtain ⟨k, hk⟩ := Option.isSome_iff_exists.mp hk
            obtain ⟨a', xs, h2, h3, h4⟩ := S1.dn e2
            rw [h1] at h2; cases h2
            exact ⟨a, xs, kvs, d, k, e', rfl, h3, h4, r1, hk, e3, fun v r => h v H1 t1 S1 r trivial⟩
          · cases e3
        · exact h.elim
/-- own.get(k, x) -/
def tNGet2 (K : PySem.W.Frag) (td ty tx : TE) : TE := fun σ H Q => td σ H fun x H1 => (∃ a xs kvs, x = .ref a ∧ Rd H1 a (dnO a xs) ∧ RpN K H1 xs kvs) ∧ ty σ H1 fun y H2 => tx σ H2 fun z H3 => ∃ a xs kvs d k, x = .ref a ∧ Rd H3 a (dnO a xs) ∧ RpN K H3 xs kvs ∧ Rp K H3 y d ∧ keyD d = some k ∧
  (∀ e, dnGet kvs d = some e → ∀ v, Rp K H3 v e → Q v H3) ∧ (dnGet kvs d = none → Q z H3)
theorem pe_nget2 {o e f : Expr} {td ty tx : TE} {apos cpos : Pos} (hu : X.A.units + 64 < cLine) (ho : PE X o td) (he : PE X e ty) (hf : PE X f tx) (m : M2 X o "get" apos e f cpos) : PE X (.Call (.Attribute o "get" apos) [e, f] [] cpos) (tNGet2 X.K td ty tx) := by
  refine ⟨fun pins s σ H Q I h => ?_⟩
  refine wpAny_Call_method m.base m.few m.line PySem.F.plainAttrs_dict PySem.F.slot_dict_get PySem.F.type_dict_get (thn (ho.run pins s σ H _ I h) fun u s1 ⟨x, H1, I1, rx, ⟨a, xs, kvs, ex, hr, rn⟩, q1⟩ => ?_)
  subst ex
  obtain rfl : u = Value.ref a := rx
  obtain ⟨_, _, D⟩ := dn_of I1 hr rn
  refine ⟨D.typeIs, fun b q => ?_, ?_⟩
  · cases q
    obtain ⟨ob, _, _, h1, h2, _⟩ := D
    exact ⟨ob, h1, h2.2.1⟩
  rw [m.trees]
  refine Calls.callWith_builtin rfl (Calls.evalArgs_plain (Calls.spliced_cons (thn (he.run pins s1 σ H1 _ I1 q1) fun iv s2 ⟨y, H2, I2, ry, q2⟩ =>
    Calls.spliced_cons (thn (hf.run pins s2 σ H2 _ I2 q2) fun fv s3 ⟨z, H3, I3, rz, a', xs', kvs', d, k, ex, hr', rn', rk, ek, g1, g2⟩ => Calls.spliced_nil ?_))))
  cases ex
  obtain ⟨hs, _, D⟩ := dn_of I3 hr' rn'
  obtain ⟨b, rfl, rfl, kis⟩ := dkey_is I3 ek rk ry
  refine call_meetsIn PySem.F.slot_dict_get D.typeIs PySem.F.entry_dict_get (PySem.F.args_dict_get_3 _ _ _) (meetsH_dict_get_default (nestedKind X.prog X.w) a b hs fv) ⟨nroom hu, k, xs', kis, D, ?_⟩
  cases e1 : dnGet kvs' d with
  | none =>
    have h1 := (dn_get rn' ek).2
    rw [e1] at h1
    have h2 : atKey xs' k = none := by cases z : atKey xs' k with
      | none => rfl
      | some p => rw [z] at h1; cases h1
    rw [h2]
    exact ⟨z, H3, I3.tok _, rz, g2 e1⟩
  | some e' =>
    obtain ⟨b', u', v', h1, h2, h3⟩ := (dn_get rn' ek).1 e' e1
    rw [h1]
    exact ⟨v', H3, I3.tok _, h2, g1 e' e1 v' h3⟩
def mNGet2 (i : Nat) (m md : M PD) : M Opd := fun ε => match dnAt ε i with
  | none => .stuck
  | some _ => (m ε).bind fun d ε1 => (md ε1).bind fun x ε2 => match dnAt ε2 i with
    | some kvs => if (keyD d).isSome = true then .ok (.val ((dnGet kvs d).getD x)) ε2 else .stuck
    | none => .stuck
theorem je_nget2 {o e f : Expr} {i : Nat} {m md : M PD} {apos cpos : Pos} (hu : X.A.units + 64 < cLine) (ho : PE X o (tVar i)) (he : JV X c e m) (hf : JV X c f md) (hm : M2 X o "get" apos e f cpos) : JE X c (.Call (.Attribute o "get" apos) [e, f] [] cpos) (mNGet2 i m md) :=
  pe_imp (pe_nget2 hu ho he hf hm) fun σ H Q ⟨ε, S, h⟩ => by
    unfold mNGet2 at h
    cases e0 : dnAt ε i with
    | none => rw [e0] at h; exact h.elim
    | some kvs0 =>
      rw [e0] at h
      simp only at h
      obtain ⟨a, xs0, h1, h2, h3⟩ := S.dn e0
      refine ⟨_, h1, ⟨a, xs0, kvs0, rfl, h2, h3⟩, ε, S, ?_⟩
      cases e1 : m ε with
      | stuck => simp only [e1, Out.bind_stuck] at h; exact h.elim
      | exc C ε' => simp only [e1, Out.bind_exc] at h; exact h
      | ok d ε1 =>
        simp only [e1, Out.bind_ok] at h
        intro y H1 t1 S1 r1
        refine ⟨ε1, S1, ?_⟩
        cases e2 : md ε1 with
        | stuck => simp only [e2, Out.bind_stuck] at h; exact h.elim
        | exc C ε' => simp only [e2, Out.bind_exc] at h; exact fun H' a b => h H' (t1.trans a) b
        | ok x ε2 =>
          simp only [e2, Out.bind_ok] at h
          intro z H2 t2 S2 r2
          cases e3 : dnAt ε2 i with
          | none => rw [e3] at h; exact h.elim
          | some kvs =>
            rw [e3] at h
            simp only at h
            split at h
            · rename_i hk
              obtain ⟨k, hk⟩ := Option.isSome_iff_exists.mp hk
              obtain ⟨a', xs, h4, h5, h6⟩ := S2.dn e3
              rw [h1] at h4; cases h4
              have t12 := t1.trans t2
              refine ⟨a, xs, kvs, d, k, rfl, h5, h6, Rp.im (S1.im t2) _ _ r1, hk, fun e' g v r => ?_, fun g => ?_⟩
              · rw [g] at h
                exact h v H2 t12 S2 r trivial
              · rw [g] at h
                exact h z H2 t12 S2 r2 trivial
            · exact h.elim
/-- k in own, k not in own -/
def tNIn (K : PySem.W.Frag) (f : Bool → Bool) (ty td : TE) : TE := fun σ H Q => ty σ H fun y H1 => td σ H1 fun x H2 => ∃ a xs kvs d k, x = .ref a ∧ Rd H2 a (dnO a xs) ∧ RpN K H2 xs kvs ∧ Rp K H2 y d ∧ keyD d = some k ∧ Q (.bl (f (dnGet kvs d).isSome)) H2
theorem pc_nin {o i : Expr} {td ty : TE} (hu : X.A.units + 64 < cLine) (hi : PE X i ty) (ho : PE X o td) : PC X .In i o (tNIn X.K id ty td) := by
  refine ⟨fun pins s σ H Q I h => ?_⟩
  refine thn (hi.run pins s σ H _ I h) fun iv s1 ⟨y, H1, I1, ry, q1⟩ => thn (ho.run pins s1 σ H1 _ I1 q1) fun u s2 ⟨x, H2, I2, rx, a, xs, kvs, d, k, ex, hr, rn, rk, ek, q2⟩ => ?_
  subst ex
  obtain rfl : u = Value.ref a := rx
  obtain ⟨hs, _, D⟩ := dn_of I2 hr rn
  obtain ⟨b, rfl, rfl, kis⟩ := dkey_is I2 ek rk ry
  refine wpAny_in_heap (nroom hu) kis hs D ?_
  rw [(dn_get rn ek).2]
  exact ⟨.bl _, H2, I2.tok _, rfl, q2⟩
theorem pc_nnotin {o i : Expr} {td ty : TE} (hu : X.A.units + 64 < cLine) (hi : PE X i ty) (ho : PE X o td) : PC X .NotIn i o (tNIn X.K not ty td) := by
  refine ⟨fun pins s σ H Q I h => ?_⟩
  refine thn (hi.run pins s σ H _ I h) fun iv s1 ⟨y, H1, I1, ry, q1⟩ => thn (ho.run pins s1 σ H1 _ I1 q1) fun u s2 ⟨x, H2, I2, rx, a, xs, kvs, d, k, ex, hr, rn, rk, ek, q2⟩ => ?_
  subst ex
  obtain rfl : u = Value.ref a := rx
  obtain ⟨hs, _, D⟩ := dn_of I2 hr rn
  obtain ⟨b, rfl, rfl, kis⟩ := dkey_is I2 ek rk ry
  refine wpAny_notIn_heap (nroom hu) kis hs D ?_
  rw [(dn_get rn ek).2]
  exact ⟨.bl _, H2, I2.tok _, rfl, q2⟩
def mNIn (f : Bool → Bool) (m : M PD) (i : Nat) : M Opd := fun ε => (m ε).bind fun d ε1 => match dnAt ε1 i with
  | some kvs => if (keyD d).isSome = true then .ok (.val (.bool (f (dnGet kvs d).isSome))) ε1 else .stuck
  | none => .stuck
theorem nin_read {f : Bool → Bool} {K : PySem.W.Frag} {i : Nat} {m : M PD} (σ : L2.St) (H : Hp) (Q : VK) (h : tM K c (mNIn f m i) σ H Q) : tNIn K f (tV K c m) (tVar i) σ H Q := by
  obtain ⟨ε, S, h⟩ := h
  unfold mNIn at h
  refine ⟨ε, S, ?_⟩
  cases e1 : m ε with
  | stuck => rw [e1] at h; exact h
  | exc C ε' => rw [e1] at h; exact h
  | ok d ε1 =>
    rw [e1, Out.bind_ok] at h
    intro y H1 t1 S1 r1
    cases e2 : dnAt ε1 i with
    | none => rw [e2] at h; exact h.elim
    | some kvs =>
      rw [e2] at h
      simp only at h
      split at h
      · rename_i hk
        obtain ⟨k, hk⟩ := Option.isSome_iff_exists.mp hk
        obtain ⟨a, xs, h2, h3, h4⟩ := S1.dn e2
        exact ⟨_, h2, a, xs, kvs, d, k, rfl, h3, h4, r1, hk, h _ H1 t1 S1 (.bl _) trivial⟩
      · exact h.elim
section
variable {e ei : Expr} {i : Nat} {m : M PD}
theorem je_nin (hu : X.A.units + 64 < cLine) (hi : JV X c ei m) (he : PE X e (tVar i)) (hm : behindInMarks .In e = false := by first | exact nobehind _ (by decide) (by decide) | rfl) : JE X c (.Compare ei [.In] [e] pos) (mNIn id m i) :=
  pe_imp (pe_cmp (pc_nin hu hi he) hm) nin_read
theorem jt_nin (hu : X.A.units + 64 < cLine) (hi : JV X c ei m) (he : PE X e (tVar i)) (hm : behindInMarks .In e = false := by first | exact nobehind _ (by decide) (by decide) | rfl) : JT X c (.Compare ei [.In] [e] pos) (mTru (mNIn id m i)) :=
  pt_imp (pt_cmp (pc_nin hu hi he) hm) fun σ H Q h => nin_read _ _ _ (tru_read σ H Q h)
theorem je_nnotin (hu : X.A.units + 64 < cLine) (hi : JV X c ei m) (he : PE X e (tVar i)) (hm : behindInMarks .NotIn e = false := by first | exact nobehind _ (by decide) (by decide) | rfl) : JE X c (.Compare ei [.NotIn] [e] pos) (mNIn not m i) :=
  pe_imp (pe_cmp (pc_nnotin hu hi he) hm) nin_read
theorem jt_nnotin (hu : X.A.units + 64 < cLine) (hi : JV X c ei m) (he : PE X e (tVar i)) (hm : behindInMarks .NotIn e = false := by first | exact nobehind _ (by decide) (by decide) | rfl) : JT X c (.Compare ei [.NotIn] [e] pos) (mTru (mNIn not m i)) :=
  pt_imp (pt_cmp (pc_nnotin hu hi he) hm) fun σ H Q h => nin_read _ _ _ (tru_read σ H Q h)
end
/-- own[k] = v -/
def sNPut (K : PySem.W.Frag) (td ty tv : TE) : TS := fun D σ H => tv σ H fun v H1 => td σ H1 fun x H2 => ty σ H2 fun y H3 => ∃ a xs kvs d k e, x = .ref a ∧ H3 a = some (dnO a xs) ∧ RpN K H3 xs kvs ∧ Rp K H3 y d ∧ keyD d = some k ∧ kvs.length < big ∧ Rp K H3 v e ∧
  ∀ xs', (∀ H', Im H3 H' → RpN K H' xs' (dnPut kvs d e)) → D.nx σ (upd H3 a (dnO a xs'))
theorem ps_nput {o i value : Expr} {pos' : Pos} {td ty tv : TE} (hu : X.A.units + 64 < cLine) (ho : PE X o td) (hi : PE X i ty) (hv : PE X value tv) (hs : swapsWith value (some (.Subscript o i pos')) pos.line X.env = pure false) :
    PS X (.Assign [.Subscript o i pos'] value pos) (sNPut X.K td ty tv) := by
  refine ⟨fun pins s σ H D I h => ?_⟩
  refine wpAny_Assign_Subscript (thn (hv.run pins s σ H _ I h) fun r s1 ⟨v, H1, I1, rv, q1⟩ => thn (ho.run pins s1 σ H1 _ I1 q1) fun u s2 ⟨x, H2, I2, rx, q2⟩ => thn (hi.run pins s2 σ H2 _ I2 q2) fun iv s3 ⟨y, H3, I3, ry, a, xs, kvs, d, k, e, ex, hr, rn, rk, ek, hl, re, q3⟩ => ?_) hs
  subst ex
  obtain rfl : u = Value.ref a := rx
  obtain ⟨hsy, hz, Dd⟩ := dn_of I3 (.inl hr) rn
  obtain ⟨b, rfl, rfl, kis⟩ := dkey_is I3 ek rk ry
  refine wpAny_setItem_heap (hsz := hz) (nroom hu) kis Dd fun h' dd' sb => ?_
  have put := fun H' (im : Im H3 H') => dn_put (RpN.im' im rn) ek (Rp.im im _ _ rk) rv (Rp.im im _ _ re)
  have he : ∃ q, h'.get? a = some q := let ⟨q, _, _, hq, _⟩ := dd'; ⟨q, hq⟩
  have hlen : (storedH xs k b r).length ≤ sizeLine := by
    have h1 := storedH_len xs k b r
    have h2 := rn.length
    have h3 : kvs.length + 1 ≤ big := hl
    exact Nat.le_trans h1 (big_line (by rw [h2]; exact h3))
  have hent : (storedH xs k b r).map entN = (storedH xs k b r).map (entryOfKey (nestedKind X.prog X.w)) := (rpn_is I3 (put H3 (fun _ _ h _ => h))).2
  exact ⟨σ, _, d_write I3 (by rw [hr]; exact True.intro) sb he (dn_ok hsy hlen dd' hent), q3 _ put⟩
theorem SR.setN {K : PySem.W.Frag} {ε : En} {σ : L2.St} {H : Hp} {i : Nat} {a : Addr} {xs xs' : List NE} {kvs kvs' : List (PD × PD)} (S : SR K c ε σ H) (e : ε[i]? = some (.ow (.dn kvs)) ∨ ε[i]? = some (.io (.dn kvs))) (h1 : σ[i]? = some (some (.ref a))) (h2 : H a = some (dnO a xs))
    (r : ∀ H', Im H H' → RpN K H' xs' kvs') : SR K c (setOb ε i (.dn kvs')) σ (upd H a (dnO a xs')) ∧ Step ε σ H (setOb ε i (.dn kvs')) σ (upd H a (dnO a xs')) := by
  have im : Im H (upd H a (dnO a xs')) := fun b o e z => by
    rw [upd_ne (fun w => by subst w; rw [h2] at e; cases e; cases z)]; exact e
  have k1 : ∀ b u, H b = some u → ¬ b = a → upd H a (dnO a xs') b = some u := fun b u e z => by rw [upd_ne z]; exact e
  have k2 : ∀ b u, H b = some u → upd H a (dnO a xs') b ≠ none := fun b u e z => by
    by_cases w : b = a
    · subst w; rw [upd_same] at z; cases z
    · rw [upd_ne w, e] at z; cases z
  rcases e with e | e
  · have eo : setOb ε i (.dn kvs') = ε.set i (.ow (.dn kvs')) := by rw [setOb, e]
    rw [eo]
    exact S.chg e h1 (fun b u e z => k1 b u e fun w => z (by rw [w]; rfl)) k2 ⟨a, xs', rfl, upd_same, r _ im⟩ (fun b z => z) (fun o z => nomatch z)
  · have eo : setOb ε i (.dn kvs') = ε.set i (.io (.dn kvs')) := by rw [setOb, e]
    rw [eo]
    exact S.chg e h1 (fun b u e z => k1 b u e fun w => z (by rw [w]; rfl)) k2 ⟨a, xs', rfl, upd_same, r _ im⟩ (fun b z => z) (fun o z => ⟨_, rfl⟩)
def dnOwn (ε : En) (i : Nat) : Option (List (PD × PD)) := match ε[i]? with
  | some (.ow (.dn kvs)) => some kvs
  | some (.io (.dn kvs)) => some kvs
  | _ => none
theorem dnOwn_at {ε : En} {i : Nat} {kvs : List (PD × PD)} (e : dnOwn ε i = some kvs) : ε[i]? = some (.ow (.dn kvs)) ∨ ε[i]? = some (.io (.dn kvs)) := by
  unfold dnOwn at e
  split at e
  · rename_i h; cases e; exact .inl h
  · rename_i h; cases e; exact .inr h
  · cases e
theorem SR.dnO {K : PySem.W.Frag} {ε : En} {σ : L2.St} {H : Hp} {i : Nat} {kvs : List (PD × PD)} (S : SR K c ε σ H) (e : dnOwn ε i = some kvs) : ∃ a xs, σ[i]? = some (some (.ref a)) ∧ H a = some (MM.dnO a xs) ∧ RpN K H xs kvs := by
  obtain ⟨v, h1, ⟨a, xs, rfl, h2, h3⟩, _⟩ := S.atO (dnOwn_at e)
  exact ⟨a, xs, h1, h2, h3⟩
def sNSet (i : Nat) (mk mv : M PD) : M Fl := fun ε => (mv ε).bind fun e ε1 => match dnOwn ε1 i with
  | none => .stuck
  | some _ => (mk ε1).bind fun d ε2 => match dnOwn ε2 i with
    | none => .stuck
    | some kvs => if (keyD d).isSome = true ∧ kvs.length < big then .ok .nx (setOb ε2 i (.dn (dnPut kvs d e))) else .stuck
theorem js_nset {i : Nat} {o ix e : Expr} {mk mv : M PD} {p2 : Pos} (hu : X.A.units + 64 < cLine) (ho : PE X o (tVar i)) (hi : JV X c ix mk) (he : JV X c e mv) (hs : swapsWith e (some (.Subscript o ix p2)) pos.line X.env = pure false := by rfl) : JS X c (.Assign [.Subscript o ix p2] e pos) (sNSet i mk mv) :=
  ps_imp (ps_nput hu ho hi he hs) fun D σ H ⟨ε, S, h⟩ => ⟨ε, S, val_then h fun d ε1 v H1 _ t1 S1 rd p => by
    cases e0 : dnOwn ε1 i with
    | none => simp only [e0] at p; exact p.elim
    | some ds0 =>
      simp only [e0] at p
      obtain ⟨a, xs, h1, h2, h3⟩ := S1.dnO e0
      refine ⟨_, h1, ε1, S1, ?_⟩
      cases e1 : mk ε1 with
      | stuck => rw [e1] at p; exact p
      | exc C ε' => rw [e1] at p; exact fun H' a b => p σ H' a b
      | ok dk ε2 =>
        rw [e1, Out.bind_ok] at p
        intro u H2 t2 S2 r2
        cases e2 : dnOwn ε2 i with
        | none => simp only [e2] at p; exact p.elim
        | some kvs =>
          simp only [e2] at p
          obtain ⟨a', ys, g1, g2, g3⟩ := S2.dnO e2
          have ea : some (some (V.ref a)) = some (some (V.ref a')) := h1.symm.trans g1
          cases ea
          split at p
          · rename_i hk
            obtain ⟨hk, hl⟩ := hk
            obtain ⟨k, hk⟩ := Option.isSome_iff_exists.mp hk
            refine ⟨a, ys, kvs, dk, k, d, rfl, g2, g3, r2, hk, hl, Rp.im (S1.im t2) _ _ rd, fun xs' hx => ?_⟩
            obtain ⟨S3, t3⟩ := S2.setN (dnOwn_at e2) g1 g2 hx
            exact p _ _ (t2.trans t3) S3
          · exact p.elim⟩
/-! ### walked -/
def Itn (a : Addr) (o : Obj) (xs : List NE) : It :=
  ⟨fun i H => H a = some (.frz o (MM.dnO a xs)) ∧ i < xs.length, fun i H x H' => H' = H ∧ ∃ y, xs[i]? = some y ∧ x = .ref y.2.1, fun i H => H a = some (.frz o (MM.dnO a xs)) ∧ xs.length ≤ i⟩
theorem Inv.frzN {pins : List (Addr × Obj)} {σ : L2.St} {H : Hp} {s : Shared} {a : Addr} {o : Obj} {xs : List NE} (I : Inv X pins σ H s) (h : H a = some (.frz o (MM.dnO a xs))) :
    (a == sysModules) = false ∧ s.heap.get? a = some o ∧ o.ExactDict ∧ xs.length ≤ sizeLine ∧ ∃ (es : Array DictEntry) (ep : Nat), o.data = .dict es ep ∧ es.size = xs.length ∧ es.toList = xs.map entN := by
  obtain ⟨hd, ⟨h1, h2, o', es, ep, h3, h4, h5, h6, h7⟩, _, _⟩ := I.hok a _ h
  rw [hd] at h3
  cases h3
  exact ⟨h1, hd, h4, h2, es, ep, h5, by rw [← Array.length_toList, h6, List.length_map], h6⟩
theorem entN_at {es : Array DictEntry} {xs : List NE} (he : es.toList = xs.map entN) (i : Nat) : es[i]? = (xs[i]?).map entN := by
  rw [← Array.getElem?_toList, he, List.getElem?_map]
theorem turn_keysN {P : Program} {w : World} {K : PySem.W.Frag} {tg : Expr} {d : Addr} {o : Obj} {es : Array DictEntry} {ep : Nat} {xs : List NE} (it : Addr) (hod : o.data = .dict es ep) : Turn P w K tg (Itn d o xs) [it] it (fun i h => h.IsKeyIter it d i xs.length ep) where
  mem := by simp
  obj := fun i h st b hb => by
    have e : b = it := by simpa using hb
    subst e
    obtain ⟨oi, e, c, dd⟩ := st
    exact ⟨oi, e, fun v z => by rw [dd] at z; cases z⟩
  keep := fun i h h' st k => st.at fun oi e => k it (by simp) oi e
  item := by
    intro X hP hw hK hc i pins s σ H E I hf st hg
    subst hP hw hK
    obtain ⟨hd, hi⟩ := hg
    obtain ⟨f0, f1, f2, f3, f4, f5⟩ := hf it (by simp)
    obtain ⟨hs, hgd, hx, hz, es', ep', hdt, hsz, ent⟩ := Inv.frzN I hd
    obtain ⟨rfl, rfl⟩ := dict_ep hod hdt
    obtain ⟨y, hy⟩ : ∃ p, xs[i]? = some p := ⟨xs[i], List.getElem?_eq_getElem hi⟩
    have hen := entN_at ent i
    rw [hy] at hen
    refine next_key_item st hgd hdt hsz hen fun h' st' sb => ?_
    have I1 : Inv X pins σ H { s with heap := h' } := I.turned (t' := s.toks) (fun b ob hb e => (sb.2 b hb).trans e) f0 f1 f3 f4 f5
    obtain ⟨oi, e, c, dd⟩ := id st'
    exact ⟨(entN y).key, rfl, go_of (s := { s with heap := h' }) e c dd (by decide) ⟨.ref y.2.1, H, I1, rfl, ⟨rfl, y, hy, rfl⟩, st', fun b hb => (hf b hb).1⟩⟩
  done := by
    intro X hP hw hK hc i pins s σ H E I hf st hg
    subst hP hw hK
    obtain ⟨hd, hi⟩ := hg
    obtain ⟨f0, f1, f2, f3, f4, f5⟩ := hf it (by simp)
    obtain ⟨hs, hgd, hx, hz, es', ep', hdt, hsz, ent⟩ := Inv.frzN I hd
    obtain ⟨rfl, rfl⟩ := dict_ep hod hdt
    exact next_key_end (I.ok.hd hc) st hgd hdt hsz hi fun h' eb => ⟨rfl, I.turned (t' := s.toks) (fun b ob hb e => eb b ob hb e) f0 f1 f3 f4 f5⟩
  self := fun A i s Q E st h => by
    refine wpAny_pyIter_slot st.typeIs PySem.F.slot_dict_keyiterator_iter (wpAny_call_entry PySem.F.slot_dict_keyiterator_iter st.typeIs PySem.F.entry_dict_keyiterator_iter ?_ (PySem.F.args_dict_keyiterator_iter_1 _))
    show wpAny _ _ (ret (.ref it)) _ _ s
    exact wpAny_pure ⟨_, rfl, "dict_keyiterator", _, st.typeIs, PySem.F.slot_dict_keyiterator_next.lookup, h⟩
theorem walk_keysN {a : Addr} {o : Obj} {xs : List NE} : Walk (Itn a o xs) xs.length (fun H => H a = some (.frz o (MM.dnO a xs))) (fun i H x H' => H' = H ∧ ∃ y, xs[i]? = some y ∧ x = .ref y.2.1) :=
  ⟨fun _ _ hi q => ⟨q, hi⟩, fun _ q => ⟨q, Nat.le_refl _⟩, fun _ _ _ _ _ _ y => y⟩
theorem itd_keysN {K : PySem.W.Frag} {H : Hp} {a : Addr} {o : Obj} {xs : List NE} {kvs : List (PD × PD)} (h : H a = some (.frz o (MM.dnO a xs))) (r : RpN K H xs kvs) : Itd K (Itn a o xs) H (kvs.map (·.1)) := by
  refine ⟨_, _, by rw [List.length_map, ← r.length]; exact walk_keysN (xs := xs), fun H1 m => m _ _ h rfl, fun i H1 x H2 hi m y => ?_⟩
  obtain ⟨e, y, e1, e2⟩ := y
  subst e e2
  obtain ⟨d, e', h1, h2⟩ := r.at e1
  exact ⟨same_refl _, d, by rw [List.getElem?_map, h1]; rfl, Rp.im m _ _ h2⟩
theorem pi_keysN {tg e : Expr} {td : TE} (he : PE X e td) : PI X tg e (fun σ H R => td σ H fun x H1 => ∃ a o xs, x = .ref a ∧ H1 a = some (.frz o (MM.dnO a xs)) ∧ R (Itn a o xs) H1) := by
  refine ⟨fun pins s σ H R I h => ?_⟩
  refine thn (he.run pins s σ H _ I h) fun u s1 ⟨x, H1, I1, rx, d, o, xs, ex, hd, q⟩ => ?_
  subst ex
  obtain rfl : u = Value.ref d := rx
  obtain ⟨hs, hgd, hx, hz, es, ep, hdt, hsz, ent⟩ := Inv.frzN I1 hd
  refine iter_keys hs hgd hx hdt (pi_one (tk := s1.toks) I1 _ (turn_keysN _ hdt) ⟨_, Heap.get?_push_size _ rfl, rfl, ?_⟩ q)
  rw [hsz] <;> rfl
def iKeyN (m : M PD) : M (List PD) := fun ε => (m ε).bind fun d ε1 => match d with
  | .dict ((.bool true, .none) :: kvs) => .ok (kvs.map (·.1)) ε1
  | _ => .stuck
theorem ji_keyN {tg e : Expr} {m : M PD} (h : JV X c e m) : JI X c tg e (iKeyN m) := pi_imp (pi_keysN h) fun σ H R ⟨ε, S, h⟩ => by
  refine ⟨ε, S, ?_⟩
  unfold iKeyN at h
  cases e1 : m ε with
  | stuck => rw [e1] at h; exact h
  | exc C ε' => rw [e1] at h; exact h
  | ok d ε1 =>
    rw [e1, Out.bind_ok] at h
    intro v H1 t S1 r
    split at h
    · obtain ⟨a, o, xs, rfl, h1, h2⟩ := Rp.dnl' r
      exact ⟨a, o, xs, rfl, h1, h _ H1 t S1 (itd_keysN h1 h2)⟩
    · exact h.elim
/-- list(own) -/
theorem call_list_dN (hc : X.calm = true) : CallR X (.type "list") (fun xs H Q => ∃ d ks, xs = [V.ref d] ∧ Rd H d (MM.dnO d ks) ∧ ∀ p, H p = none → Q (.ref p) (upd H p (.lst ((ks.map fun x => x.2.1).map V.ref)))) := by
  intro pins s σ H xs us Q I r h
  obtain ⟨d, ks, rfl, hd, q⟩ := h
  obtain ⟨u, rfl, rx⟩ := r.one
  cases rx
  obtain ⟨⟨hs, z, o, es, ep, ho, hx, hdt, he, hn⟩, _, _⟩ := (show ObjOk X.prog X.w H s.heap d (MM.dnO d ks) from hd.ok I.hok)
  have l1 : es.size = ks.length := by rw [← Array.length_toList, he, List.length_map]
  refine PySem.W.kdl_call (kdl_raw hs hx hdt) (I.ok.hd hc) ho (by omega) fun h' tk acc' c' kp e it => ?_
  have ea : acc'.toList = ks.map fun x => Value.ref x.2.1 := by
    have hl : acc'.toList.length = ks.length := by rw [Array.length_toList, it.1]; exact l1
    apply List.ext_getElem?
    intro j
    rw [List.getElem?_map]
    cases hj : acc'.toList[j]? with
    | none =>
      have h1 := List.getElem?_eq_none_iff.mp hj
      rw [List.getElem?_eq_none (by omega)]
      all_goals rfl
    | some v =>
      obtain ⟨en, hen, hv⟩ := it.2 j v (by rw [← Array.getElem?_toList]; exact hj)
      have qe := entN_at he j
      rw [hen] at qe
      cases hb : ks[j]? with
      | none =>
        rw [hb] at qe
        exact nomatch (show some en = none from qe)
      | some b =>
        rw [hb] at qe
        have e2 : en = entN b := Option.some.inj qe
        rw [hv, e2]
        all_goals rfl
  have eb : acc'.toList = (ks.map fun x => x.2.1).map Value.ref := by rw [ea, List.map_map]; all_goals rfl
  have rv : Vals ((ks.map fun x => x.2.1).map V.ref) acc'.toList := by rw [eb]; exact vals_refs _
  have hz : ((ks.map fun x => x.2.1).map V.ref).length ≤ sizeLine := by rw [List.length_map, List.length_map]; omega
  refine ⟨.ref s.heap.objs.size, _, I.laid (t' := tk) (o := .lst ((ks.map fun x => x.2.1).map V.ref)) kp (Nat.le_refl _) ?_, rfl, q _ (I.hok.fresh (Nat.le_refl _))⟩
  exact ⟨hz, acc'.toList, c', rv, by rw [Array.toArray_toList]; exact e⟩
theorem RpN.keys {K : PySem.W.Frag} {H : Hp} : ∀ {xs : List NE} {kvs : List (PD × PD)}, RpN K H xs kvs → RpA K H ((xs.map fun x => x.2.1).map V.ref) (kvs.map (·.1))
  | _, _, .nil => .nil
  | _, _, .cons _ h _ _ t => .cons h (RpN.keys t)
def fListN : List PD → Option Opd
  | [.dict ((.bool true, .none) :: kvs)] => some (.new (.l (kvs.map (·.1))))
  | _ => none
theorem c_listN (hc : X.calm = true) : CallR X (.type "list") (cM X.K c (liftN fListN)) := by
  refine liftN_call (call_list_dN hc) fun xs ds o H Q L r e => ?_
  unfold fListN at e
  split at e
  · cases e
    obtain ⟨x, rfl, q1⟩ := r.one
    cases q1 with
    | rp h =>
      obtain ⟨a, ob, xs, rfl, h1, h2⟩ := Rp.dnl' h
      exact ⟨noNew, fun p => ⟨a, xs, rfl, .inr ⟨ob, h1⟩, fun q hq => p.nlst h2.keys hq⟩⟩
  · cases e
end
end MM

/-! ML18: data that is clean, its ==; loops as folds. -/
namespace MM
open PySem PySem.Spec PyProof.Rows L2
/-! ### clean data: no truth values, no dicts -/
mutual
def clean : PD → Bool
  | .none => true
  | .bool _ => false
  | .int _ => true
  | .str x => PyData.strOk x
  | .list ds => cleanAll ds
  | .tuple ds => cleanAll ds
  | .dict _ => false
def cleanAll : List PD → Bool
  | [] => true
  | d :: ds => clean d && cleanAll ds
end
mutual
theorem clean_lay : ∀ d : PD, clean d = true → d.canLay0 = true
  | .none, _ => by simp only [PyData.canLay0]
  | .bool _, h => by simp [clean] at h
  | .int _, _ => by simp only [PyData.canLay0]
  | .str x, h => by simpa only [clean, PyData.canLay0] using h
  | .list ds, h => by simp only [clean] at h; simp only [PyData.canLay0]; exact cleanAll_lay ds h
  | .tuple ds, h => by simp only [clean] at h; simp only [PyData.canLay0]; exact cleanAll_lay ds h
  | .dict _, h => by simp [clean] at h
theorem cleanAll_lay : ∀ ds : List PD, cleanAll ds = true → PyData.canLayAll0 ds = true
  | [], _ => by simp only [PyData.canLayAll0]
  | d :: ds, h => by
    simp only [cleanAll, Bool.and_eq_true] at h
    simp only [PyData.canLayAll0, Bool.and_eq_true]
    exact ⟨clean_lay d h.1, cleanAll_lay ds h.2⟩
end
mutual
theorem eqv_clean : ∀ a b : PD, clean a = true → clean b = true → (PyData.eqv a b = true ↔ a = b)
  | .none, b, _, h => by cases b <;> simp [PyData.eqv, clean] at h ⊢
  | .bool _, _, h, _ => by simp [clean] at h
  | .int i, b, _, h => by cases b <;> simp [PyData.eqv, clean] at h ⊢
  | .str x, b, _, h => by cases b <;> simp [PyData.eqv, clean] at h ⊢
  | .list xs, b, ha, hb => by
    cases b with
    | list ys => simp only [clean] at ha hb; simp only [PyData.eqv, PyData.list.injEq]; exact eqv_cleanAll xs ys ha hb
    | _ => simp [PyData.eqv, clean] at hb ⊢
  | .tuple xs, b, ha, hb => by
    cases b with
    | tuple ys => simp only [clean] at ha hb; simp only [PyData.eqv, PyData.tuple.injEq]; exact eqv_cleanAll xs ys ha hb
    | _ => simp [PyData.eqv, clean] at hb ⊢
  | .dict _, _, h, _ => by simp [clean] at h
theorem eqv_cleanAll : ∀ a b : List PD, cleanAll a = true → cleanAll b = true → (PyData.eqvAll a b = true ↔ a = b)
  | [], [], _, _ => by simp [PyData.eqvAll]
  | [], _ :: _, _, _ => by simp [PyData.eqvAll]
  | _ :: _, [], _, _ => by simp [PyData.eqvAll]
  | x :: xs, y :: ys, ha, hb => by
    simp only [cleanAll, Bool.and_eq_true] at ha hb
    simp only [PyData.eqvAll, Bool.and_eq_true, List.cons.injEq]
    rw [eqv_clean x y ha.1 hb.1, eqv_cleanAll xs ys ha.2 hb.2]
end
theorem cleanAll_iff {ds : List PD} : cleanAll ds = true ↔ ∀ d ∈ ds, clean d = true := by
  induction ds with
  | nil => simp [cleanAll]
  | cons d ds ih => simp [cleanAll, ih]
theorem cleanAll_map {α : Type} {f : α → PD} {l : List α} (h : ∀ x ∈ l, clean (f x) = true) : cleanAll (l.map f) = true := cleanAll_iff.mpr fun d hd => by
  obtain ⟨x, hx, rfl⟩ := List.mem_map.mp hd
  exact h x hx
theorem depthAll_le {ds : List PD} {n : Nat} (h : ∀ d ∈ ds, d.depth ≤ n) : PyData.depthAll ds ≤ n := by
  induction ds with
  | nil => simp [PyData.depthAll]
  | cons d ds ih =>
    simp only [PyData.depthAll]
    exact Nat.max_le.mpr ⟨h d (List.mem_cons_self ..), ih fun e he => h e (List.mem_cons_of_mem _ he)⟩
/-- clean, and of no more depth than n -/
def Cn (n : Nat) (d : PD) : Prop := clean d = true ∧ d.depth ≤ n
theorem Cn.mono {n m : Nat} {d : PD} (h : Cn n d) (l : n ≤ m) : Cn m d := ⟨h.1, Nat.le_trans h.2 l⟩
theorem Cn.tup {n : Nat} {ds : List PD} (h : ∀ d ∈ ds, Cn n d) : Cn (n + 1) (.tuple ds) := ⟨by simp only [clean]; exact cleanAll_iff.mpr fun d hd => (h d hd).1, by simp only [PyData.depth]; exact Nat.succ_le_succ (depthAll_le fun d hd => (h d hd).2)⟩
theorem Cn.lst {n : Nat} {ds : List PD} (h : ∀ d ∈ ds, Cn n d) : Cn (n + 1) (.list ds) := ⟨by simp only [clean]; exact cleanAll_iff.mpr fun d hd => (h d hd).1, by simp only [PyData.depth]; exact Nat.succ_le_succ (depthAll_le fun d hd => (h d hd).2)⟩
theorem Cn.int (i : Int) : Cn 0 (.int i) := ⟨rfl, by simp [PyData.depth]⟩
theorem Cn.non : Cn 0 .none := ⟨rfl, by simp [PyData.depth]⟩
theorem Cn.str (x : Str) (h : PyData.strOk x = true := by decide +kernel) : Cn 0 (.str x) := ⟨by simpa only [clean] using h, by simp [PyData.depth]⟩
theorem Cn.ints (ns : List Int) : Cn 1 (.tuple (iD ns)) := .tup fun d hd => by
  obtain ⟨n, _, rfl⟩ := iD_mem hd
  exact .int n
theorem Cn.intsL (ns : List Int) : Cn 1 (.list (iD ns)) := .lst fun d hd => by
  obtain ⟨n, _, rfl⟩ := iD_mem hd
  exact .int n
theorem Cn.map {α : Type} {n : Nat} {f : α → PD} {l : List α} (h : ∀ x ∈ l, Cn n (f x)) : ∀ d ∈ l.map f, Cn n d := fun d hd => by
  obtain ⟨x, hx, rfl⟩ := List.mem_map.mp hd
  exact h x hx
theorem Cn.sh {n : Nat} {d : PD} (h : Cn n d) (l : n ≤ 64 := by decide) : SeqAt.shaped d = true := by
  unfold SeqAt.shaped
  rw [clean_lay d h.1, decide_eq_true (Nat.le_trans h.2 l)]
  rfl
theorem fEq_cn {n m : Nat} {a b : PD} {p : Prop} [Decidable p] (ha : Cn n a) (hb : Cn m b) (h : a = b ↔ p) (l : n ≤ 64 := by decide) (l' : m ≤ 64 := by decide) : fEq a b = some (.val (.bool (decide p))) := by
  unfold fEq
  rw [ha.sh l, hb.sh l']
  have e : PyData.eqv a b = decide p := by
    rw [Bool.eq_iff_iff, eqv_clean a b ha.1 hb.1, h, decide_eq_true_iff]
  rw [e]
  rfl
theorem fNe_cn {n m : Nat} {a b : PD} {p : Prop} [Decidable p] (ha : Cn n a) (hb : Cn m b) (h : a = b ↔ p) (l : n ≤ 64 := by decide) (l' : m ≤ 64 := by decide) : fNe a b = some (.val (.bool (!decide p))) := by
  unfold fNe
  rw [ha.sh l, hb.sh l']
  have e : PyData.eqv a b = decide p := by
    rw [Bool.eq_iff_iff, eqv_clean a b ha.1 hb.1, h, decide_eq_true_iff]
  rw [e]
  rfl
theorem fEq_e {n : Nat} {ds : List PD} (h : Cn n (.tuple ds)) (l : n ≤ 64 := by decide) : fEq (.tuple ds) (.tuple []) = some (.val (.bool (decide (ds = [])))) := fEq_cn h (n := n) (m := 1) (.tup fun _ h => absurd h (List.not_mem_nil)) (by simp) l
theorem fNe_e {n : Nat} {ds : List PD} (h : Cn n (.tuple ds)) (l : n ≤ 64 := by decide) : fNe (.tuple ds) (.tuple []) = some (.val (.bool (!decide (ds = [])))) := fNe_cn h (n := n) (m := 1) (.tup fun _ h => absurd h (List.not_mem_nil)) (by simp) l
theorem iD_inj {a b : List Int} : iD a = iD b ↔ a = b := by
  constructor
  · intro h
    unfold iD at h
    exact (List.map_inj_right fun x y h => by injection h).mp h
  · intro h; rw [h]
theorem iD_nil' {a : List Int} : iD a = [] ↔ a = [] := by simp [iD]
/-! ### rows of rows -/
/-- cuts, beat by beat -/
def cD (H : List (List Int)) : List PD := H.map fun c => .tuple (iD c)
@[simp] theorem cD_len (H : List (List Int)) : (cD H).length = H.length := List.length_map _
theorem cD_app (a b : List (List Int)) : cD (a ++ b) = cD a ++ cD b := List.map_append
theorem cD_at (H : List (List Int)) (i : Nat) : (cD H)[i]? = (H[i]?).map fun c => .tuple (iD c) := List.getElem?_map ..
@[simp] theorem cD_nil : cD [] = [] := rfl
theorem Cn.rows (H : List (List Int)) : Cn 2 (.tuple (cD H)) := .tup (.map fun c _ => .ints c)
theorem cD_inj {a b : List (List Int)} : cD a = cD b ↔ a = b := by
  constructor
  · intro h
    unfold cD at h
    refine (List.map_inj_right fun x y h => ?_).mp h
    injection h with h
    exact iD_inj.mp h
  · intro h; rw [h]
/-! ### loops, comprehensions -/
theorem lcL_fmA {α : Type} {vs : List Nat} {t : Tg} {tt : M Bool} {te : M PD} {ε : En} (enc : α → PD) (p : α → Bool) (f : α → PD) : ∀ (xs : List α) (acc : List PD), (∀ x ∈ xs, ∃ ε1, t (enc x) (wipeE ε vs) = some ε1 ∧ tt ε1 = .ok (p x) ε1 ∧ (p x = true → te ε1 = .ok (f x) ε1) ∧ restE ε ε1 vs = ε) →
    lcL vs t tt te (xs.map enc) acc ε = .ok (.new (.l (acc ++ (xs.filter p).map f))) ε
  | [], acc, _ => by simp
  | x :: xs, acc, h => by
    obtain ⟨ε1, h1, h2, h3, h4⟩ := h x (List.mem_cons_self ..)
    rw [List.map_cons]
    unfold lcL
    have ih := fun acc => lcL_fmA enc p f (vs := vs) (t := t) (tt := tt) (te := te) (ε := ε) xs acc fun y hy => h y (List.mem_cons_of_mem _ hy)
    cases hp : p x with
    | true =>
      simp only [h1, h2, hp, h3 hp, if_pos, h4, ih]
      rw [List.filter_cons_of_pos hp, List.map_cons, List.append_assoc]
      rfl
    | false =>
      simp only [h1, h2, hp, Bool.false_eq_true, if_false, h4, ih]
      rw [List.filter_cons_of_neg (by simp [hp])]
theorem lcL_fm {α : Type} {vs : List Nat} {t : Tg} {tt : M Bool} {te : M PD} {ε : En} (enc : α → PD) (p : α → Bool) (f : α → PD) (xs : List α) (h : ∀ x ∈ xs, ∃ ε1, t (enc x) (wipeE ε vs) = some ε1 ∧ tt ε1 = .ok (p x) ε1 ∧ (p x = true → te ε1 = .ok (f x) ε1) ∧ restE ε ε1 vs = ε) :
    lcL vs t tt te (xs.map enc) [] ε = .ok (.new (.l ((xs.filter p).map f))) ε := by
  have := lcL_fmA enc p f xs [] h
  simpa using this
theorem lcL_m {α : Type} {vs : List Nat} {t : Tg} {te : M PD} {ε : En} (enc : α → PD) (f : α → PD) (xs : List α) (h : ∀ x ∈ xs, ∃ ε1, t (enc x) (wipeE ε vs) = some ε1 ∧ te ε1 = .ok (f x) ε1 ∧ restE ε ε1 vs = ε) :
    lcL vs t xYes te (xs.map enc) [] ε = .ok (.new (.l (xs.map f))) ε := by
  have := lcL_fm (vs := vs) (t := t) (tt := xYes) (te := te) (ε := ε) enc (fun _ => true) f xs fun x hx => by
    obtain ⟨ε1, h1, h2, h3⟩ := h x hx
    exact ⟨ε1, h1, rfl, fun _ => h2, h3⟩
  rw [this, List.filter_eq_self.mpr fun _ _ => rfl]
theorem forL_fold {α S : Type} {t : Tg} {mb : M Fl} (enc : α → PD) (env : S → En) (step : S → α → S) (I : S → Nat → Prop) : ∀ (xs : List α) (s : S) (n : Nat), (∀ x ∈ xs, ∀ s n, I s n → ∃ ε1, t (enc x) (env s) = some ε1 ∧ mb ε1 = .ok .nx (env (step s x)) ∧ I (step s x) (n + 1)) → I s n →
    forL t mb (xs.map enc) (env s) = .ok .nx (env (xs.foldl step s)) ∧ I (xs.foldl step s) (n + xs.length)
  | [], s, n, _, hi => ⟨rfl, hi⟩
  | x :: xs, s, n, h, hi => by
    obtain ⟨ε1, h1, h2, h3⟩ := h x (List.mem_cons_self ..) s n hi
    obtain ⟨h4, h5⟩ := forL_fold enc env step I xs (step s x) (n + 1) (fun y hy => h y (List.mem_cons_of_mem _ hy)) h3
    refine ⟨?_, ?_⟩
    · rw [List.map_cons]
      unfold forL
      simp only [h1, h2, Out.bind_ok]
      exact h4
    · rw [List.length_cons, show n + (xs.length + 1) = n + 1 + xs.length by omega]
      exact h5
/-- a loop that returns at the first thing of a kind, and changes nothing -/
theorem forL_find {α : Type} {t : Tg} {mb : M Fl} (enc : α → PD) (env : Option α → En) (p : α → Bool) (r : α → PD) : ∀ (xs : List α) (o : Option α), (∀ x ∈ xs, ∀ o, ∃ ε1, t (enc x) (env o) = some ε1 ∧ (p x = false → mb ε1 = .ok .nx (env (some x))) ∧ (p x = true → mb ε1 = .ok (.rt (r x)) (env (some x)))) →
    ∃ o', forL t mb (xs.map enc) (env o) = (match xs.find? p with
      | some x => .ok (.rt (r x)) (env o')
      | none => .ok .nx (env o'))
  | [], o, _ => ⟨o, rfl⟩
  | x :: xs, o, h => by
    obtain ⟨ε1, h1, h2, h3⟩ := h x (List.mem_cons_self ..) o
    rw [List.map_cons, List.find?_cons]
    cases hp : p x with
    | true =>
      refine ⟨some x, ?_⟩
      unfold forL
      simp only [h1, h3 hp, Out.bind_ok]
    | false =>
      obtain ⟨o', h4⟩ := forL_find enc env p r xs (some x) fun y hy => h y (List.mem_cons_of_mem _ hy)
      refine ⟨o', ?_⟩
      unfold forL
      simp only [h1, h2 hp, Out.bind_ok]
      exact h4
@[simp] theorem enumFT_m {α : Type} (f : α → PD) (l : List α) : enD (l.map f) = (l.mapIdx fun i x => (i, x)).map fun p => .tuple [.int (p.1 : Nat), f p.2] := by
  unfold enD
  apply List.ext_getElem?
  intro i
  simp only [List.getElem?_mapIdx, List.getElem?_map]
  cases l[i]? <;> rfl
/-! ### dicts with tuples as keys -/
@[simp] theorem mNewN_ap (ε : En) : mNewN ε = .ok (.new (.dn [])) ε := rfl
@[simp] theorem mNGet_ap (i : Nat) (m : M PD) (ε : En) : mNGet i m ε = (match dnAt ε i with
  | none => .stuck
  | some _ => (m ε).bind fun d ε1 => match (dnAt ε1 i).bind fun kvs => if (keyD d).isSome = true then dnGet kvs d else none with
    | some e => .ok (.val e) ε1
    | none => .stuck) := rfl
@[simp] theorem mNGet2_ap (i : Nat) (m md : M PD) (ε : En) : mNGet2 i m md ε = (match dnAt ε i with
  | none => .stuck
  | some _ => (m ε).bind fun d ε1 => (md ε1).bind fun x ε2 => match dnAt ε2 i with
    | some kvs => if (keyD d).isSome = true then .ok (.val ((dnGet kvs d).getD x)) ε2 else .stuck
    | none => .stuck) := rfl
@[simp] theorem mNIn_ap (f : Bool → Bool) (m : M PD) (i : Nat) (ε : En) : mNIn f m i ε = ((m ε).bind fun d ε1 => match dnAt ε1 i with
  | some kvs => if (keyD d).isSome = true then .ok (.val (.bool (f (dnGet kvs d).isSome))) ε1 else .stuck
  | none => .stuck) := rfl
@[simp] theorem sNSet_ap (i : Nat) (mk mv : M PD) (ε : En) : sNSet i mk mv ε = ((mv ε).bind fun e ε1 => match dnOwn ε1 i with
  | none => .stuck
  | some _ => (mk ε1).bind fun d ε2 => match dnOwn ε2 i with
    | none => .stuck
    | some kvs => if (keyD d).isSome = true ∧ kvs.length < big then .ok .nx (setOb ε2 i (.dn (dnPut kvs d e))) else .stuck) := rfl
@[simp] theorem dnAt_ap (ε : En) (i : Nat) : dnAt ε i = (match ε[i]? with
  | some (.ow (.dn kvs)) => some kvs
  | some (.io (.dn kvs)) => some kvs
  | some (.p (.dict ((.bool true, .none) :: kvs))) => some kvs
  | _ => none) := rfl
@[simp] theorem dnOwn_ap (ε : En) (i : Nat) : dnOwn ε i = (match ε[i]? with
  | some (.ow (.dn kvs)) => some kvs
  | some (.io (.dn kvs)) => some kvs
  | _ => none) := rfl
@[simp] theorem iKeyN_ap (m : M PD) (ε : En) : iKeyN m ε = ((m ε).bind fun d ε1 => match d with
  | .dict ((.bool true, .none) :: kvs) => .ok (kvs.map (·.1)) ε1
  | _ => .stuck) := rfl
@[simp] theorem fListN_l (kvs : List (PD × PD)) : fListN [lockN kvs] = some (.new (.l (kvs.map (·.1)))) := rfl
@[simp] theorem sink_own (k : Nat) (ε : En) : sink (.own k) ε = (match ε[k]? with
    | some (.ow (.l ds)) => .ok (.list ds) (ε.set k (.p (.list ds)))
    | some (.ow (.dn kvs)) => .ok (lockN kvs) (ε.set k (.p (lockN kvs)))
    | _ => .stuck) := rfl
end MM

/-! ML19: a tuple turned round; max of a list, of a tuple. -/
namespace HT
open PySem PySem.Calls PyProof.Rows PyProof.V PySem.Spec
section
variable {prog : Program} {w : World} {A : Around} {E : Value → Shared → Prop} {s : Shared}
theorem sliceApplied_back {sl : Addr} {vs : Value} {n : Nat} {Q : Int × Int × Nat → Shared → Prop} (hs : s.heap.IsSliceOf sl .none .none vs) (ps : IsPart vs (some (-1)))
    (h : Q ((n : Int) - 1, -1, n) s) : wpAny (model prog w) A (Builtin.Slice.sliceApplied (.ref sl) (pure (n : Int))) Q E s := by
  obtain ⟨os, hos, hcs, hds⟩ := id hs
  unfold Builtin.Slice.sliceApplied Builtin.Slice.sliceFields
  refine wpAny_bind (wpAny_bind (wpAny_field hos hds (x := .none) rfl (wpAny_bind (wpAny_field hos hds (x := .none) rfl (wpAny_bind (wpAny_field hos hds (x := vs) rfl (wpAny_pure ?_)))))))
  refine wpAny_bind (slicePart_ ps ?_)
  show wpAny _ _ (if ((-1 : Int) == 0) = true then _ else _) _ _ s
  rw [if_neg (by decide)]
  refine wpAny_bind (slicePart_ .none (wpAny_bind (slicePart_ .none (wpAny_bind (wpAny_pure ?_)))))
  have e : Builtin.Slice.slicePlaces ((n : Int) - 1) (-1) (-1) = n := by
    unfold Builtin.Slice.slicePlaces
    have h1 : ¬ ((-1 : Int) > 0) := by decide
    simp only [h1, if_false]
    split
    · rw [show (- -1 : Int) = 1 by decide, Int.ediv_one]; omega
    · omega
  show wpAny _ _ (pure ((n : Int) - 1, (-1 : Int), Builtin.Slice.slicePlaces ((n : Int) - 1) (-1) (-1))) _ _ s
  rw [e]
  exact wpAny_pure h
theorem pick_back (xs : Array Value) : ((List.range xs.size).filterMap fun (k : Nat) => xs[((xs.size : Int) - 1 + (k : Int) * (-1)).toNat]?).toArray = xs.toList.reverse.toArray := by
  congr 1
  have e : (fun (k : Nat) => xs[((xs.size : Int) - 1 + (k : Int) * (-1)).toNat]?) = (fun j => xs[j]?) ∘ fun k : Nat => ((xs.size : Int) - 1 + (k : Int) * (-1)).toNat := rfl
  rw [e, ← List.filterMap_map]
  have e2 : ((List.range xs.size).map fun k : Nat => ((xs.size : Int) - 1 + (k : Int) * (-1)).toNat) = (List.range xs.size).map fun k => xs.size - 1 - k := by
    apply List.map_congr_left
    intro k hk
    have := List.mem_range.mp hk
    omega
  rw [e2, PySem.W.krv_range, List.filterMap_reverse]
  have := PySem.W.krv_all xs
  rw [this]
theorem getItem_tuple_back {t sl : Addr} {items : Array Value} {vs : Value} {Q : Value → Shared → Prop} (ht : IsTup s.heap t items) (hs : s.heap.IsSliceOf sl .none .none vs) (ps : IsPart vs (some (-1)))
    (h : Q (.ref s.heap.objs.size) { s with heap := s.heap.push { cls := .type "tuple", data := .seq items.toList.reverse.toArray } })
    (hsz : items.size ≤ sizeLine) : wpAny (model prog w) A (getItem (.ref t) (.ref sl)) Q E s := by
  have htake : sizeOk (.seq items.toList.reverse.toArray) := by
    show items.toList.reverse.toArray.size ≤ sizeLine
    rw [List.size_toArray, List.length_reverse, Array.length_toList]
    exact hsz
  obtain ⟨os, hos, hcs, hds⟩ := id hs
  have hTs : s.TypeIs (.ref sl) "slice" := ⟨os, hos, hcs⟩
  unfold getItem
  try with_reducible refine wpAny_holding ?_
  first | refine wpAny_bind (wpAny_pure ?_) | skip
  refine wpAny_bind (wpAny_sequenceKey ht.typeIs (by decide) ?_)
  refine wpAny_bind (wpAny_callSpecial?_slot (name := Str.ofString "__getitem__") ht.typeIs PyProof.Rows.slot_tuple_getitem
    (wpAny_call_entry PyProof.Rows.slot_tuple_getitem ht.typeIs entry_tuple_getitem ?_ (args_tuple_getitem _ _)))
  show wpAny _ _ (Builtin.Tuple.tupleItemsOf (.ref t) >>= _) _ _ s
  refine wpAny_bind (tupleItemsOf_ ht ?_)
  refine wpAny_bind (wpAny_typeOf hTs ?_)
  rw [if_pos (by decide)]
  refine wpAny_bind (sliceApplied_back hs ps ?_)
  have hno : ¬ (((items.size : Int) - 1 == 0 && (-1 : Int) == 1 && items.size == items.size) = true) := by
    rw [show ((-1 : Int) == 1) = false by decide, Bool.and_false, Bool.false_and]
    exact Bool.false_ne_true
  show wpAny _ _ (if ((items.size : Int) - 1 == 0 && (-1 : Int) == 1 && items.size == items.size) = true then _ else _) _ _ s
  rw [if_neg hno, pick_back]
  first
    | exact wpAny_bind (m := Builtin.Tuple.tupleExact _) (wpAny_newObj_type (wpAny_pure ⟨_, rfl, wpAny_pure h⟩) htake)
    | exact wpAny_bind (m := Builtin.Tuple.tupleExact _) (wpAny_newObj_type (wpAny_bind (wpAny_pure (wpAny_pure ⟨_, rfl, wpAny_pure h⟩))) htake)
    | exact wpAny_bind (wpAny_bind (m := Builtin.Tuple.tupleExact _) (wpAny_newObj_type (wpAny_pure (wpAny_pure ⟨_, rfl, wpAny_pure h⟩)) htake))
    | exact wpAny_bind (wpAny_bind (m := Builtin.Tuple.tupleExact _) (wpAny_newObj_type (wpAny_pure ⟨_, rfl, wpAny_pure h⟩) htake))
end
end HT
namespace MM
open PySem PySem.Spec PyProof.Rows L2
section
variable {X : Cx} {c : Mc} {pos : Pos}
def tRevT (K : PySem.W.Frag) (te : TE) : TE := fun σ H Q => te σ H fun x H1 => ∃ a xs, x = .ref a ∧ SqT K H1 a xs ∧ ∀ p, H1 p = none → Q (.ref p) (upd H1 p (.tup xs.reverse))
theorem pe_revT {e : Expr} {te : TE} {k : Nat} {p1 p2 p3 pos : Pos} (he : PE X e te) : PE X (.Subscript e (.Slice none none (some (.UnaryOp .USub (.Constant (.int 1) k p1) p2)) p3) pos) (tRevT X.K te) := by
  refine ⟨fun pins s σ H Q I h => ?_⟩
  refine Subscript_ (thn (he.run pins s σ H _ I h) fun v s1 ⟨x, H1, I1, r1, q1⟩ => ?_)
  obtain ⟨a, xs, ex, hx, q⟩ := q1
  subst ex
  cases r1
  have hst : PO X (some (.UnaryOp .USub (.Constant (.int 1) k p1) p2)) (tPart (tUn (rU fun i => .int (-i)) (tC (.int 1)))) := po_some (pe_un un_neg pe_int)
  refine wpAny_Slice (thn (po_none.run pins s1 σ H1 (fun o H2 => o = none ∧ H2 = H1) I1 ⟨rfl, rfl⟩) fun vl s2 ⟨l, H2, I2, pl, el, e2⟩ => ?_)
  subst el e2
  refine thn (po_none.run pins s2 σ H2 (fun o H3 => o = none ∧ H3 = H2) I2 ⟨rfl, rfl⟩) fun vu s3 ⟨u, H3, I3, pu, eu, e3⟩ => ?_
  subst eu e3
  refine thn (hst.run pins s3 σ H3 (fun o H4 => o = some (-1) ∧ H4 = H3) I3 ⟨1, rfl, -1, rfl, rfl, rfl⟩) fun vs s4 ⟨o, H4, I4, ps, eo, e4⟩ => ?_
  subst eo e4
  have I5 : Inv X pins σ H4 { s4 with heap := s4.heap.push { cls := .type "slice", data := .fields #[vl, vu, vs] } } := I4.kept (t' := s4.toks) fun b ob q => Heap.get?_push_of_some _ q
  obtain ⟨its, r, ht, hz⟩ := I5.tuple hx
  have hlen := r.length
  cases pl
  cases pu
  show wpAny (model X.prog X.w) X.A (subscriptTail e (.Slice none none (some (.UnaryOp .USub (.Constant (.int 1) k p1) p2)) p3) (.ref a) (.ref s4.heap.objs.size)) (EP X pins σ Q) X.xe { s4 with heap := s4.heap.push { cls := .type "slice", data := .fields #[.none, .none, vs] } }
  refine tail_any (ops := [.ref a, .ref s4.heap.objs.size]) ht.typeIs (PyProof.Rows.slot_tuple_getitem.lookup) ?_ (by with_unfolding_all rfl)
  refine HT.getItem_tuple_back ht (Heap.IsSliceOf.new _ .none .none vs) ps ?_ (by rw [List.size_toArray]; omega)
  refine ⟨.ref _, _, I5.laid (t' := s4.toks) (o := .tup xs.reverse) (fun b ob q => Heap.get?_push_of_some _ q) (Nat.le_refl _) ?_, rfl, q _ (I5.hok.fresh (Nat.le_refl _))⟩
  exact ⟨by rw [List.length_reverse]; exact hz, its.reverse, r.reverse, _, Heap.get?_push_size _ rfl, rfl, 0, by simp⟩
def fRevT : PD → Option Opd
  | .tuple ds => some (.val (.tuple ds.reverse))
  | _ => none
theorem je_revT {e : Expr} {m : M Opd} {k : Nat} {p1 p2 p3 : Pos} (he : JE X c e m) : JE X c (.Subscript e (.Slice none none (some (.UnaryOp .USub (.Constant (.int 1) k p1) p2)) p3) pos) (mUn (lift1 fRevT) m) :=
  pe_imp (pe_revT he) fun σ H Q h => by
    obtain ⟨ε, S, h'⟩ := un_read σ H Q h
    refine ⟨ε, S, ?_⟩
    cases e : m ε with
    | stuck => rw [e] at h'; exact h'
    | exc C ε' => rw [e] at h'; exact h'
    | ok o ε1 =>
      rw [e] at h'
      intro v H1 t1 S1 r1 n1
      obtain ⟨ε2, σ2, o2, S2, r2, p⟩ := h' v H1 t1 S1 r1 n1
      unfold lift1 at p
      cases e1 : rdO ε2 o2 with
      | none => simp only [e1, Option.bind_none] at p; exact p.elim
      | some d1 =>
        have rd := r2.rd S2 e1
        cases d1 with
        | tuple ds =>
          simp only [e1, fRevT, Option.bind_some] at p
          obtain ⟨a, xs, rfl, ha, ra⟩ := rd.tup
          exact ⟨a, xs, rfl, ha, fun q hq => PostP.ntup (PostP.of S2 noVal p) ra.reverse hq⟩
        | _ => simp only [e1, fRevT, Option.bind_some] at p; exact p.elim
@[simp] theorem fRevT_t (ds : List PD) : fRevT (.tuple ds) = some (.val (.tuple ds.reverse)) := rfl
/-! ### max -/
def maxI : List Int → Option Int
  | [] => none
  | x :: xs => some (xs.foldl max x)
theorem foldl_max (x : Int) (xs : List Int) : (xs.foldl max x ∈ x :: xs) ∧ ∀ y ∈ x :: xs, y ≤ xs.foldl max x := by
  induction xs generalizing x with
  | nil => simp
  | cons z zs ih =>
    obtain ⟨h1, h2⟩ := ih (max x z)
    rw [List.foldl_cons]
    refine ⟨?_, fun y hy => ?_⟩
    · rcases List.mem_cons.mp h1 with e | h
      · rw [e]
        by_cases hxz : x ≤ z
        · rw [Int.max_eq_right hxz]; simp
        · rw [Int.max_eq_left (by omega)]; simp
      · exact List.mem_cons_of_mem _ (List.mem_cons_of_mem _ h)
    · have h3 := h2 (max x z) (List.mem_cons_self ..)
      rcases List.mem_cons.mp hy with e | hy
      · subst e; omega
      · rcases List.mem_cons.mp hy with e | hy
        · subst e; omega
        · exact h2 y (List.mem_cons_of_mem _ hy)
theorem maxI_eq {ns : List Int} {m : Int} (h1 : m ∈ ns) (h2 : ∀ y ∈ ns, y ≤ m) : maxI ns = some m := by
  cases ns with
  | nil => cases h1
  | cons x xs =>
    obtain ⟨h3, h4⟩ := foldl_max x xs
    show some _ = some m
    congr 1
    have := h4 m h1
    have := h2 _ h3
    omega
def fMaxL : List PD → Option Opd
  | [.list ds] => (intsOf ds).bind fun ns => (maxI ns).map fun m => .val (.int m)
  | _ => none
theorem c_maxL (hc : X.calm = true) : CallR X (.builtin "max") (cM X.K c (liftN fMaxL)) := by
  refine liftN_call (cr_max hc) fun xs ds o H Q L r e => ?_
  unfold fMaxL at e
  split at e
  · rename_i ds
    cases e1 : intsOf ds with
    | none => rw [e1] at e; cases e
    | some ns =>
      rw [e1, Option.bind_some] at e
      cases e2 : maxI ns with
      | none => rw [e2] at e; cases e
      | some m =>
        rw [e2] at e; cases e
        obtain ⟨x, rfl, q1⟩ := r.one
        obtain ⟨a, xs, rfl, ha, ra⟩ := q1.lst
        refine ⟨noVal, fun p => ⟨a, ns, rfl, by rw [← ints_ok e1 ra]; exact rd_sqL ha, ?_, fun z h1 h2 => ?_⟩⟩
        · cases ns with
          | nil => cases e2
          | cons x xs => simp
        · have := maxI_eq h1 h2
          rw [e2] at this
          cases this
          exact p.scal (.int _)
  · cases e
def rMaxT (K : PySem.W.Frag) : List V → Hp → VK → Prop := fun vs H Q => ∃ (a : Addr) (ns : List Int) (m : Int), vs = [V.ref a] ∧ SqT K H a (ns.map V.int) ∧ maxI ns = some m ∧ Q (.int m) H
theorem cr_maxT (hc : X.calm = true) (hu : X.A.units + 64 < cLine) : CallR X (.builtin "max") (rMaxT X.K) := by
  intro pins s σ H vs us Q I r h
  obtain ⟨a, ns, m, rfl, hs, hm, q⟩ := h
  obtain ⟨its, rv, hl, _⟩ := I.tuple hs
  rw [Vals.ref1 r]
  cases ns with
  | nil => cases hm
  | cons n ns =>
    cases hm
    obtain ⟨as, hr⟩ := Dp.readsAll I _ _ its (dp_ints (ns := n :: ns)) rv
    have hr : PySem.ReadsAll s.heap its.toArray.toList (PyData.int n :: ns.map PyData.int) as := by simpa using hr
    have hmem : ∀ x ∈ PyData.int n :: ns.map PyData.int, ∃ i, x = .int i := fun x hx => by
      rcases List.mem_cons.mp hx with e | hx
      · exact ⟨n, e⟩
      · obtain ⟨i, _, rfl⟩ := List.mem_map.mp hx
        exact ⟨i, rfl⟩
    have hd : PyData.depthAll (PyData.int n :: ns.map PyData.int) ≤ 0 := depthAll_le fun d hd => by
      obtain ⟨i, rfl⟩ := hmem d hd
      simp [PyData.depth]
    refine PySem.W.max_tuple_data (I.ok.hd hc) hl hr ⟨fun x hx y hy => ?_, fun x hx => ?_⟩ (by omega) fun i v h' tk bs hi hrd hk => ?_
    · obtain ⟨i, rfl⟩ := hmem x hx
      obtain ⟨j, rfl⟩ := hmem y hy
      simp [PySem.W.alike]
    · obtain ⟨i, rfl⟩ := hmem x hx
      exact fun z => by cases z
    · rw [PySem.W.maxD_ints] at hrd
      cases hrd
      exact ⟨.int _, H, I.kept hk, ⟨_, rfl⟩, q⟩
def fMaxT : List PD → Option Opd
  | [.tuple ds] => (intsOf ds).bind fun ns => (maxI ns).map fun m => .val (.int m)
  | _ => none
theorem c_maxT (hc : X.calm = true) (hu : X.A.units + 64 < cLine) : CallR X (.builtin "max") (cM X.K c (liftN fMaxT)) := by
  refine liftN_call (cr_maxT hc hu) fun xs ds o H Q L r e => ?_
  unfold fMaxT at e
  split at e
  · rename_i ds
    cases e1 : intsOf ds with
    | none => rw [e1] at e; cases e
    | some ns =>
      rw [e1, Option.bind_some] at e
      cases e2 : maxI ns with
      | none => rw [e2] at e; cases e
      | some m =>
        rw [e2] at e; cases e
        obtain ⟨x, rfl, q1⟩ := r.one
        obtain ⟨a, xs, rfl, ha, ra⟩ := q1.tup
        exact ⟨noVal, fun p => ⟨a, ns, m, rfl, by rw [← ints_ok e1 ra]; exact ha, e2, p.scal (.int _)⟩⟩
  · cases e
end
end MM

/-! ML20: zip of a list and a tuple. -/
namespace MM
open PySem PySem.Spec PyProof.Rows L2
theorem drawsTup {prog : Program} {w : World} {A : Around} (hh : A.handled = none) (it l : Addr) (hne : l ≠ it) (items : Array Value) :
    Draws prog w A it [it, l] items.size (fun i v => items[i]? = some v) (fun i h => h.IsTupleIter it l i ∧ h.IsTuple l items) where
  live := fun _ _ st => let ⟨o, ho, _⟩ := st.1; ⟨o, ho⟩
  frame := fun _ _ _ st hk => ⟨st.1.at fun o e => hk it (by simp) o e, st.2.at fun o e => hk l (by simp) o e⟩
  item := fun i s Q E hi st hQ => by
    refine RZ.nextOf_tuple_item st.1 st.2 (x := items[i]) (by simp [hi]) fun h' hit' hs' => ?_
    exact hQ _ h' s.toks (by simp [hi]) ⟨hit', st.2.extBut hs'.extBut hne⟩ hs'
  done := fun s Q E st hE => RZ.nextOf_tuple_end hh st.1 st.2 (by simp) hE
theorem sep2 {a b z TI TO i1 i2 : Addr} (D : ZipApart z TI TO i1 i2 a b) : ZipSep2 z TI TO i1 i2 [i1, a] [i2, b] where
  TIz := D.TIz
  TOz := D.TOz
  TITO := D.TITO
  TIi1 := D.TIi1
  mem1 := by simp
  zf1 := by simp [D.i1z.symm, D.l1z.symm]
  Tf1 := by simp [D.TOi1, D.l1TO.symm]
  TIi2 := D.TIi2
  mem2 := by simp
  zf2 := by simp [D.i2z.symm, D.l2z.symm]
  Tf2 := by simp [D.TOi2, D.l2TO.symm]
  sep1_2 := by simp [D.i12, D.l2i1.symm]
  sep2_1 := by simp [D.i12.symm, D.l1i2.symm]
/-- the list at a and the tuple at b as they stand at each turn, the items in new pairs -/
def ItzM (K : PySem.W.Frag) (a b : Addr) : It :=
  ⟨fun i H => ∃ (xs ys : List V) (x y : V), SqL K H a xs ∧ SqT K H b ys ∧ xs[i]? = some x ∧ ys[i]? = some y,
    fun i H v H' => ∃ T x y, v = .ref T ∧ H T = none ∧ H' = upd H T (.tup [x, y]) ∧ (∀ xs, SqL K H a xs → xs[i]? = some x) ∧ ∀ ys, SqT K H b ys → ys[i]? = some y,
    fun i H => ∃ xs ys : List V, SqL K H a xs ∧ SqT K H b ys ∧ i ≤ xs.length ∧ i ≤ ys.length ∧ (i = xs.length ∨ i = ys.length)⟩
theorem turn_zipM {P : Program} {w : World} {K : PySem.W.Frag} {elts : List Expr} {kk : Nat} {tpos : Pos} {a b z TI TO i1 i2 : Addr} (D : ZipApart z TI TO i1 i2 a b) :
    Turn P w K (.Tuple elts kk tpos) (ItzM K a b) [z, TI, TO, i1, i2] z (fun i h => IsZip h z TI TO .none ∧ IsPair h TI (.ref i1) (.ref i2) ∧ (∃ x y, IsPair h TO x y) ∧ h.IsListIter i1 a i ∧ h.IsTupleIter i2 b i) where
  mem := by simp
  obj := fun i h st c hc => by
    obtain ⟨hz, hTI, ⟨x, y, hTO⟩, ⟨o1, e1, _, d1⟩, ⟨o2, e2, _, d2⟩⟩ := st
    have e' : c = z ∨ c = TI ∨ c = TO ∨ c = i1 ∨ c = i2 := by simpa using hc
    rcases e' with q | q | q | q | q
    · rw [q]; exact ⟨_, hz, fun v q => nomatch q⟩
    · rw [q]; exact ⟨_, hTI, fun v q => nomatch q⟩
    · rw [q]; exact ⟨_, hTO, fun v q => nomatch q⟩
    · rw [q]; exact ⟨o1, e1, fun v q => by rw [d1] at q; cases q⟩
    · rw [q]; exact ⟨o2, e2, fun v q => by rw [d2] at q; cases q⟩
  keep := fun i h h' st k => by
    obtain ⟨hz, hTI, ⟨x, y, hTO⟩, h1, h2⟩ := st
    exact ⟨k z (by simp) _ hz, k TI (by simp) _ hTI, ⟨x, y, k TO (by simp) _ hTO⟩, h1.at fun o q => k i1 (by simp) o q, h2.at fun o q => k i2 (by simp) o q⟩
  item := by
    intro X hP hw hK hc i pins s σ H E I hf st hg
    subst hP hw hK
    obtain ⟨hz, hTI, ⟨x0, y0, hTO⟩, h1, h2⟩ := st
    obtain ⟨xs, ys, x, y, hqx, hqy, hx, hy⟩ := hg
    obtain ⟨its, rv, p, _⟩ := I.list hqx
    obtain ⟨its2, rv2, p2, _⟩ := I.tuple hqy
    obtain ⟨u, hu, ru⟩ := rv.get hx
    obtain ⟨u2, hu2, ru2⟩ := rv2.get hy
    have hzl : z < s.heap.objs.size := Heap.lt_size hz
    have hhd : X.A.in1.handled = none := I.ok.hd hc
    have hl1 : i < its.toArray.size := by
      have := (List.getElem?_eq_some_iff.mp hu).1
      simpa using this
    have hl2 : i < its2.toArray.size := by
      have := (List.getElem?_eq_some_iff.mp hu2).1
      simpa using this
    refine wpAny_pyNext_zipD2_item (sep2 D) (Draws.list hhd i1 a D.l1i1 its.toArray) (drawsTup hhd i2 b D.l2i2 its2.toArray) hz hTI hTO ⟨h1, p.isList⟩ ⟨h2, p2⟩ hl1 hl2 fun x1 x2 h' tk q1 q2 z' TO' st1 st2 hT hsz hk => ?_
    have e1 : x1 = u := by
      rw [List.getElem?_toArray, hu] at q1
      exact (Option.some.inj q1).symm
    have e2 : x2 = u2 := by
      rw [List.getElem?_toArray, hu2] at q2
      exact (Option.some.inj q2).symm
    subst e1 e2
    refine ⟨_, rfl, wpAny_letOwnedTupleGo_zip (s := { s with heap := h', toks := tk }) z' fun h'' z'' sb => ?_⟩
    have hT2 : h''.get? s.heap.objs.size = some { cls := .type "tuple", data := .seq #[x1, x2] } := (sb.2 _ (Nat.ne_of_gt hzl)).trans hT
    have new : ObjOk X.prog X.w (upd H s.heap.objs.size (.tup [x, y])) h'' s.heap.objs.size (.tup [x, y]) :=
      ⟨by show 2 ≤ sizeLine; decide, [x1, x2], .cons ru (.cons ru2 .nil), ⟨_, hT2, rfl, _, rfl⟩⟩
    have I1 : Inv X pins σ (upd H s.heap.objs.size (.tup [x, y])) { s with heap := h'', toks := tk } :=
      I.turnedNew (t' := tk) (ch := [z, TI, TO, i1, i2]) (fun c o hb q => (sb.2 c (fun q' => hb (by simp [q']))).trans (hk c o (fun q' => hb (by simp [q'])) (fun q' => hb (by simp [q'])) (fun q' => hb (by simp [q'])) (fun q' => hb (by simp [q'])) q)) hf (Nat.le_refl _) new
    refine ⟨.ref s.heap.objs.size, _, I1, rfl, ⟨_, x, y, rfl, I.hok.fresh (Nat.le_refl _), rfl, fun l hl => by rw [I.list_inj hl hqx]; exact hx, fun l hl => by rw [I.tuple_inj hl hqy]; exact hy⟩, ⟨z'', ?_, ⟨x1, x2, ?_⟩, ?_, ?_⟩, fun c hcm => ?_⟩
    · exact (sb.2 _ D.TIz).trans (hk _ _ D.TIz D.TITO D.TIi1 D.TIi2 hTI)
    · exact (sb.2 _ D.TOz).trans TO'
    · exact st1.1.at fun o q => (sb.2 _ D.i1z).trans q
    · exact st2.1.at fun o q => (sb.2 _ D.i2z).trans q
    · have hlt : c < s.heap.objs.size := by
        have e' : c = z ∨ c = TI ∨ c = TO ∨ c = i1 ∨ c = i2 := by simpa using hcm
        rcases e' with q | q | q | q | q
        · rw [q]; exact hzl
        · rw [q]; exact Heap.lt_size hTI
        · rw [q]; exact Heap.lt_size hTO
        · rw [q]; obtain ⟨_, e1, _⟩ := h1; exact Heap.lt_size e1
        · rw [q]; obtain ⟨_, e2, _⟩ := h2; exact Heap.lt_size e2
      rw [upd_ne (Nat.ne_of_lt hlt)]
      exact (hf c hcm).1
  done := by
    intro X hP hw hK hc i pins s σ H E I hf st hg
    subst hP hw hK
    obtain ⟨hz, hTI, ⟨x0, y0, hTO⟩, h1, h2⟩ := st
    obtain ⟨xs, ys, hqx, hqy, g1, g2, hend⟩ := hg
    obtain ⟨its, rv, p, _⟩ := I.list hqx
    obtain ⟨its2, rv2, p2, _⟩ := I.tuple hqy
    have l1 := rv.length
    have l2 := rv2.length
    have hhd : X.A.in1.handled = none := I.ok.hd hc
    have z1 : its.toArray.size = its.length := by simp
    have z2 : its2.toArray.size = its2.length := by simp
    refine wpAny_pyNext_zipD2_end (sep2 D) (Draws.list hhd i1 a D.l1i1 its.toArray) (drawsTup hhd i2 b D.l2i2 its2.toArray) hz hTI hTO ⟨h1, p.isList⟩ ⟨h2, p2⟩ (by omega) (by omega) (by omega) fun h' tk hk => ⟨rfl, I.turnedL (t' := tk) (ch := [z, TI, TO, i1, i2]) (fun c o hb q =>
      hk c o (fun q' => hb (by simp [q'])) (fun q' => hb (by simp [q'])) (fun q' => hb (by simp [q'])) (fun q' => hb (by simp [q'])) q) hf⟩
  self := fun A i s Q E st h => wpAny_pyIter_zip st.1 h
def iZipM (K : PySem.W.Frag) (ta : TA) : TI := fun σ H R => ta σ H fun vs H1 => ∃ a b xs ys, vs = [.ref a, .ref b] ∧ SqL K H1 a xs ∧ SqT K H1 b ys ∧ R (ItzM K a b) H1
theorem pi_zipM {X : Cx} {e e2 : Expr} {ta : TA} {p pos tpos : Pos} {elts : List Expr} {kk : Nat} (hg : Gl X "zip") (hm : X.mg "zip" = none) (ha : PA X [e, e2] ta)
    (hs : starEach [e, e2] X.env = (false, eval e X.env) :: starEach [e2] X.env := by rfl) (hpl : (backTo pos (starEach [e2] X.env)).any (·.1) = false := by rfl) :
    PI X (.Tuple elts kk tpos) (.Call (.Name "zip" p) [e, e2] [] pos) (iZipM X.K ta) := by
  refine ⟨fun pins s σ H R I h => ?_⟩
  refine Call_ (ld_blt I hg hm PyProof.Rows.boot_zip (PyProof.Rows.callWith_type1 (thn (ha.run pos pins s σ H _ I h) fun us s1 ⟨vs, H1, I1, r1, q1⟩ => ?_) hs hpl))
  obtain ⟨a, b, xs, ys, ex, hqx, hqy, q⟩ := q1
  subst ex
  cases r1 with
  | cons r rr =>
    cases rr with
    | cons r' rr =>
      cases rr
      cases r
      cases r'
      have fresh5 : ∀ c, c ∈ [s1.heap.objs.size + 4, s1.heap.objs.size + 2, s1.heap.objs.size + 3, s1.heap.objs.size, s1.heap.objs.size + 1] → FpOk X pins H1 c := fun c hcm => by
        have e' : c = s1.heap.objs.size + 4 ∨ c = s1.heap.objs.size + 2 ∨ c = s1.heap.objs.size + 3 ∨ c = s1.heap.objs.size ∨ c = s1.heap.objs.size + 1 := by simpa using hcm
        have hle : s1.heap.objs.size ≤ c := by
          rcases e' with z | z | z | z | z
          · rw [z]; exact Nat.le_add_right _ _
          · rw [z]; exact Nat.le_add_right _ _
          · rw [z]; exact Nat.le_add_right _ _
          · rw [z]; exact Nat.le_refl _
          · rw [z]; exact Nat.le_add_right _ _
        exact I1.fpOk hle (I1.hok.fresh hle)
      obtain ⟨its, rv, p1, _⟩ := I1.list hqx
      obtain ⟨its2, rv2, p2, _⟩ := I1.tuple hqy
      obtain ⟨o2, ho2, _⟩ := id p2
      refine zip_begins2 (begins_list a its.toArray) (begins_tuple b its2.toArray) p1.isList p2 fun h' hz hTI hTO h1 h2 hsz hk => wpAny_pyIter_zip hz ?_
      have I2 : Inv X pins σ H1 { s1 with heap := h' } := I1.kept (t' := s1.toks) hk
      exact ⟨s1.heap.objs.size + 4, [s1.heap.objs.size + 4, s1.heap.objs.size + 2, s1.heap.objs.size + 3, s1.heap.objs.size, s1.heap.objs.size + 1], _, _, H1, rfl, I2, turn_zipM (PySem.W.ktu_apart s1.heap.objs.size a b p1.lt (Heap.lt_size ho2)), ⟨hz, hTI, ⟨_, _, hTO⟩, ⟨_, h1, rfl, rfl⟩, ⟨_, h2, rfl, rfl⟩⟩, fresh5, q⟩
def zipM : List PD → Option (List PD)
  | [.list ds, .tuple es] => some (zipD ds es)
  | _ => none
theorem walk_zipM {K : PySem.W.Frag} {a b : Addr} {xs ys : List V} {n : Nat} (hn : n = min xs.length ys.length) : Walk (ItzM K a b) n (fun H => SqL K H a xs ∧ SqT K H b ys) (YPair (fun i => xs[i]?) (fun i => ys[i]?)) := by
  refine ⟨fun i H hi q => ?_, fun H q => ?_, fun i H x H' hi q y => ?_⟩
  · have h1 : i < xs.length := by omega
    have h2 : i < ys.length := by omega
    exact ⟨xs, ys, xs[i], ys[i], q.1, q.2, by simp [h1], by simp [h2]⟩
  · exact ⟨xs, ys, q.1, q.2, by omega, by omega, by omega⟩
  · obtain ⟨T, u, v, e1, hT, e2, h1, h2⟩ := y
    exact ⟨T, u, v, e1, hT, e2, h1 xs q.1, h2 ys q.2⟩
section
variable {X : Cx} {c : Mc} {p pos tpos : Pos}
theorem ji_zipM {e e2 : Expr} {m : M (List PD)} {elts : List Expr} {kk : Nat} (hg : Gl X "zip") (hm : X.mg "zip" = none) (ha : JA X c [e, e2] m)
    (hs : starEach [e, e2] X.env = (false, eval e X.env) :: starEach [e2] X.env := by rfl) (hpl : (backTo pos (starEach [e2] X.env)).any (·.1) = false := by rfl) :
    JI X c (.Tuple elts kk tpos) (.Call (.Name "zip" p) [e, e2] [] pos) (iRow zipM m) :=
  pi_imp (pi_zipM hg hm ha hs hpl) fun σ H R h => row_it h fun ds vs xs H1 r e q => by
    unfold zipM at e
    split at e
    · cases e
      cases r with
      | cons r1 rt => cases rt with
        | cons r2 rt =>
          cases rt
          cases r1 with
          | lst hs ha => cases r2 with
            | tup hs2 ha2 => exact ⟨_, _, _, _, rfl, .inl hs.rd, hs2, q _ (itd_pair (fun hn => walk_zipM hn) (fun H2 m => ⟨.inl (hs.im m).rd, sqT_im m hs2⟩) ha ha2)⟩
    · cases e
end
end MM

/-! ML21: own dicts with whole numbers as keys: {}, dict(own), own[k] = v. -/
namespace MM
open PySem PySem.Spec PyProof.Rows L2
section
variable {X : Cx} {c : Mc} {pos : Pos}
def mNewK : M Opd := fun ε => .ok (.new (.dk [])) ε
theorem je_knew : JE X c (.Dict [] [] pos) mNewK := pe_imp pe_dnewK fun σ H Q ⟨ε, S, h⟩ p hp => by
  have pp := PostP.of S noNew h
  exact DkR.new pp .nil hp
/-- dict(own): a copy -/
def gCopyK : List Opd → M Opd
  | [.own k] => fun ε => match dkAt ε k with
    | some kvs => .ok (.new (.dk kvs)) ε
    | none => .stuck
  | _ => fun _ => .stuck
theorem c_copyK : CallR X (.type "dict") (cM X.K c gCopyK) := by
  refine call_imp call_dictD fun xs H Q L ⟨ε, σ, os, S, r1, p⟩ => ?_
  unfold gCopyK at p
  split at p
  · rename_i k
    cases r1 with
    | cons r rt =>
      cases rt
      cases e : dkAt ε k with
      | none => simp only [e] at p; exact p.elim
      | some kvs =>
        simp only [e] at p
        obtain ⟨a, ys, h1, h2, h3⟩ := S.dk e
        have r : σ[k]? = some (some _) := r
        rw [h1] at r
        cases r
        exact ⟨a, ys, rfl, .inl h2, fun q hq => DkR.new (PostP.of S noNew p) h3 hq⟩
  · exact p.elim
theorem SR.setK {K : PySem.W.Frag} {ε : En} {σ : L2.St} {H : Hp} {i : Nat} {a : Addr} {xs xs' : List (Key × V)} {kvs kvs' : List (Int × PD)} (S : SR K c ε σ H) (e : ε[i]? = some (.ow (.dk kvs)) ∨ ε[i]? = some (.io (.dk kvs))) (h1 : σ[i]? = some (some (.ref a))) (h2 : H a = some (.dK xs))
    (r : ∀ H', Im H H' → DkR K H' xs' kvs') : SR K c (setOb ε i (.dk kvs')) σ (upd H a (.dK xs')) ∧ Step ε σ H (setOb ε i (.dk kvs')) σ (upd H a (.dK xs')) := by
  have im : Im H (upd H a (.dK xs')) := fun b o e z => by
    rw [upd_ne (fun w => by subst w; rw [h2] at e; cases e; cases z)]; exact e
  have k1 : ∀ b u, H b = some u → ¬ b = a → upd H a (.dK xs') b = some u := fun b u e z => by rw [upd_ne z]; exact e
  have k2 : ∀ b u, H b = some u → upd H a (.dK xs') b ≠ none := fun b u e z => by
    by_cases w : b = a
    · subst w; rw [upd_same] at z; cases z
    · rw [upd_ne w, e] at z; cases z
  rcases e with e | e
  · have eo : setOb ε i (.dk kvs') = ε.set i (.ow (.dk kvs')) := by rw [setOb, e]
    rw [eo]
    exact S.chg e h1 (fun b u e z => k1 b u e fun w => z (by rw [w]; rfl)) k2 ⟨a, xs', rfl, upd_same, r _ im⟩ (fun b z => z) (fun o z => nomatch z)
  · have eo : setOb ε i (.dk kvs') = ε.set i (.io (.dk kvs')) := by rw [setOb, e]
    rw [eo]
    exact S.chg e h1 (fun b u e z => k1 b u e fun w => z (by rw [w]; rfl)) k2 ⟨a, xs', rfl, upd_same, r _ im⟩ (fun b z => z) (fun o z => ⟨_, rfl⟩)
/-- own[k] = v -/
def sDSet (i : Nat) (mk mv : M PD) : M Fl := fun ε => (mv ε).bind fun e ε1 => match dkAt ε1 i with
  | none => .stuck
  | some _ => (mk ε1).bind fun d ε2 => match d with
    | .int k => match dkAt ε2 i with
      | none => .stuck
      | some kvs => if kvs.length < big then .ok .nx (setOb ε2 i (.dk (dkPut kvs k e))) else .stuck
    | _ => .stuck
theorem js_dset {i : Nat} {o ix e : Expr} {mk mv : M PD} {p2 : Pos} (hu : X.A.units + 64 < cLine) (ho : PE X o (tVar i)) (hi : JV X c ix mk) (he : JV X c e mv) (hs : swapsWith e (some (.Subscript o ix p2)) pos.line X.env = pure false := by rfl) : JS X c (.Assign [.Subscript o ix p2] e pos) (sDSet i mk mv) :=
  ps_imp (ps_dput (by omega) ho hi he hs) fun D σ H ⟨ε, S, h⟩ => ⟨ε, S, val_then h fun d ε1 v H1 _ t1 S1 rd p => by
    cases e0 : dkAt ε1 i with
    | none => simp only [e0] at p; exact p.elim
    | some ds0 =>
      simp only [e0] at p
      obtain ⟨a, xs, h1, h2, h3⟩ := S1.dk e0
      refine ⟨_, h1, ε1, S1, ?_⟩
      cases e1 : mk ε1 with
      | stuck => rw [e1] at p; exact p
      | exc C ε' => rw [e1] at p; exact fun H' a b => p σ H' a b
      | ok dk ε2 =>
        rw [e1, Out.bind_ok] at p
        intro u H2 t2 S2 r2
        split at p
        · rename_i k
          cases r2
          cases e2 : dkAt ε2 i with
          | none => simp only [e2] at p; exact p.elim
          | some kvs =>
            simp only [e2] at p
            obtain ⟨a', ys, g1, g2, g3⟩ := S2.dk e2
            have ea : some (some (V.ref a)) = some (some (V.ref a')) := h1.symm.trans g1
            cases ea
            split at p
            · rename_i hl
              have hlen : ys.length = kvs.length := Paired.length g3
              have hz : ys.length < sizeLine := by
                have h3 : kvs.length + 1 ≤ big := hl
                have := big_line (n := kvs.length + 1) h3
                omega
              refine ⟨a, _, rfl, DPut.k (k := .inl k) g2 hz, ?_⟩
              obtain ⟨S3, t3⟩ := S2.setK (xs' := putK ys (.inl k) v) (kvs' := dkPut kvs k d) (dkAt_at e2) g1 g2 (fun H' im => dk_put (g3.im im) k (Rp.im im _ _ (Rp.im (S1.im t2) _ _ rd)))
              exact p _ _ (t2.trans t3) S3
            · exact p.elim
        · exact p.elim⟩
@[simp] theorem mNewK_ap (ε : En) : mNewK ε = .ok (.new (.dk [])) ε := rfl
@[simp] theorem gCopyK_ap (k : Nat) (ε : En) : gCopyK [.own k] ε = (match dkAt ε k with
    | some kvs => .ok (.new (.dk kvs)) ε
    | none => .stuck) := rfl
@[simp] theorem sDSet_ap (i : Nat) (mk mv : M PD) (ε : En) : sDSet i mk mv ε = ((mv ε).bind fun e ε1 => match dkAt ε1 i with
  | none => .stuck
  | some _ => (mk ε1).bind fun d ε2 => match d with
    | .int k => match dkAt ε2 i with
      | none => .stuck
      | some kvs => if kvs.length < big then .ok .nx (setOb ε2 i (.dk (dkPut kvs k e))) else .stuck
    | _ => .stuck) := rfl
end
end MM

/-! ML22: {x for .. in .. for .. in ..} of whole numbers, its length. -/
namespace MM
open PySem PySem.Spec PyProof.Rows L2
section
variable {X : Cx}
theorem addI_ok {pins : List (Addr × Obj)} {σ : L2.St} {H : Hp} {s : Shared} {E : Value → Shared → Prop} {D : Addr} {S : Int → Bool} {n : Nat} {y : Int} {tk : Tok} {Q : Value → Shared → Prop} (I : Inv X pins σ H s) (hD : H D = some (SetO X.w D S n)) (room : n + 1 < scanBound)
    (h : ∀ s', Inv X pins σ (upd H D (SetO X.w D (fun j => S j || decide (j = y)) (if S y = true then n else n + 1))) s' → Q .none s') : wpAny (model X.prog X.w) X.A (call (.builtin "set.add") [.ref D, .int y tk]) Q E s := by
  have R := setO_get I hD
  refine setR_add R room fun h' sb new => ?_
  have he : ∃ u, h'.get? D = some u := by
    have ⟨o, _, _, _, ho, _⟩ := new
    exact ⟨o, ho⟩
  exact h _ (I.write (e := D) (t' := s.toks + 1) (by rw [hD]; trivial) (.inl rfl) (fun b u hb hu => (sb.2 b hb).trans hu) he (setO_new new))
end
section
variable {prog : Program} {w : World} {A : Around} {R : Result → Shared → Prop} {s : Shared} {elt t0 i0 t1 i1 : Expr} {ifs0 ifs1 : List Expr} {scope : Scope} {pos : Pos} {it acc : Value} {env : Env}
/-- the loop of the first clause -/
theorem scLoop_out (hs : ∀ x, foldedSetIterable i1 env x = pure x) (I : Nat → Shared → Prop)
    (turn : ∀ n s, I n s → wpAny (model prog w) A (pyNext it) (fun r s₁ => match r with
      | none => R (.ok .next) s₁
      | some v => wpAny (model prog w) A (letOwnedTupleGo t0 it v) (fun _ s₁' => wpAny (model prog w) A (assign t0 env v) (fun _ s₂ =>
          wpAny (model prog w) A (forIn ifs0 true fun c r => if r = true then do let ok ← isTrue c env (eval c env); pure (ForInStep.yield ok) else pure (ForInStep.yield r)) (fun ok s₃ =>
            if ok = true then wpAny (model prog w) A (eval i1 env) (fun x s₄ => wpAny (model prog w) A (pyIter x) (fun it1 s₅ =>
              codeAny (model prog w) A (.compStart (.SetComp elt [⟨t0, i0, ifs0, 0⟩, ⟨t1, i1, ifs1, 0⟩] scope pos) 1 it1 acc env) (fun r s' => match r with
                | .ok _ => ∃ m, m < n ∧ I m s'
                | .error _ => False) s₅) (notedBy (model prog w) A env fun e s' => R (.error e) s') s₄) (notedBy (model prog w) A env fun e s' => R (.error e) s') s₃
            else ∃ m, m < n ∧ I m s₃) (notedBy (model prog w) A env fun e s' => R (.error e) s') s₂) (notedBy (model prog w) A env fun e s' => R (.error e) s') s₁') (notedBy (model prog w) A env fun e s' => R (.error e) s') s₁) (notedBy (model prog w) A env fun e s' => R (.error e) s') s)
    (n : Nat) (h : I n s) :
    codeAny (model prog w) A (.compLoop (.SetComp elt [⟨t0, i0, ifs0, 0⟩, ⟨t1, i1, ifs1, 0⟩] scope pos) 0 it acc env) R s := by
  refine codeAny_loop rfl I (fun n s hI => ?_) n h
  show wpAny _ A ((compTurn (.SetComp elt [⟨t0, i0, ifs0, 0⟩, ⟨t1, i1, ifs1, 0⟩] scope pos) 0 it acc env).onRaise (fun x => do noteFrame x env; theTreesLotGoes x)) _ _ s
  refine wpAny_noted ?_
  show wpAny _ _ (standAt i0.pos >>= _) _ _ s
  refine wpAny_bind (wpAny_standAt (wpAny_bind (wpAny_mono (turn n s hI) (fun r s₁ h₁ => ?_) fun _ _ h' => h')))
  cases r with
  | none => exact wpAny_pure h₁
  | some v =>
    refine wpAny_bind (wpAny_mono h₁ (fun _ s₁' h₁' => ?_) fun _ _ h' => h')
    refine wpAny_bind (wpAny_mono h₁' (fun _ s₂ h₂ => wpAny_bind (wpAny_mono h₂ (fun ok s₃ h₃ => ?_) fun _ _ h' => h')) fun _ _ h' => h')
    cases ok with
    | false => exact wpAny_pure ⟨rfl, h₃⟩
    | true =>
      refine wpAny_bind (wpAny_mono h₃ (fun x s₄ h₄ => ?_) fun _ _ h' => h')
      refine wpAny_bind (wpAny_standAt (wpAny_bind (wpAny_of_eq (hs x) (wpAny_bind (wpAny_holding (wpAny_mono h₄ (fun it1 s₅ h₅ => ?_) fun _ _ h' => h'))))))
      refine wpAny_bind (wpAny_runOwn ?_)
      rw [Around.mark_none]
      refine codeAny_mono h₅ fun r s' hr => ?_
      cases r with
      | ok f =>
        first
          | exact wpAny_pure ⟨rfl, hr⟩
          | exact wpAny_bind (wpAny_pure (wpAny_pure ⟨rfl, hr⟩))
      | error e => exact hr.elim
/-- the loop of the second -/
theorem scLoop_in (I : Nat → Shared → Prop)
    (turn : ∀ n s, I n s → wpAny (model prog w) A (pyNext it) (fun r s₁ => match r with
      | none => R (.ok .next) s₁
      | some v => wpAny (model prog w) A (letOwnedTupleGo t1 it v) (fun _ s₁' => wpAny (model prog w) A (assign t1 env v) (fun _ s₂ =>
          wpAny (model prog w) A (forIn ifs1 true fun c r => if r = true then do let ok ← isTrue c env (eval c env); pure (ForInStep.yield ok) else pure (ForInStep.yield r)) (fun ok s₃ =>
            if ok = true then wpAny (model prog w) A (eval elt env) (fun x s₄ =>
              wpAny (model prog w) A (call (.builtin "set.add") [acc, x]) (fun _ s₅ => ∃ m, m < n ∧ I m s₅) (notedBy (model prog w) A env fun e s' => R (.error e) s') s₄) (notedBy (model prog w) A env fun e s' => R (.error e) s') s₃
            else ∃ m, m < n ∧ I m s₃) (notedBy (model prog w) A env fun e s' => R (.error e) s') s₂) (notedBy (model prog w) A env fun e s' => R (.error e) s') s₁') (notedBy (model prog w) A env fun e s' => R (.error e) s') s₁) (notedBy (model prog w) A env fun e s' => R (.error e) s') s)
    (n : Nat) (h : I n s) :
    codeAny (model prog w) A (.compLoop (.SetComp elt [⟨t0, i0, ifs0, 0⟩, ⟨t1, i1, ifs1, 0⟩] scope pos) 1 it acc env) R s := by
  refine codeAny_loop rfl I (fun n s hI => ?_) n h
  show wpAny _ A ((compTurn (.SetComp elt [⟨t0, i0, ifs0, 0⟩, ⟨t1, i1, ifs1, 0⟩] scope pos) 1 it acc env).onRaise (fun x => do noteFrame x env; theTreesLotGoes x)) _ _ s
  refine wpAny_noted ?_
  show wpAny _ _ (standAt i1.pos >>= _) _ _ s
  refine wpAny_bind (wpAny_standAt (wpAny_bind (wpAny_mono (turn n s hI) (fun r s₁ h₁ => ?_) fun _ _ h' => h')))
  cases r with
  | none => exact wpAny_pure h₁
  | some v =>
    refine wpAny_bind (wpAny_mono h₁ (fun _ s₁' h₁' => ?_) fun _ _ h' => h')
    refine wpAny_bind (wpAny_mono h₁' (fun _ s₂ h₂ => wpAny_bind (wpAny_mono h₂ (fun ok s₃ h₃ => ?_) fun _ _ h' => h')) fun _ _ h' => h')
    cases ok with
    | false => exact wpAny_pure ⟨rfl, h₃⟩
    | true =>
      exact wpAny_bind (wpAny_bind (wpAny_mono h₃ (fun x s₄ h₄ => wpAny_bind (wpAny_standAt (wpAny_bind (wpAny_mono h₄ (fun _ s₅ h₅ => wpAny_pure (wpAny_pure ⟨rfl, h₅⟩)) fun _ _ h' => h')))) fun _ _ h' => h'))
/-- the second clause's start -/
theorem scStart1_ok (h0 : codeAny (model prog w) A (.compLoop (.SetComp elt [⟨t0, i0, ifs0, 0⟩, ⟨t1, i1, ifs1, 0⟩] scope pos) 1 it acc env) R s)
    (h : wpAny (model prog w) A (pyIter it) (fun it' s' => codeAny (model prog w) A (.compLoop (.SetComp elt [⟨t0, i0, ifs0, 0⟩, ⟨t1, i1, ifs1, 0⟩] scope pos) 1 it' acc env) R s')
      (notedBy (model prog w) A env fun x s' => R (.error x) s') s) :
    codeAny (model prog w) A (.compStart (.SetComp elt [⟨t0, i0, ifs0, 0⟩, ⟨t1, i1, ifs1, 0⟩] scope pos) 1 it acc env) R s := by
  refine codeAny_of_tree ?_
  show wpAny _ _ ((compStart (.SetComp elt [⟨t0, i0, ifs0, 0⟩, ⟨t1, i1, ifs1, 0⟩] scope pos) 1 it acc env).onRaise (fun x => do noteFrame x env; standAt theWindowsPlace)) _ _ s
  refine wpAny_notedAt ?_
  unfold compStart
  show wpAny _ _ (ask >>= _) _ _ s
  refine wpAny_bind (wpAny_askSetting (wpAny_ite ?_))
  split
  · first
      | exact wpAny_bind (wpAny_pure (wpAny_pure (And.intro rfl h0)))
      | exact wpAny_pure (And.intro rfl h0)
  · first
      | exact wpAny_bind (wpAny_rule (wpAny_bind (wpAny_standAt (wpAny_bind (wpAny_mono h (fun it' s' h' => wpAny_pure (And.intro rfl h')) fun _ _ x => x)))))
      | (refine wpAny_bind (wpAny_rule ?_); show wpAny _ _ (standAt i1.pos >>= _) _ _ s; exact wpAny_bind (wpAny_standAt (wpAny_bind (wpAny_mono h (fun it' s' h' => wpAny_pure (And.intro rfl h')) fun _ _ x => x))))
end

section
variable {X : Cx}
/-- [elt for tg in iter if .. for tg1 in iter1 if ..]: behind the first clause's store and tests the second source's own loop, from which Nx is reached. vs: the block's names; vs1: those of the second target -/
def tSc2 (w : World) (wi : TI) (g : TG) (tt : TT) (wi1 : TI) (g1 : TG) (tt1 : TT) (te : TE) (vs vs1 : List Nat) : TE := fun σ H Q => wi σ H fun J H1 => ∀ D, H1 D = none → ∃ W : Nat → Nat → Hp → Prop, (∃ m, W 0 m (upd H1 D (SetO w D (fun _ => false) 0))) ∧ ∀ i m H, W i m H →
  (J.stop i H ∧ Q (.ref D) H) ∨ (J.go i H ∧ ∃ Nx : Hp → Prop, (∀ H', Nx H' → ∃ m', m' < m ∧ W (i + 1) m' H') ∧ ∀ x H', J.yld i H x H' → g x (wipe σ vs) H' fun σ2 H2 => wipe σ2 vs = wipe σ vs ∧ tt σ2 H2 fun b H3 =>
    if b = true then wi1 σ2 H3 fun J1 H4 => ∃ W1 : Nat → Nat → Hp → Prop, (∃ m, W1 0 m H4) ∧ ∀ j k H, W1 j k H →
      (J1.stop j H ∧ Nx H) ∨ (J1.go j H ∧ ∃ Nx1 : Hp → Prop, (∀ H', Nx1 H' → ∃ k', k' < k ∧ W1 (j + 1) k' H') ∧ ∀ x H', J1.yld j H x H' → g1 x (wipe σ2 vs1) H' fun σ3 H5 => wipe σ3 vs1 = wipe σ2 vs1 ∧ tt1 σ3 H5 fun b H6 =>
        if b = true then te σ3 H6 fun y H7 => ∃ (cc : Int) (S : Int → Bool) (n : Nat), y = .int cc ∧ H7 D = some (SetO w D S n) ∧ n + 1 < scanBound ∧ Nx1 (upd H7 D (SetO w D (fun j => S j || decide (j = cc)) (if S cc = true then n else n + 1))) else Nx1 H6)
    else Nx H3)
theorem sc2_core {pins : List (Addr × Obj)} {s : Shared} {σ : L2.St} {H : Hp} {Q : VK} {elt tg iter tg1 iter1 : Expr} {ifs ifs1 : List Expr} {scope : Scope} {own : List (Str × Nat)} {vs1 : List Nat} {pos pos' : Pos} {wi wi1 : TI} {g g1 : TG} {tt tt1 : TT} {te : TE} {use : Option (Value → Sem Unit)} {Qf : Value → Shared → Prop}
    (hc : X.calm = true) (hN : X.N.Nodup) (I : Inv X pins σ H s) (hi : PI X tg iter wi) (ok : BlkOk X.N X.env.scope scope own) (hv : ∀ i ∈ vs1, i ∈ own.map (·.2))
    (hg : ∀ (s : Shared) (H : Hp) (C : Addr) (cl : List (Str × Addr)) (fp : List Addr), PG (X.blk s H scope (compEnvC scope cl C X.env) fp) tg g) (ht : ∀ (s : Shared) (H : Hp) (C : Addr) (cl : List (Str × Addr)) (fp : List Addr), PTs (X.blk s H scope (compEnvC scope cl C X.env) fp) ifs tt)
    (he : ∀ (s : Shared) (H : Hp) (C : Addr) (cl : List (Str × Addr)) (fp : List Addr), PE (X.blk s H scope (compEnvC scope cl C X.env) fp) elt te) (hs : ∀ x, foldedSetIterable iter X.env x = pure x)
    (hi1 : ∀ (s : Shared) (H : Hp) (C : Addr) (cl : List (Str × Addr)) (fp : List Addr), PI (X.blk s H scope (compEnvC scope cl C X.env) fp) tg1 iter1 wi1)
    (hg1 : ∀ (s : Shared) (H : Hp) (C : Addr) (cl : List (Str × Addr)) (fp : List Addr), PG (X.blk s H scope (compEnvC scope cl C X.env) fp) tg1 g1)
    (ht1 : ∀ (s : Shared) (H : Hp) (C : Addr) (cl : List (Str × Addr)) (fp : List Addr), PTs (X.blk s H scope (compEnvC scope cl C X.env) fp) ifs1 tt1)
    (hs1 : ∀ env x, foldedSetIterable iter1 env x = pure x)
    (h : tSc2 X.w wi g tt wi1 g1 tt1 te (own.map (·.2)) vs1 σ H Q)
    (hRR : ∀ D C s' m H', Inv X pins σ H' s' → Q (.ref D) H' → s'.heap.Ns C m → FpOk X pins H' C → compPost (model X.prog X.w) X.A X.xe use Qf (.ref D) C (.ok .next) s') :
    wpAny (model X.prog X.w) X.A (comprehension (.SetComp elt [⟨tg, iter, ifs, 0⟩, ⟨tg1, iter1, ifs1, 0⟩] scope pos) scope X.env pos' (newSet (.type "set")) false (eval iter X.env) use) Qf X.xe s := by
  have hfree : ∀ y ∈ scope.names, y.2 = .free → ∃ c, X.env.cells.lookup y.1 = some c := fun y hy e => by
    rcases ok.free y hy e with k | k
    · exact I.ok.has _ (.inl k)
    · exact I.ok.has _ (.inr k)
  refine wpAny_comprehension_free (use := use) rfl hs (closure_ok hfree) ok.kind (fun y hy e => by rw [ok.uniq y hy, e])
    (thn (hi.run pins s σ H _ I h) fun xv s1 hx => thn hx fun itv s2 h2 => ?_)
  obtain ⟨it, fp, tn, J, H2, e, I2, T, st2, f2, q⟩ := h2
  subst e
  refine PpSet.newSet_ok (newEnv_comp ?_)
  generalize hD : s2.heap.objs.size = D
  have hDn : H2 D = none := I2.hok.fresh (Nat.le_of_eq hD)
  obtain ⟨W, ⟨m0, w0⟩, turn⟩ := q D hDn
  -- the new list
  generalize hs3 : ({ s2 with heap := s2.heap.push { cls := .type "set", dict := none, data := .set #[] 0 (.fresh 0 0 (!X.w.params.followText "set-order")) } } : Shared) = s3
  have I3 : Inv X pins σ (upd H2 D (SetO X.w D (fun _ => false) 0)) s3 := by
    rw [← hs3]
    refine I2.laid (t' := s2.toks) (fun b o e => Heap.get?_push_of_some _ e) (Nat.le_of_eq hD) ?_
    rw [← hD]
    exact setO_new (setR_fresh X.w)
  have h3 : s3.heap = s2.heap.push { cls := .type "set", dict := none, data := .set #[] 0 (.fresh 0 0 (!X.w.params.followText "set-order")) } := by rw [← hs3]
  have sz : ∀ b ∈ fp, b < s2.heap.objs.size := fun b hb => by
    obtain ⟨o, e, _⟩ := T.obj _ _ st2 b hb
    exact Heap.lt_size e
  have f3 : ∀ b ∈ fp, FpOk X pins (upd H2 D (SetO X.w D (fun _ => false) 0)) b ∧ b < s3.heap.objs.size := fun b hb => by
    have hlt := sz b hb
    refine ⟨⟨?_, (f2 b hb).2⟩, by rw [h3, Heap.size_push]; exact Nat.lt_succ_of_lt hlt⟩
    rw [upd_ne (by rw [← hD]; exact Nat.ne_of_lt hlt)]
    exact (f2 b hb).1
  have st3 : tn 0 s3.heap := T.keep _ _ _ st2 fun b _ o e => by rw [h3]; exact Heap.get?_push_of_some _ e
  have I4 := block_start I3 ok hN f3
  have pg := hg s3 (upd H2 D (SetO X.w D (fun _ => false) 0)) s3.heap.objs.size (cellsFrom (s3.heap.objs.size + 1) scope.names (cloFrom X.env.cells scope.names [])) fp
  have pt := ht s3 (upd H2 D (SetO X.w D (fun _ => false) 0)) s3.heap.objs.size (cellsFrom (s3.heap.objs.size + 1) scope.names (cloFrom X.env.cells scope.names [])) fp
  have pe := he s3 (upd H2 D (SetO X.w D (fun _ => false) 0)) s3.heap.objs.size (cellsFrom (s3.heap.objs.size + 1) scope.names (cloFrom X.env.cells scope.names [])) fp
  have pi1 := hi1 s3 (upd H2 D (SetO X.w D (fun _ => false) 0)) s3.heap.objs.size (cellsFrom (s3.heap.objs.size + 1) scope.names (cloFrom X.env.cells scope.names [])) fp
  have pg1 := hg1 s3 (upd H2 D (SetO X.w D (fun _ => false) 0)) s3.heap.objs.size (cellsFrom (s3.heap.objs.size + 1) scope.names (cloFrom X.env.cells scope.names [])) fp
  have pt1 := ht1 s3 (upd H2 D (SetO X.w D (fun _ => false) 0)) s3.heap.objs.size (cellsFrom (s3.heap.objs.size + 1) scope.names (cloFrom X.env.cells scope.names [])) fp
  show codeAny _ _ (.compStart (.SetComp elt [⟨tg, iter, ifs, 0⟩, ⟨tg1, iter1, ifs1, 0⟩] scope pos) 0 (.ref it) (.ref D) (compEnvC scope (cellsFrom (s3.heap.objs.size + 1) scope.names (cloFrom X.env.cells scope.names [])) s3.heap.objs.size X.env)) (compPost (model X.prog X.w) X.A X.xe use Qf (.ref D) s3.heap.objs.size) { s3 with heap := pushCells (s3.heap.push { cls := .type "dict", data := .dict #[] }) scope.names }
  have nfp : ∀ b ∈ fp, (upd H2 D (SetO X.w D (fun _ => false) 0)) b = none := fun b hb => (f3 b hb).1.1
  generalize hce : compEnvC scope (cellsFrom (s3.heap.objs.size + 1) scope.names (cloFrom X.env.cells scope.names [])) s3.heap.objs.size X.env = ce at I4 pg pt pe pi1 pg1 pt1 ⊢
  have cL : ce.locals = s3.heap.objs.size := by subst hce; rfl
  generalize hH3 : upd H2 D (SetO X.w D (fun _ => false) 0) = H3 at I3 I4 pg pt pe pi1 pg1 pt1 w0 nfp f3
  generalize hs4 : ({ s3 with heap := pushCells (s3.heap.push { cls := .type "dict", data := .dict #[] }) scope.names } : Shared) = s4 at I4 ⊢
  have st4 : tn 0 s4.heap := T.keep _ _ _ st3 fun b _ o e => by rw [← hs4]; exact pushCells_keeps _ _ _ _ (Heap.get?_push_of_some _ e)
  have stat : ∀ {σ' : L2.St} {H' : Hp} {s' : Shared}, Inv (X.blk s3 H3 scope ce fp) [] σ' H' s' → (∀ b ∈ fp, H' b = none) → ∀ b ∈ fp, FpOk (X.blk s3 H3 scope ce fp) [] H' b := fun {σ' H' s'} I' hn b hb =>
    ⟨hn b hb, (I'.ok.exf b hb).1, I'.ok.exfs b hb, .inl hb, fun x c e => (I'.ok.exf b hb).2 x c e, fun p hp => absurd (show p ∈ ([] : List (Addr × Obj)) ++ [] from hp) (by simp)⟩
  have loop : codeAny (model X.prog X.w) X.A (.compLoop (.SetComp elt [⟨tg, iter, ifs, 0⟩, ⟨tg1, iter1, ifs1, 0⟩] scope pos) 0 (.ref it) (.ref D) ce) (compPost (model X.prog X.w) X.A X.xe use Qf (.ref D) s3.heap.objs.size) s4 := by
    refine scLoop_out (hs1 ce) (fun n s' => ∃ i H', Inv (X.blk s3 H3 scope ce fp) [] (wipe σ (own.map (·.2))) H' s' ∧ tn i s'.heap ∧ (∀ b ∈ fp, H' b = none) ∧ W i n H') ?_ m0 ⟨0, H3, I4, st4, nfp, w0⟩
    rintro n s5 ⟨i, H5, I5, st5, n5, w5⟩
    rcases turn i n H5 w5 with ⟨stop, qq⟩ | ⟨go, Nx, hNx, step⟩
    · have td := T.done (X.blk s3 H3 scope ce fp) rfl rfl rfl hc i [] s5 _ H5 (fun _ _ => False) I5 (stat I5 n5) st5 stop
      refine thnF td fun r s6 ⟨hr, I6⟩ => ?_
      subst hr
      -- back in the def's context
      have I7 : Inv X pins σ H5 s6 := I3.call' (ch := fp) I6.os I6.base I6.hok I6.bare fun b hb => ⟨(f3 b hb).1.2.2.2.1, (f3 b hb).1.2.1, (f3 b hb).1.2.2.2.2.1, (f3 b hb).1.2.2.2.2.2⟩
      have nC : H5 s3.heap.objs.size = none := by
        have z : H5 ce.locals = none := I6.free
        rw [cL] at z
        exact z
      obtain ⟨m, hn, _⟩ := I6.loc
      have hn : s6.heap.Ns ce.locals m := hn
      rw [cL] at hn
      exact hRR D s3.heap.objs.size s6 m H5 I7 qq hn (I3.fpOk (Nat.le_refl _) nC)
    · have ti := T.item (X.blk s3 H3 scope ce fp) rfl rfl rfl hc i [] s5 _ H5 (fun _ _ => False) I5 (stat I5 n5) st5 go
      refine thnF ti fun r s6 ⟨u, hr, h6⟩ => ?_
      subst hr
      refine thnF h6 fun _ s7 ⟨x, H7, I7, r7, y7, st7, n7⟩ => ?_
      have I7' := I7.pinned (stat I7 n7) (T.obj _ _ st7)
      refine thnF (pg.run _ s7 _ H7 x u _ I7' r7 (step x H7 y7)) fun _ s8 ⟨σ8, H8, I8, hw8, q8⟩ => ?_
      refine thnF (pt.run _ s8 σ8 H8 _ I8 q8) fun b s9 ⟨H9, I9, q9⟩ => ?_
      -- the turn's end, from any slots that know what the block knew at its start
      have fin : ∀ {σ9 : L2.St} {s' : Shared} {H' : Hp}, Inv (X.blk s3 H3 scope ce fp) ([] ++ pinsAt fp s7.heap) σ9 H' s' → (wipe σ (own.map (·.2))).length = σ9.length → (∀ (j : Nat) v, (wipe σ (own.map (·.2)))[j]? = some (some v) → σ9[j]? = some (some v)) → Nx H' →
          ∃ m, m < n ∧ ∃ i H', Inv (X.blk s3 H3 scope ce fp) [] (wipe σ (own.map (·.2))) H' s' ∧ tn i s'.heap ∧ (∀ b ∈ fp, H' b = none) ∧ W i m H' := fun {σ9 s' H'} I' hl hk nx => by
        obtain ⟨m', hm, w'⟩ := hNx H' nx
        have pin' : ∀ b ∈ fp, ∀ o, s7.heap.get? b = some o → s'.heap.get? b = some o ∧ H' b = none := fun b hb o e =>
          let z := I'.pin (b, o) (List.mem_append_right _ (List.mem_append_right _ (mem_pinsAt hb e)))
          ⟨z.1, z.2.1⟩
        refine ⟨m', hm, i + 1, H', (I'.unpinned (pins := [])).weak hl hk, T.keep _ _ _ st7 fun b hb o e => (pin' b hb o e).1, fun b hb => ?_, w'⟩
        obtain ⟨o, e, _⟩ := T.obj _ _ st7 b hb
        exact (pin' b hb o e).2
      have hl8 : (wipe σ (own.map (·.2))).length = σ8.length := by rw [← hw8, wipe_length]
      have hk8 : ∀ (j : Nat) v, (wipe σ (own.map (·.2)))[j]? = some (some v) → σ8[j]? = some (some v) := fun j v e => by
        rw [← hw8] at e
        exact (wipe_some e).1
      have hk9 : ∀ (j : Nat) v, (wipe σ (own.map (·.2)))[j]? = some (some v) → (wipe σ8 vs1)[j]? = some (some v) := fun j v e => by
        rw [← hw8] at e
        obtain ⟨e1, e2⟩ := wipe_some e
        rw [wipe_out fun z => e2 (hv j z)]
        exact e1
      cases b with
      | false =>
        simp only [Bool.false_eq_true, if_false] at q9 ⊢
        exact fin I9 hl8 hk8 q9
      | true =>
        simp only [if_true] at q9 ⊢
        refine thnF (pi1.run _ s9 σ8 H9 _ I9 q9) fun xv s10 hx => thnF hx fun itv s11 h11 => ?_
        obtain ⟨it1, fp1, tn1, J1, H11, e1, I11, T1, st11, f11, W1, ⟨m1, w1⟩, turn1⟩ := h11
        subst e1
        -- the inner loop
        have stat1 : ∀ {H' : Hp}, (∀ b ∈ fp1, H' b = none) → ∀ b ∈ fp1, FpOk (X.blk s3 H3 scope ce fp) ([] ++ pinsAt fp s7.heap) H' b := fun hn b hb => ⟨hn b hb, (f11 b hb).2⟩
        have loop1 : codeAny (model X.prog X.w) X.A (.compLoop (.SetComp elt [⟨tg, iter, ifs, 0⟩, ⟨tg1, iter1, ifs1, 0⟩] scope pos) 1 (.ref it1) (.ref D) ce)
            (fun r s' => match r with
              | .ok _ => ∃ m, m < n ∧ ∃ i H', Inv (X.blk s3 H3 scope ce fp) [] (wipe σ (own.map (·.2))) H' s' ∧ tn i s'.heap ∧ (∀ b ∈ fp, H' b = none) ∧ W i m H'
              | .error _ => False) s11 := by
          refine scLoop_in (fun k s' => ∃ j H', Inv (X.blk s3 H3 scope ce fp) ([] ++ pinsAt fp s7.heap) (wipe σ8 vs1) H' s' ∧ tn1 j s'.heap ∧ (∀ b ∈ fp1, H' b = none) ∧ W1 j k H') ?_ m1 ⟨0, H11, I11.weak (wipe_length _ _) (fun j v e => (wipe_some e).1), st11, fun b hb => (f11 b hb).1, w1⟩
          rintro k s12 ⟨j, H12, I12, st12, n12, w12⟩
          rcases turn1 j k H12 w12 with ⟨stop1, nx1⟩ | ⟨go1, Nx1, hNx1, step1⟩
          · refine thnF (T1.done (X.blk s3 H3 scope ce fp) rfl rfl rfl hc j _ s12 (wipe σ8 vs1) H12 (fun _ _ => False) I12 (stat1 n12) st12 stop1) fun r s13 ⟨hr, I13⟩ => ?_
            subst hr
            exact fin I13 (hl8.trans (wipe_length σ8 vs1).symm) hk9 nx1
          · refine thnF (T1.item (X.blk s3 H3 scope ce fp) rfl rfl rfl hc j _ s12 (wipe σ8 vs1) H12 (fun _ _ => False) I12 (stat1 n12) st12 go1) fun r s13 ⟨u1, hr, h13⟩ => ?_
            subst hr
            refine thnF h13 fun _ s14 ⟨x1, H14, I14, r14, y14, st14, n14⟩ => ?_
            have I14' := I14.pinned (stat1 n14) (T1.obj _ _ st14)
            refine thnF (pg1.run _ s14 (wipe σ8 vs1) H14 x1 u1 _ I14' r14 (step1 x1 H14 y14)) fun _ s15 ⟨σ15, H15, I15, hw15, q15⟩ => ?_
            refine thnF (pt1.run _ s15 σ15 H15 _ I15 q15) fun b1 s16 ⟨H16, I16, q16⟩ => ?_
            have fin1 : ∀ {s' : Shared} {H' : Hp}, Inv (X.blk s3 H3 scope ce fp) (([] ++ pinsAt fp s7.heap) ++ pinsAt fp1 s14.heap) σ15 H' s' → Nx1 H' → ∃ m, m < k ∧ ∃ j H', Inv (X.blk s3 H3 scope ce fp) ([] ++ pinsAt fp s7.heap) (wipe σ8 vs1) H' s' ∧ tn1 j s'.heap ∧ (∀ b ∈ fp1, H' b = none) ∧ W1 j m H' := fun {s' H'} I' nx => by
              obtain ⟨m', hm, w'⟩ := hNx1 H' nx
              have pin' : ∀ b ∈ fp1, ∀ o, s14.heap.get? b = some o → s'.heap.get? b = some o ∧ H' b = none := fun b hb o e =>
                let z := I'.pin (b, o) (List.mem_append_right _ (List.mem_append_right _ (mem_pinsAt hb e)))
                ⟨z.1, z.2.1⟩
              refine ⟨m', hm, j + 1, H', I'.unpinned.weak (by rw [← hw15, wipe_length]) (fun j v e => by rw [← hw15] at e; exact (wipe_some e).1), T1.keep _ _ _ st14 fun b hb o e => (pin' b hb o e).1, fun b hb => ?_, w'⟩
              obtain ⟨o, e, _⟩ := T1.obj _ _ st14 b hb
              exact (pin' b hb o e).2
            cases b1 with
            | false =>
              simp only [Bool.false_eq_true, if_false] at q16 ⊢
              exact fin1 I16 q16
            | true =>
              simp only [if_true] at q16 ⊢
              refine thnF (pe.run _ s16 σ15 H16 _ I16 q16) fun z s17 ⟨yv, H17, I17, r17, cb, S0, n0, ey, hD17, hz17, nx⟩ => ?_
              subst ey
              obtain ⟨tk, rfl⟩ : ∃ tk, z = Value.int cb tk := r17
              exact addI_ok (X := X.blk s3 H3 scope ce fp) I17 hD17 hz17 fun s18 I18 => fin1 I18 nx
        exact scStart1_ok loop1 (T1.self X.A 0 _ _ _ st11 loop1)
  exact PpSet.codeAny_compStart_set loop (T.self X.A 0 _ _ _ st4 loop)
/-- as a value -/
theorem pe_sc2 {elt tg iter tg1 iter1 : Expr} {ifs ifs1 : List Expr} {scope : Scope} {own : List (Str × Nat)} {vs1 : List Nat} {pos : Pos} {wi wi1 : TI} {g g1 : TG} {tt tt1 : TT} {te : TE} (hc : X.calm = true) (hN : X.N.Nodup) (hi : PI X tg iter wi) (ok : BlkOk X.N X.env.scope scope own) (hv : ∀ i ∈ vs1, i ∈ own.map (·.2))
    (hg : ∀ (s : Shared) (H : Hp) (C : Addr) (cl : List (Str × Addr)) (fp : List Addr), PG (X.blk s H scope (compEnvC scope cl C X.env) fp) tg g) (ht : ∀ (s : Shared) (H : Hp) (C : Addr) (cl : List (Str × Addr)) (fp : List Addr), PTs (X.blk s H scope (compEnvC scope cl C X.env) fp) ifs tt)
    (hi1 : ∀ (s : Shared) (H : Hp) (C : Addr) (cl : List (Str × Addr)) (fp : List Addr), PI (X.blk s H scope (compEnvC scope cl C X.env) fp) tg1 iter1 wi1)
    (hg1 : ∀ (s : Shared) (H : Hp) (C : Addr) (cl : List (Str × Addr)) (fp : List Addr), PG (X.blk s H scope (compEnvC scope cl C X.env) fp) tg1 g1) (ht1 : ∀ (s : Shared) (H : Hp) (C : Addr) (cl : List (Str × Addr)) (fp : List Addr), PTs (X.blk s H scope (compEnvC scope cl C X.env) fp) ifs1 tt1)
    (he : ∀ (s : Shared) (H : Hp) (C : Addr) (cl : List (Str × Addr)) (fp : List Addr), PE (X.blk s H scope (compEnvC scope cl C X.env) fp) elt te) (hs : ∀ x, foldedSetIterable iter X.env x = pure x := by intro _; rfl) (hs1 : ∀ env x, foldedSetIterable iter1 env x = pure x := by intro _ _; rfl) :
    PE X (.SetComp elt [⟨tg, iter, ifs, 0⟩, ⟨tg1, iter1, ifs1, 0⟩] scope pos) (tSc2 X.w wi g tt wi1 g1 tt1 te (own.map (·.2)) vs1) := by
  refine ⟨fun pins s σ H Q I h => ?_⟩
  rw [PpSet.eval_SetComp]
  refine sc2_core hc hN I hi ok hv hg ht he hs hi1 hg1 ht1 hs1 h fun D C s' m H' I' q hn f => ⟨m, hn, fun h'' sb => ?_⟩
  obtain ⟨f0, f1, f2, f3, f4, f5⟩ := f
  exact ⟨.ref D, H', I'.turned (t' := s'.toks) (fun b o hb e => (sb.2 b hb).trans e) f0 f1 f3 f4 f5, rfl, q⟩
end
section
variable {X : Cx} {c : Mc}
/-- a set of whole numbers, as it grows -/
def stepS (st : (Int → Bool) × Nat) (k : Int) : (Int → Bool) × Nat := (fun j => st.1 j || decide (j = k), if st.1 k = true then st.2 else st.2 + 1)
def growS (ns : List Int) : (Int → Bool) × Nat := ns.foldl stepS (fun _ => false, 0)
theorem growS_snoc (ns : List Int) (k : Int) : growS (ns ++ [k]) = stepS (growS ns) k := by unfold growS; rw [List.foldl_append]; rfl
theorem growS_le (ns : List Int) : (growS ns).2 ≤ ns.length := by
  have key : ∀ (ns : List Int) (st : (Int → Bool) × Nat), (ns.foldl stepS st).2 ≤ st.2 + ns.length := fun ns => by
    induction ns with
    | nil => exact fun st => Nat.le_refl _
    | cons k ns ih =>
      intro st
      rw [List.foldl_cons, List.length_cons]
      have h1 := ih (stepS st k)
      have h2 : (stepS st k).2 ≤ st.2 + 1 := by unfold stepS; simp only; split <;> omega
      omega
  have := key ns (fun _ => false, 0)
  unfold growS
  omega
def rowOf : PD → Option (List Int)
  | .tuple ds => intsOf ds
  | _ => none
def rowsOf : List PD → Option (List (List Int))
  | [] => some []
  | d :: ds => (rowOf d).bind fun r => (rowsOf ds).map fun rs => r :: rs
theorem rows_ok {K : PySem.W.Frag} {H : Hp} : ∀ {ds : List PD} {rs : List (List Int)} {xs : List V}, rowsOf ds = some rs → RpA K H xs ds → xs.length = rs.length ∧ ∀ (i : Nat) (x : V), xs[i]? = some x → ∃ (a : Addr) (ns : List Int), x = .ref a ∧ rs[i]? = some ns ∧ SqT K H a (ns.map V.int)
  | [], rs, _, e, r => by
    cases e; cases r
    exact ⟨rfl, fun i x h => by simp at h⟩
  | d :: ds, rs, _, e, r => by
    simp only [rowsOf] at e
    obtain ⟨r0, e1, e2⟩ := Option.bind_eq_some_iff.mp e
    obtain ⟨rs', e3, rfl⟩ := Option.map_eq_some_iff.mp e2
    cases r with
    | cons q1 q2 =>
      obtain ⟨h1, h2⟩ := rows_ok e3 q2
      refine ⟨by simp [h1], fun i x h => ?_⟩
      cases i with
      | zero =>
        simp at h
        subst h
        cases d with
        | tuple es =>
          simp only [rowOf] at e1
          cases q1 with
          | tup hs ha =>
            rw [ints_ok e1 ha] at hs
            exact ⟨_, _, rfl, rfl, hs⟩
        | _ => simp [rowOf] at e1
      | succ i => exact h2 i x (by simpa using h)
end
section
variable {X : Cx} {c : Mc}
theorem take_flat (rs : List (List Int)) (i : Nat) (ns : List Int) (h : rs[i]? = some ns) : (rs.take (i + 1)).flatten = (rs.take i).flatten ++ ns := by
  rw [List.take_add_one, h, List.flatten_append]
  simp
/-- the two loops over rows of whole numbers -/
theorem sc_rows {w : World} {K : PySem.W.Frag} {a : Addr} {xs : List V} {rs : List (List Int)} {i0 i1 : Nat} {σ : L2.St} {H1 : Hp} {D : Addr} {Qd : Hp → Prop} (hD : H1 D = none) (hne : i0 ≠ i1) (hl0 : i0 < σ.length) (hl1 : i1 < σ.length)
    (ha : SqT K H1 a xs) (hlen : xs.length = rs.length) (hr : ∀ (i : Nat) (x : V), xs[i]? = some x → ∃ (b : Addr) (ns : List Int), x = .ref b ∧ rs[i]? = some ns ∧ SqT K H1 b (ns.map V.int)) (hz : rs.flatten.length ≤ 1000) (hd : ∀ S, Qd (upd H1 D (SetO w D S (growS rs.flatten).2))) :
    ∃ W : Nat → Nat → Hp → Prop, (∃ m, W 0 m (upd H1 D (SetO w D (fun _ => false) 0))) ∧ ∀ i m H, W i m H →
      ((Itt K a).stop i H ∧ Qd H) ∨ ((Itt K a).go i H ∧ ∃ Nx : Hp → Prop, (∀ H', Nx H' → ∃ m', m' < m ∧ W (i + 1) m' H') ∧ ∀ x H', (Itt K a).yld i H x H' → gName i0 x (L2.wipe σ [i0, i1]) H' fun σ2 H2 => L2.wipe σ2 [i0, i1] = L2.wipe σ [i0, i1] ∧ tYes σ2 H2 fun b H3 =>
        if b = true then iTup K (tVar i0) σ2 H3 fun J1 H4 => ∃ W1 : Nat → Nat → Hp → Prop, (∃ m, W1 0 m H4) ∧ ∀ j k H, W1 j k H →
          (J1.stop j H ∧ Nx H) ∨ (J1.go j H ∧ ∃ Nx1 : Hp → Prop, (∀ H', Nx1 H' → ∃ k', k' < k ∧ W1 (j + 1) k' H') ∧ ∀ x H', J1.yld j H x H' → gName i1 x (L2.wipe σ2 [i1]) H' fun σ3 H5 => L2.wipe σ3 [i1] = L2.wipe σ2 [i1] ∧ tYes σ3 H5 fun b H6 =>
            if b = true then tVar i1 σ3 H6 fun y H7 => ∃ (cc : Int) (S : Int → Bool) (n : Nat), y = .int cc ∧ H7 D = some (SetO w D S n) ∧ n + 1 < scanBound ∧ Nx1 (upd H7 D (SetO w D (fun j => S j || decide (j = cc)) (if S cc = true then n else n + 1))) else Nx1 H6)
        else Nx H3) := by
  have im : ∀ (st : (Int → Bool) × Nat), Im H1 (upd H1 D (SetO w D st.1 st.2)) := fun st b o e z => by
    rw [upd_ne (fun q => by subst q; rw [hD] at e; cases e)]; exact e
  refine ⟨fun i m H => m = xs.length - i ∧ i ≤ xs.length ∧ H = upd H1 D (SetO w D (growS (rs.take i).flatten).1 (growS (rs.take i).flatten).2), ⟨xs.length, by simp, Nat.zero_le _, rfl⟩, ?_⟩
  rintro i m H ⟨rfl, hi, rfl⟩
  have hat := sqT_im (im (growS (rs.take i).flatten)) ha
  by_cases hlt : i < xs.length
  · have hx : xs[i]? = some xs[i] := List.getElem?_eq_getElem hlt
    obtain ⟨b, ns, hxb, hns, hsb⟩ := hr i _ hx
    have hfl := take_flat rs i ns hns
    have hle : ((rs.take i).flatten ++ ns).length ≤ 1000 := by
      rw [← hfl]
      refine Nat.le_trans ?_ hz
      have := List.take_append_drop (i + 1) rs
      have e := congrArg (fun l => (List.flatten l).length) this
      simp only [List.flatten_append, List.length_append] at e
      omega
    refine .inr ⟨⟨xs, _, hat, hx⟩, fun H' => H' = upd H1 D (SetO w D (growS (rs.take (i + 1)).flatten).1 (growS (rs.take (i + 1)).flatten).2), fun H' p' => ⟨xs.length - (i + 1), by omega, rfl, hlt, p'⟩, fun x H' y => ?_⟩
    obtain ⟨e, y⟩ := y
    subst e
    have ex : x = .ref b := by
      have := y xs hat
      rw [hx] at this
      cases this
      exact hxb
    subst ex
    refine ⟨by rw [wipe_set (by simp), wipe_idem], ?_⟩
    simp only [tYes, if_true]
    refine ⟨.ref b, by rw [List.getElem?_set_self (by rw [L2.wipe_length]; exact hl0)], b, rfl, ⟨_, sqT_im (im _) hsb⟩, ?_⟩
    refine ⟨fun j k H => k = ns.length - j ∧ j ≤ ns.length ∧ H = upd H1 D (SetO w D (growS ((rs.take i).flatten ++ ns.take j)).1 (growS ((rs.take i).flatten ++ ns.take j)).2), ⟨ns.length, by simp, Nat.zero_le _, by rw [List.take_zero, List.append_nil]⟩, ?_⟩
    rintro j k H ⟨rfl, hj, rfl⟩
    have hbt := sqT_im (im (growS ((rs.take i).flatten ++ ns.take j))) hsb
    by_cases hjl : j < ns.length
    · have hn : ns[j]? = some ns[j] := List.getElem?_eq_getElem hjl
      have hv : (ns.map V.int)[j]? = some (.int ns[j]) := by rw [List.getElem?_map, hn]; rfl
      have hsn : (rs.take i).flatten ++ ns.take (j + 1) = ((rs.take i).flatten ++ ns.take j) ++ [ns[j]] := by
        rw [List.take_add_one, hn, List.append_assoc]; rfl
      refine .inr ⟨⟨_, _, hbt, hv⟩, fun H' => H' = upd H1 D (SetO w D (growS ((rs.take i).flatten ++ ns.take (j + 1))).1 (growS ((rs.take i).flatten ++ ns.take (j + 1))).2), fun H' p' => ⟨ns.length - (j + 1), by omega, rfl, hjl, p'⟩, fun x H' y => ?_⟩
      obtain ⟨e, y⟩ := y
      subst e
      have ex : x = .int ns[j] := by
        have := y _ hbt
        rw [hv] at this
        cases this
        rfl
      subst ex
      refine ⟨by rw [wipe_set (by simp), wipe_idem], ?_⟩
      simp only [tYes, if_true]
      refine ⟨.int ns[j], by rw [List.getElem?_set_self (by rw [L2.wipe_length, List.length_set, L2.wipe_length]; exact hl1)], ns[j], _, _, rfl, upd_same, ?_, ?_⟩
      · have h1 := growS_le ((rs.take i).flatten ++ ns.take j)
        have h2 : ((rs.take i).flatten ++ ns.take j).length ≤ ((rs.take i).flatten ++ ns).length := by
          rw [List.length_append, List.length_append, List.length_take]; omega
        unfold scanBound
        omega
      · show upd (upd H1 D _) D _ = _
        rw [hsn, growS_snoc]
        unfold stepS
        simp only
        funext q
        by_cases hq : q = D
        · subst hq; rw [upd_same, upd_same]
        · rw [upd_ne hq, upd_ne hq, upd_ne hq]
    · have e : j = ns.length := by omega
      subst e
      refine .inl ⟨⟨_, hbt, by simp⟩, ?_⟩
      show _ = _
      rw [List.take_length, hfl]
  · have e : i = xs.length := by omega
    subst e
    refine .inl ⟨⟨xs, hat, Nat.le_refl _⟩, ?_⟩
    rw [hlen, List.take_length]
    exact hd _
end
section
variable {X : Cx} {c : Mc}
/-- len({y for x in e for y in x}) -/
def mLenSc (i0 i1 : Nat) (m : M PD) : M Opd := fun ε => (m ε).bind fun d ε1 => match d with
  | .tuple ds => if i0 < ε1.length ∧ i1 < ε1.length then match rowsOf ds with
    | some rs => if rs.flatten.length ≤ 1000 then .ok (.val (.int ((growS rs.flatten).2 : Nat))) ε1 else .stuck
    | none => .stuck
    else .stuck
  | _ => .stuck
theorem je_lenSc {p pos qpos : Pos} {e tg0 tg1 iter1 elt : Expr} {scope : Scope} {own : List (Str × Nat)} {i0 i1 : Nat} {m : M PD} (hc : X.calm = true) (hN : X.N.Nodup) (hg : Gl X "len") (hm : X.mg "len" = none) (he : JV X c e m) (ok : BlkOk X.N X.env.scope scope own) (hown : own.map (·.2) = [i0, i1]) (hne : i0 ≠ i1)
    (hg0 : ∀ (s : Shared) (H : Hp) (C : Addr) (cl : List (Str × Addr)) (fp : List Addr), PG (X.blk s H scope (compEnvC scope cl C X.env) fp) tg0 (gName i0))
    (hg1 : ∀ (s : Shared) (H : Hp) (C : Addr) (cl : List (Str × Addr)) (fp : List Addr), PG (X.blk s H scope (compEnvC scope cl C X.env) fp) tg1 (gName i1))
    (hi1 : ∀ (s : Shared) (H : Hp) (C : Addr) (cl : List (Str × Addr)) (fp : List Addr), PE (X.blk s H scope (compEnvC scope cl C X.env) fp) iter1 (tVar i0))
    (he1 : ∀ (s : Shared) (H : Hp) (C : Addr) (cl : List (Str × Addr)) (fp : List Addr), PE (X.blk s H scope (compEnvC scope cl C X.env) fp) elt (tVar i1))
    (hs : ∀ x, foldedSetIterable e X.env x = pure x := by intro _; rfl) (hs1 : ∀ env x, foldedSetIterable iter1 env x = pure x := by intro _ _; rfl)
    (na : starEach [.SetComp elt [⟨tg0, e, [], 0⟩, ⟨tg1, iter1, [], 0⟩] scope pos] X.env = (false, eval (.SetComp elt [⟨tg0, e, [], 0⟩, ⟨tg1, iter1, [], 0⟩] scope pos) X.env) :: starEach [] X.env := by rfl) :
    JE X c (.Call (.Name "len" p) [.SetComp elt [⟨tg0, e, [], 0⟩, ⟨tg1, iter1, [], 0⟩] scope pos] [] qpos) (mLenSc i0 i1 m) := by
  have hsc : PE X (.SetComp elt [⟨tg0, e, [], 0⟩, ⟨tg1, iter1, [], 0⟩] scope pos) (tSc2 X.w (iTup X.K (tV X.K c m)) (gName i0) tYes (iTup X.K (tVar i0)) (gName i1) tYes (tVar i1) [i0, i1] [i1]) := by
    have h := pe_sc2 (pos := pos) (own := own) (vs1 := [i1]) hc hN (pi_tup he) ok (by rw [hown]; simp) hg0 (fun _ _ _ _ _ => pts_nil) (fun s H C cl fp => (show PI (X.blk s H scope (compEnvC scope cl C X.env) fp) tg1 iter1 (iTup X.K (tVar i0)) from pi_tup (hi1 s H C cl fp))) hg1 (fun _ _ _ _ _ => pts_nil) he1 hs hs1
    rw [hown] at h
    exact h
  refine ⟨fun pins s σ H Q I h => ?_⟩
  have hsc2 : tSc2 X.w (iTup X.K (tV X.K c m)) (gName i0) tYes (iTup X.K (tVar i0)) (gName i1) tYes (tVar i1) [i0, i1] [i1] σ H (fun v H1 => ∃ (D : Addr) (S : Int → Bool) (n : Nat), v = .ref D ∧ H1 D = some (SetO X.w D S n) ∧ n ≤ 1000 ∧ Q (.int n) H1) := by
    obtain ⟨ε, S, h⟩ := h
    refine ⟨ε, S, ?_⟩
    unfold mLenSc at h
    cases e1 : m ε with
    | stuck => rw [e1] at h; exact h
    | exc C ε' => rw [e1] at h; exact h
    | ok d ε1 =>
      rw [e1, Out.bind_ok] at h
      intro v H1 t1 S1 r1
      split at h
      · rename_i ds
        split at h
        · rename_i hl
          cases e2 : rowsOf ds with
          | none => rw [e2] at h; exact h.elim
          | some rs =>
            rw [e2] at h
            simp only at h
            split at h
            · rename_i hz
              cases r1 with
              | tup hs' ha =>
                rename_i a xs
                obtain ⟨g1, g2⟩ := rows_ok e2 ha
                refine ⟨a, rfl, ⟨_, hs'⟩, fun D hD => ?_⟩
                have hlen := S1.len
                refine sc_rows hD hne (by omega) (by omega) hs' g1 g2 hz fun Sx => ⟨D, Sx, _, rfl, upd_same, Nat.le_trans (growS_le _) hz, ?_⟩
                obtain ⟨S2, t2⟩ := S1.same (same_upd hD)
                exact h _ _ (t1.trans t2) S2 (.int _) trivial
            · exact h.elim
        · exact h.elim
      · exact h.elim
  refine Call_ (ld_blt I hg hm boot_len ?_)
  refine PyProof.Rows.callWith_builtin1 (PyProof.Rows.args_cons (thn (hsc.run pins s σ H _ I hsc2) fun v s1 ⟨x, H1, I1, r1, q1⟩ => PyProof.Rows.args_nil ?_) na) na rfl
  obtain ⟨D, Sx, n, rfl, hD, hn, q1⟩ := q1
  cases r1
  obtain ⟨o, es, ep, t, ho, hex, hd, _, _, _, _, hf, hsz, _, _⟩ := setO_get I1 hD
  refine call_len_set ho hex hd hf (by rw [hsz]; omega) ⟨.int n, H1, I1.tok _, ⟨_, by rw [hsz]⟩, q1⟩
end
end MM

/-! ML23: sorted of tuples of which the first is (). -/
namespace MM
open PySem PySem.Spec PyProof.Rows L2 PySem.W PySem.Calls PySem.SeqAt
section
variable {prog : Program} {w : World} {A : Around} {E : Value → Shared → Prop} {s : Shared}
theorem call_tuple_ltE {Q : Value → Shared → Prop} {l b : Addr} {items items2 : Array Value} {e r : Nat → Bool} (hl : s.heap.IsTuple l items) (hb : s.heap.IsTuple b items2)
    (he : ∀ j (h1 : j < items.size) (h2 : j < items2.size), EqAt A.in1 s items[j] items2[j] (e j)) (hr : ∀ j (h1 : j < items.size) (h2 : j < items2.size), e j = false → RcLt A.in1 s items[j] items2[j] (r j))
    (h : Q (.bool (firstLt e r (decide (items.size < items2.size)) (List.range (min items.size items2.size)))) s) : wpAny (model prog w) A (call (.builtin "tuple.__lt__") [.ref l, .ref b]) Q E s := by
  obtain ⟨⟨cls, dd, data, sl⟩, ho, hc, n, hd⟩ := id hl
  obtain ⟨⟨cls2, dd2, data2, sl2⟩, ho2, hc2, n2, hd2⟩ := id hb
  simp only at hc hd hc2 hd2
  subst hc hd hc2 hd2
  exact call_meets F.slot_tuple_lt ⟨_, ho, rfl⟩ F.entry_tuple_lt (F.args_tuple_lt_2 _ _) (PySem.SeqAt.tuple_ltAt l b items items2 n n2 dd dd2 sl sl2 e r) ⟨ho, ho2, he, hr, h⟩
theorem oneLt_tupE {xs ys : List PyData} {a b : Value} {as bs : List Addr} {Q : Bool → Shared → Prop} (ra : Reads s.heap a (.tuple xs) as) (rb : Reads s.heap b (.tuple ys) bs) (h : alike (.tuple xs) (.tuple ys) = true)
    (hu : A.units + min (PyData.tuple xs).depth (PyData.tuple ys).depth < cLine) (hq : Q (dataLt (.tuple xs) (.tuple ys)) s) : wpAny (model prog w) A (oneLt' true a b) Q E s := by
  have hal : alikeAll xs ys = true := by simpa [alike] using h
  cases ra with
  | @tuple l o vs n _ as₁ h1 h2 h3 h4 =>
    cases rb with
    | @tuple l' o' vs' n' _ bs₁ k1 k2 k3 k4 =>
      have n1 : vs.size = xs.length := by simpa using SeqAt.ReadsAll.length _ _ _ h4
      have n2 : vs'.size = ys.length := by simpa using SeqAt.ReadsAll.length _ _ _ k4
      rw [dataLt_tuple, ← firstLt_toks xs ys hal, ← n1, ← n2] at hq
      rw [oneLt'_eq]
      simp only [if_true]
      refine wpAny_bind (wpAny_cRoomFor (room_here hu) ?_)
      refine wpAny_bind (wpAny_callSpecialIfBound?_slot (T := "tuple") ⟨_, h1, h2⟩ F.slot_tuple_lt (call_tuple_ltE (e := pairEq xs ys) (r := fun j => dataLt (xs.getD j .none) (ys.getD j .none)) ⟨_, h1, h2, _, h3⟩ ⟨_, k1, k2, _, k3⟩ (fun j j1 j2 => ?_) (fun j j1 j2 hj => ?_) ?_))
      · have := eqAt_alikeAll xs ys A.in1 s vs.toList vs'.toList _ _ h4 k4 hal (room_in hu) j (by simpa using j1) (by simpa using j2)
        simpa using this
      · have := rcLt_alikeAll xs ys A.in1 s vs.toList vs'.toList _ _ h4 k4 hal (room_in hu) j (by simpa using j1) (by simpa using j2) hj
        simpa using this
      · exact wpAny_truthy_bool hq
theorem firsts_any {M : Model} : ∀ (vs : List Value) (ds : List PyData) {Q : List (Option Value) → Shared → Prop}, EachIs (fun v d => ∃ as, Reads s.heap v d as) vs ds → (∀ d ∈ ds, ∃ xs, d = .tuple xs) →
    (∀ fs : List (Option Value), fs.length = vs.length → (∀ r, ds = .tuple [] :: r → ∃ t, fs = none :: t) → Q fs s) → wpAny M A (vs.mapM firstOfTuple') Q E s
  | _, _, Q, .nil, _, h => by rw [List.mapM_nil]; exact wpAny_pure (h [] rfl fun r z => by cases z)
  | v :: vs, d :: ds, Q, .cons ⟨as, r⟩ t, ht, h => by
    obtain ⟨xs, rfl⟩ := ht _ (List.mem_cons_self ..)
    cases r with
    | @tuple a o ys n _ _ ho hc hd hr =>
      rw [List.mapM_cons]
      refine wpAny_bind ?_
      rw [kas_first_eq]
      refine wpAny_bind (Looks.here (show Looks M s.heap (typeOf (.ref a)) o.cls from (Looks.ld ho).andThen .now) ?_)
      rw [hc, if_neg (by first | decide | simp)]
      refine wpAny_bind (listItems_at ho hd (wpAny_pure ?_))
      refine wpAny_bind (firsts_any vs ds (Q := fun bs s' => wpAny M A (pure (ys[0]? :: bs)) Q E s') t (fun d hd => ht d (List.mem_cons_of_mem _ hd)) fun fs hl _ => wpAny_pure (h _ (by rw [List.length_cons, List.length_cons, hl]) fun r z => ?_))
      injection z with z1 z2
      injection z1 with z1
      subst z1
      have e : ys.toList = [] := by
        cases q : ys.toList with
        | nil => rfl
        | cons x y => rw [q] at hr; cases hr
      have e2 : ys[0]? = none := by rw [← Array.getElem?_toList, e]; rfl
      exact ⟨fs, by rw [e2]⟩
theorem sortsAtE {vs : List Value} {ds : List PyData} (e : EachIs (fun v d => ∃ as, Reads s.heap v d as) vs ds) (hal : AllAlike ds) (h0 : ∃ r, ds = .tuple [] :: r) (ht : ∀ d ∈ ds, ∃ xs, d = .tuple xs) (hu : ∀ d, d ∈ ds → A.units + d.depth < cLine) : SortsAt prog w A s (dataKind s.heap ds) vs := by
  have room : ∀ {d d' : PyData}, d ∈ ds → A.units + min d.depth d'.depth < cLine := fun {d d'} hd => Nat.lt_of_le_of_lt (Nat.add_le_add_left (Nat.min_le_left _ _) _) (hu d hd)
  refine ⟨fun v hv => ?_, oneType', ?_, fun h2 E Q hq => ?_⟩
  · obtain ⟨d, hd, as, r⟩ := e.left v hv
    exact ⟨_, dataKind_some hal hd r⟩
  · intro E x y a b Q ha hb hq
    obtain ⟨d, as, hd, ra, rfl⟩ := dataKind_inv ha
    obtain ⟨d', as', hd', rb, rfl⟩ := dataKind_inv hb
    rw [keyLt'_oneType]
    have hdd := hal d hd d' hd'
    have hroom := room (d' := d') hd
    obtain ⟨xs, rfl⟩ := ht d hd
    obtain ⟨ys, rfl⟩ := ht d' hd'
    exact oneLt_tupE ra rb hdd hroom hq
  · obtain ⟨r, hr⟩ := h0
    have hT : ∀ v ∈ vs, Looks (model prog w) s.heap (typeOf v) (Value.type "tuple") := fun v hv => by
      obtain ⟨d, hd, as, q⟩ := e.left v hv
      obtain ⟨xs, rfl⟩ := ht d hd
      exact looks_reads q
    rw [keyKind'_eq, List.mapM_toArray, map_eq_pure_bind]
    refine wpAny_bind (wpAny_bind (firsts_any vs ds e ht fun fs hl hf => wpAny_pure ?_))
    obtain ⟨t, rfl⟩ := hf r hr
    rw [if_neg (by simp), if_neg (by simp)]
    rw [oneTypeOnly'_eq, List.mapM_toArray, map_eq_pure_bind]
    refine wpAny_bind (wpAny_bind (wpAny_bind (kas_mapM (r := Value.type "tuple") _ (fun v hv Q' hq => (hT v hv).here hq) (wpAny_pure ?_))))
    obtain ⟨v₁, rest, rfl⟩ : ∃ v₁ rest, vs = v₁ :: rest := by
      cases vs with
      | nil => simp at h2
      | cons v vs => exact ⟨v, vs, rfl⟩
    have hall : ((List.map (fun _ => Value.type "tuple") (v₁ :: rest)).toArray.all fun x => x == Value.type "tuple") = true := by
      simp only [List.all_toArray, List.all_map, List.all_eq_true]
      intro _ _
      exact beq_self_eq_true _
    have h0 : (List.map (fun _ => Value.type "tuple") (v₁ :: rest)).toArray[0]? = some (Value.type "tuple") := by simp
    rw [h0]
    simp only [hall, if_true]
    exact wpAny_pure (wpAny_pure hq)
end
section
variable {α β : Type} {prog : Program} {w : World} {A : Around} {E : Value → Shared → Prop} {s : Shared}
theorem sorted_dataE {R : Value → β → Prop} {enc : β → PyData} {vs : List Value} {bs : List β} {l : Addr} {Q : Value → Shared → Prop} (hl : s.heap.IsList l vs.toArray) (e : EachIs R vs bs) (er : EachIs (fun v b => ∃ as, Reads s.heap v (enc b) as) vs bs) (hal : AllAlike (bs.map enc)) (h0 : ∃ r, bs.map enc = .tuple [] :: r) (ht : ∀ d ∈ bs.map enc, ∃ xs, d = .tuple xs) (hL : bs.length ≤ sizeLine)
    (hu : ∀ b, b ∈ bs → A.units + 2 + (enc b).depth < cLine) (h : ∀ out, out.length = bs.length → EachIs R out (bs.mergeSort (dataLe false enc)) → Q (.ref (s.heap.objs.size + 1)) { s with heap := sortedAll s.heap vs (List.toArray out) }) :
    wpAny (model prog w) A (call (.builtin "sorted") [.ref l]) Q E s := by
  have er' : EachIs (fun v b => ∃ as, Reads (sortingHeap (copyHeap s.heap vs) (s.heap.objs.size + 1) vs) v (enc b) as) vs bs := er.mono fun _ _ ⟨as, r⟩ => ⟨as, PyProof.Rows.Reads.keeps (fun _ _ => sorting_copy_old) r⟩
  exact sorted_vals hl (sortsAtE (s := { s with heap := sortingHeap (copyHeap s.heap vs) (s.heap.objs.size + 1) vs }) (each_map (R := fun v d => ∃ as, Reads (sortingHeap (copyHeap s.heap vs) (s.heap.objs.size + 1) vs) v d as) enc er') hal h0 ht (bound_map hu)) (by rw [e.length]; exact hL)
    (h _ (by rw [sortVals_length false rfl]; exact e.length) (sortVals_data false e er' hal))
end
def headE : List PD → Bool
  | .tuple [] :: _ => true
  | _ => false
def isTup : PD → Bool
  | .tuple _ => true
  | _ => false
def srtOkE (ds : List PD) : Bool := (ds.all fun d => ds.all fun e => PySem.W.alike d e) && headE ds && (ds.all isTup) && (ds.all fun d => SeqAt.shaped d) && decide (ds.length ≤ big)
def fSortedE : List PD → Option Opd
  | [.list ds] => if srtOkE ds = true then some (.new (.l (sortD ds))) else none
  | _ => none
section
variable {X : Cx} {c : Mc}
def rSrtE (K : PySem.W.Frag) : List V → Hp → VK → Prop := fun vs H Q => ∃ (a : Addr) (xs : List V) (ds : List PD), vs = [V.ref a] ∧ SqL K H a xs ∧ RpA K H xs ds ∧ srtOkE ds = true ∧
  ∀ (ys : List V) (p : Addr), RpA K H ys (sortD ds) → H p = none → Q (.ref p) (upd H p (.lst ys))
theorem cr_srtE (hu : X.A.units + 160 < cLine) : CallR X (.builtin "sorted") (rSrtE X.K) := by
  intro pins s σ H vs us Q I r h
  obtain ⟨a, xs, ds, rfl, hs, rp, hok, q⟩ := h
  obtain ⟨its, rv, hl, hz⟩ := I.list hs
  rw [Vals.ref1 r]
  unfold srtOkE at hok
  simp only [Bool.and_eq_true, List.all_eq_true, decide_eq_true_eq] at hok
  obtain ⟨⟨⟨⟨hal, hh⟩, hk⟩, hsh⟩, hlen⟩ := hok
  have el := rp.length
  have em : (xs.zip ds).map (fun b : V × PD => b.2) = ds := List.map_snd_zip (by omega)
  have em1 : (xs.zip ds).map (fun b : V × PD => b.1) = xs := List.map_fst_zip (by omega)
  have hrp := rpa_zip rp
  have e := each_vals rv el
  have er : PySem.W.EachIs (fun (v : Value) (b : V × PD) => ∃ as, Reads s.heap v b.2 as) its (xs.zip ds) := by
    have key : ∀ {its : List Value} {bs : List (V × PD)}, PySem.W.EachIs (fun (v : Value) (b : V × PD) => RelV b.1 v) its bs → (∀ b ∈ bs, Rp X.K H b.1 b.2 ∧ SeqAt.shaped b.2 = true) → PySem.W.EachIs (fun (v : Value) (b : V × PD) => ∃ as, Reads s.heap v b.2 as) its bs := by
      intro its bs h
      induction h with
      | nil => exact fun _ => .nil
      | cons r t ih =>
        intro hb
        obtain ⟨h1, h2⟩ := hb _ (List.mem_cons_self ..)
        exact .cons (Dp.reads I _ _ _ (Rp.dp _ _ (SeqAt.canLay_of_shaped h2) h1) r) (ih fun b hb' => hb b (List.mem_cons_of_mem _ hb'))
    exact key e fun b hb => ⟨hrp b hb, hsh _ (List.of_mem_zip hb).2⟩
  refine sorted_dataE (enc := fun b : V × PD => b.2) hl.isList e er (by rw [em]; exact hal) ?_ ?_ (by rw [List.length_zip]; exact Nat.le_trans (Nat.min_le_right _ _) (big_line hlen)) (fun b hb => ?_) fun out ho hout => ?_
  · rw [em]
    cases ds with
    | nil => simp [headE] at hh
    | cons d r =>
      cases d with
      | tuple zs => cases zs with
        | nil => exact ⟨r, rfl⟩
        | cons z zs => simp [headE] at hh
      | _ => simp [headE] at hh
  · rw [em]
    intro d hd
    have := hk d hd
    unfold isTup at this
    split at this
    · exact ⟨_, rfl⟩
    · cases this
  · have h1 := hsh _ (List.of_mem_zip hb).2
    have : b.2.depth ≤ 64 := by
      unfold SeqAt.shaped at h1
      rw [Bool.and_eq_true, decide_eq_true_eq] at h1
      exact h1.2
    omega
  · have hm : ((xs.zip ds).mergeSort (PySem.W.dataLe false fun b : V × PD => b.2)).map (·.2) = sortD ds := by
      rw [sortD_eq, PySem.W.sort_maps (r := PySem.W.dataLe false fun b : V × PD => b.2) (s := leP) (fun b : V × PD => b.2) (fun _ _ _ _ => rfl), em]
    have hr : RpA X.K H (((xs.zip ds).mergeSort (PySem.W.dataLe false fun b : V × PD => b.2)).map (·.1)) (sortD ds) := by
      rw [← hm]
      exact rpa_of fun b hb => hrp b (List.mem_mergeSort.mp hb)
    obtain ⟨ep, he'⟩ := PyProof.Rows.sortedAll_at s.heap its (List.toArray out)
    refine ⟨.ref _, upd H (s.heap.objs.size + 1) (.lst (((xs.zip ds).mergeSort (PySem.W.dataLe false fun b : V × PD => b.2)).map (·.1))), I.laid (t' := s.toks) (fun _ _ => PyProof.Rows.sortedAll_old) (Nat.le_succ _) ⟨?_, out, ep, vals_each hout, he'⟩, rfl, q _ _ hr (I.hok.fresh (Nat.le_succ _))⟩
    rw [List.length_map, List.length_mergeSort, List.length_zip]
    exact Nat.le_trans (Nat.min_le_left _ _) hz
theorem c_sortedE {k : Nat} (hr : Room k X.A) : CallR X (.builtin "sorted") (cM X.K c (liftN fSortedE)) := by
  refine liftN_call (cr_srtE (by have := hr.un; omega)) fun xs ds o H Q L r e => ?_
  unfold fSortedE at e
  split at e
  · split at e <;> cases e
    rename_i ds hok
    obtain ⟨x, rfl, q1⟩ := r.one
    obtain ⟨a, xs, rfl, ha, ra⟩ := q1.lst
    exact ⟨noNew, fun p => ⟨a, xs, ds, rfl, rd_sqL ha, ra, hok, fun ys q r hq => p.nlst r hq⟩⟩
  · cases e
end
end MM

/-! ML24: for over an own list that stays own: the slot is lent for as long as the loop runs. -/
namespace MM
open PySem PySem.Spec PyProof.Rows L2
/-- the context in which slot i holds what a names -/
def lend (c : Mc) (i : Nat) (a : Addr) : Mc := { c with pm := fun j v => c.pm j v ∨ (j = i ∧ v = .ref a), W := fun _ _ _ _ => False }
def forO (i : Nat) (t : Tg) (mb : M Fl) : Nat → Nat → M Fl
  | 0, _, _ => .stuck
  | n + 1, k, ε => match ownL ε i with
    | none => .stuck
    | some ds => match ds[k]? with
      | none => .ok .nx ε
      | some x => match t x ε with
        | none => .stuck
        | some ε1 => match mb ε1 with
          | .ok .nx ε2 => forO i t mb n (k + 1) ε2
          | _ => .stuck
def sForO (n i : Nat) (t : Tg) (mb : M Fl) : M Fl := fun ε => match ε[i]? with
  | some (.ow (.l ds)) => match forO i t mb n 0 (ε.set i (.io (.l ds))) with
    | .ok .nx ε2 => match ε2[i]? with
      | some (.io ob) => .ok .nx (ε2.set i (.ow ob))
      | _ => .stuck
    | _ => .stuck
  | _ => .stuck
section
variable {K : PySem.W.Frag} {c : Mc} {ε : En} {σ : L2.St} {H : Hp} {i : Nat} {ob : Ob} {a : Addr}
theorem set_at {ε : En} {j : Nat} {sl : Sl} {x : Sl} (e : (ε.set i x)[j]? = some sl) : (j = i ∧ sl = x ∧ i < ε.length) ∨ (j ≠ i ∧ ε[j]? = some sl) := by
  by_cases h : i = j
  · subst h
    rw [List.getElem?_set] at e
    simp only [if_true] at e
    split at e
    · rename_i hl; exact .inl ⟨rfl, (Option.some.inj e).symm, hl⟩
    · cases e
  · rw [List.getElem?_set_ne h] at e
    exact .inr ⟨fun z => h z.symm, e⟩
theorem io_ow {H : Hp} {o : Ob} {ov : Option V} {b : Addr} : SlF H (.io o) ov b ↔ SlF H (.ow o) ov b := by cases ov <;> exact Iff.rfl
theorem own_mark (e : ε[i]? = some (.ow ob)) (b : Addr) : Own (ε.set i (.io ob)) σ H b ↔ Own ε σ H b := by
  have hi := (List.getElem?_eq_some_iff.mp e).1
  constructor
  · rintro ⟨j, sl, ov, e1, e2, f⟩
    rcases set_at e1 with ⟨h1, h2, _⟩ | ⟨h1, h2⟩
    · subst h1 h2; exact ⟨j, .ow ob, ov, e, e2, io_ow.mp f⟩
    · exact ⟨j, sl, ov, h2, e2, f⟩
  · rintro ⟨j, sl, ov, e1, e2, f⟩
    by_cases h : j = i
    · subst h
      rw [e] at e1
      cases e1
      exact ⟨j, .io ob, ov, by rw [List.getElem?_set_self hi], e2, io_ow.mpr f⟩
    · exact ⟨j, sl, ov, by rw [List.getElem?_set_ne (fun z => h z.symm)]; exact e1, e2, f⟩
theorem SR.mark (S : SR K c ε σ H) (e : ε[i]? = some (.ow ob)) (h : σ[i]? = some (some (.ref a))) : SR K (lend c i a) (ε.set i (.io ob)) σ H := by
  have hi := (List.getElem?_eq_some_iff.mp e).1
  have back : ∀ {j : Nat} {sl : Sl} {ov : Option V}, (ε.set i (.io ob))[j]? = some sl → σ[j]? = some ov → ∃ sl', ε[j]? = some sl' ∧ (SoR K H sl' ov → SoR K H sl ov) ∧ (∀ b, SlF H sl ov b → SlF H sl' ov b) ∧ ((∀ o, sl ≠ .io o) → ∀ o, sl' ≠ .io o) := fun {j sl ov} e1 e2 => by
    rcases set_at e1 with ⟨h1, h2, _⟩ | ⟨h1, h2⟩
    · subst h1 h2
      refine ⟨.ow ob, e, fun z => ?_, fun b z => io_ow.mp z, fun n => absurd rfl (n ob)⟩
      rw [h] at e2
      cases e2
      exact z
    · exact ⟨sl, h2, id, fun b z => z, id⟩
  refine ⟨by rw [List.length_set]; exact S.len, S.fr, S.fin, fun j v hj => ?_, fun j sl ov e1 e2 => ?_, fun j sl ov b e1 e2 f => ?_, fun j sl ov b e1 e2 f n => ?_, fun j k sl sl' ov ov' b e1 e2 f e3 e4 f' => ?_⟩
  · rcases hj with hj | ⟨hj, hv⟩
    · obtain ⟨q1, o, q2⟩ := S.pm j v hj
      refine ⟨q1, o, ?_⟩
      rw [List.getElem?_set_ne (fun z => by subst z; rw [e] at q2; cases q2)]
      exact q2
    · subst hj hv
      exact ⟨h, ob, by rw [List.getElem?_set_self hi]⟩
  · obtain ⟨sl', q1, q2, _⟩ := back e1 e2
    exact q2 (S.rel j sl' ov q1 e2)
  · obtain ⟨sl', q1, _, q3, _⟩ := back e1 e2
    exact S.own j sl' ov b q1 e2 (q3 b f)
  · obtain ⟨sl', q1, _, q3, q4⟩ := back e1 e2
    exact S.ows j sl' ov b q1 e2 (q3 b f) (q4 n)
  · obtain ⟨s1, q1, _, q3, _⟩ := back e1 e2
    obtain ⟨s2, r1, _, r3, _⟩ := back e3 e4
    exact S.dis j k s1 s2 ov ov' b q1 e2 (q3 b f) r1 e4 (r3 b f')
theorem SR.unmark (S : SR K (lend c i a) ε σ H) (e : ε[i]? = some (.io ob)) (hn : ∀ v, ¬ c.pm i v) (h0 : ∀ b, Ft H ob (.ref a) b → c.H0 b = none) : SR K c (ε.set i (.ow ob)) σ H := by
  have hi := (List.getElem?_eq_some_iff.mp e).1
  have hσ := (S.pm i (.ref a) (.inr ⟨rfl, rfl⟩)).1
  have back : ∀ {j : Nat} {sl : Sl} {ov : Option V}, (ε.set i (.ow ob))[j]? = some sl → σ[j]? = some ov → ∃ sl', ε[j]? = some sl' ∧ (SoR K H sl' ov → SoR K H sl ov) ∧ (∀ b, SlF H sl ov b → SlF H sl' ov b) := fun {j sl ov} e1 e2 => by
    rcases set_at e1 with ⟨h1, h2, _⟩ | ⟨h1, h2⟩
    · subst h1 h2
      refine ⟨.io ob, e, fun z => ?_, fun b z => io_ow.mpr z⟩
      rw [hσ] at e2
      cases e2
      exact z
    · exact ⟨sl, h2, id, fun b z => z⟩
  refine ⟨by rw [List.length_set]; exact S.len, S.fr, S.fin, fun j v hj => ?_, fun j sl ov e1 e2 => ?_, fun j sl ov b e1 e2 f => ?_, fun j sl ov b e1 e2 f n => ?_, fun j k sl sl' ov ov' b e1 e2 f e3 e4 f' => ?_⟩
  · obtain ⟨q1, o, q2⟩ := S.pm j v (.inl hj)
    refine ⟨q1, o, ?_⟩
    rw [List.getElem?_set_ne (fun z => by subst z; exact hn v hj)]
    exact q2
  · obtain ⟨sl', q1, q2, _⟩ := back e1 e2
    exact q2 (S.rel j sl' ov q1 e2)
  · obtain ⟨sl', q1, _, q3⟩ := back e1 e2
    exact S.own j sl' ov b q1 e2 (q3 b f)
  · rcases set_at e1 with ⟨h1, h2, _⟩ | ⟨h1, h2⟩
    · subst h1 h2
      rw [hσ] at e2
      cases e2
      exact h0 b f
    · exact S.ows j sl ov b h2 e2 f n
  · obtain ⟨s1, q1, _, q3⟩ := back e1 e2
    obtain ⟨s2, r1, _, r3⟩ := back e3 e4
    exact S.dis j k s1 s2 ov ov' b q1 e2 (q3 b f) r1 e4 (r3 b f')
theorem own_unmark (e : ε[i]? = some (.io ob)) (b : Addr) : Own (ε.set i (.ow ob)) σ H b ↔ Own ε σ H b := by
  have hi := (List.getElem?_eq_some_iff.mp e).1
  constructor
  · rintro ⟨j, sl, ov, e1, e2, f⟩
    rcases set_at e1 with ⟨h1, h2, _⟩ | ⟨h1, h2⟩
    · subst h1 h2; exact ⟨j, .io ob, ov, e, e2, io_ow.mpr f⟩
    · exact ⟨j, sl, ov, h2, e2, f⟩
  · rintro ⟨j, sl, ov, e1, e2, f⟩
    by_cases h : j = i
    · subst h
      rw [e] at e1
      cases e1
      exact ⟨j, .ow ob, ov, by rw [List.getElem?_set_self hi], e2, io_ow.mp f⟩
    · exact ⟨j, sl, ov, by rw [List.getElem?_set_ne (fun z => h z.symm)]; exact e1, e2, f⟩
end
section
variable {X : Cx} {c : Mc} {pos : Pos}
theorem js_forO {tg iter : Expr} {body : List Stmt} (n : Nat) {i : Nat} {sl : List Nat} {t : Tg} {mb : M Fl} (hp : PassesOwn (model X.prog X.w) X.A X.env X.xe) (hc : X.calm = true) (hi : PE X iter (tVar i)) (hg : ∀ c' : Mc, JG X c' tg sl t) (hb : ∀ c' : Mc, JB X c' body mb)
    (hs : ∀ x, foldedSetIterable iter X.env x = pure x := by intro _; rfl) : JS X c (.For tg iter body [] pos) (sForO n i t mb) := by
  refine ⟨fun pins s σ H D I h => ?_⟩
  obtain ⟨ε, S, h⟩ := h
  unfold sForO at h
  split at h
  · rename_i ds hε
    cases hf : forO i t mb n 0 (ε.set i (.io (.l ds))) with
    | stuck => rw [hf] at h; exact h.elim
    | exc C ε' => rw [hf] at h; exact h.elim
    | ok fl ε2 =>
      cases fl with
      | nx =>
        rw [hf] at h
        simp only at h
        split at h
        · rename_i ob hob
          obtain ⟨v, hσ, ⟨a, xs, rfl, ha, hr⟩, _⟩ := S.atO (.inl hε)
          have S1 := S.mark hε hσ
          have hnp : ∀ v, ¬ c.pm i v := fun v q => by
            obtain ⟨_, o, q2⟩ := S.pm i v q
            rw [hε] at q2
            cases q2
          refine (ps_for hp hc (pi_list hi) (hg (lend c i a)) (hb (lend c i a)) hs).run pins s σ H D I ?_
          refine ⟨.ref a, hσ, a, rfl, ⟨xs, .inl (.inl ha)⟩, ?_⟩
          refine ⟨fun k m σ' H' => ∃ ε', SR X.K (lend c i a) ε' σ' H' ∧ Step (ε.set i (.io (.l ds))) σ H ε' σ' H' ∧ forO i t mb m k ε' = .ok .nx ε2, ⟨n, _, S1, .refl, hf⟩, ?_⟩
          rintro k m σ' H' ⟨ε', S', st, p⟩
          cases m with
          | zero => unfold forO at p; cases p
          | succ m =>
            obtain ⟨q1, o, q2⟩ := S'.pm i (.ref a) (.inr ⟨rfl, rfl⟩)
            unfold forO at p
            cases e0 : ownL ε' i with
            | none => rw [e0] at p; cases p
            | some es =>
              rw [e0] at p
              simp only at p
              have eo : o = .l es := by
                unfold ownL at e0
                rw [q2] at e0
                cases o with
                | l x => cases e0; rfl
                | dk x => cases e0
                | dn x => cases e0
                | ll x => cases e0
                | ins x y => cases e0
              subst eo
              obtain ⟨a', ys, ea, hys, ry⟩ : ObR X.K H' (.l es) (.ref a) := S'.rel i _ _ q2 q1
              cases ea
              cases e1 : es[k]? with
              | none =>
                rw [e1] at p
                cases p
                left
                refine ⟨⟨ys, .inl (.inl hys), ?_⟩, ?_⟩
                · rw [ry.length]; exact List.getElem?_eq_none_iff.mp e1
                · have ho0 : c.H0 a = none := S.ows i _ _ a hε hσ rfl (fun o z => nomatch z)
                  have eob : ob = .l es := by
                    rw [q2] at hob
                    cases hob
                    rfl
                  refine h σ' H' ?_ (S'.unmark hob hnp fun b fb => by subst eob; cases fb; exact ho0)
                  refine ⟨fun b o hb hn => st.kp b o hb fun q => hn ((own_mark hε b).mp q), fun b q => ?_, st.tr⟩
                  rcases st.ow b ((own_unmark hob b).mp q) with z | z
                  · exact .inl ((own_mark hε b).mp z)
                  · exact .inr z
              | some d =>
                rw [e1] at p
                simp only at p
                obtain ⟨y, hy, rd⟩ : ∃ y, ys[k]? = some y ∧ Rp X.K H' y d := by
                  have hk := (List.getElem?_eq_some_iff.mp e1).1
                  have hk2 : k < ys.length := by rw [ry.length]; exact hk
                  obtain ⟨d', h1, h2⟩ := ry.getV (List.getElem?_eq_getElem hk2)
                  rw [e1] at h1
                  cases h1
                  exact ⟨_, List.getElem?_eq_getElem hk2, h2⟩
                cases e2 : t d ε' with
                | none => rw [e2] at p; cases p
                | some ε1 =>
                  rw [e2] at p
                  simp only at p
                  right
                  refine ⟨⟨ys, y, .inl (.inl hys), hy⟩, fun σ2 H2 => ∃ ε', SR X.K (lend c i a) ε' σ2 H2 ∧ Step (ε.set i (.io (.l ds))) σ H ε' σ2 H2 ∧ forO i t mb m (k + 1) ε' = .ok .nx ε2, fun σ2 H2 z => ⟨m, Nat.lt_succ_self m, z⟩, fun v H2 yv => ?_⟩
                  obtain ⟨eH, yv⟩ := yv
                  subst eH
                  have ev := yv ys (.inl (.inl hys))
                  rw [hy] at ev
                  cases ev
                  refine ⟨ε', d, ε1, S', rd, e2, fun σ3 H3 t3 S3 _ => ⟨ε1, S3, ?_⟩⟩
                  cases e3 : mb ε1 with
                  | stuck => rw [e3] at p; cases p
                  | exc C ε' => rw [e3] at p; cases p
                  | ok f ε4 =>
                    rw [e3] at p
                    cases f with
                    | nx => exact fun σ4 H4 t4 S4 => ⟨ε4, S4, (st.trans t3).trans t4, p⟩
                    | ct => cases p
                    | bk => cases p
                    | rt d => cases p
                    | rn ob => cases p
        · exact h.elim
      | ct => rw [hf] at h; exact h.elim
      | bk => rw [hf] at h; exact h.elim
      | rt d => rw [hf] at h; exact h.elim
      | rn ob => rw [hf] at h; exact h.elim
  · exact h.elim
end
end MM

/-! ML25: x.extend(t) of an own list with a tuple -/
namespace MM
open PySem PySem.Spec PyProof.Rows L2
theorem extend_tup (l : Addr) (items : Array Value) (n : Nat) (b : Addr) (o : Obj) (items2 : Array Value) (n2 : Nat) (hc : o.cls = .type "tuple") (hd : o.data = .seq items2 n2)
    (hlong : ¬ (!items.isEmpty && Builtin.List.listTooLong (items.size + items2.size)) = true) (hs1 : items.size ≤ sizeLine) (hs2 : items.size + items2.size ≤ sizeLine + 1) :
    Meets (Builtin.«list.extend» ⟨[.ref l, .ref b], []⟩) (fun _ R s => s.heap.get? l = some { cls := .type "list", dict := none, data := .seq items n, slots := #[] } ∧ s.heap.get? b = some o ∧ R (.ok (.ret Value.none)) { s with heap := s.heap.update l (Obj.mapSeq fun x => x ++ items2), toks := s.toks }) :=
  .of_wp fun prog w A R s h => by
    obtain ⟨hl, hb, h⟩ := h
    have hz' : (items ++ items2).size ≤ sizeLine + 1 := by rw [Array.size_append]; exact hs2
    show wpAny _ A.in1 (Builtin.List.listExtendWith (.ref l) (.ref b) .none) _ _ s
    unfold Builtin.List.listExtendWith
    refine wpAny_bind (wpAny_typeOf ⟨o, hb, hc⟩ ?_)
    have h1 : (Builtin.List.listSameRef (.ref l) (.ref b) || Value.type "tuple" == Value.type "list" || Value.type "tuple" == Value.type "tuple") = true := by simp
    simp only [h1, if_true]
    refine wpAny_bind ?_
    unfold Builtin.List.listItems
    refine wpAny_bind (wpAny_seqItems hb hd (wpAny_pure ?_))
    refine wpAny_bind ?_
    refine wpAny_bind (wpAny_seqItems hl rfl (wpAny_pure ?_))
    simp only [hlong, if_false]
    refine wpAny_bind (wpAny_updateSeq hl rfl ?_ (hz := hs1) (_hz' := hz'))
    exact wpAny_pure ⟨_, rfl, h⟩
section
variable {X : Cx} {c : Mc} {pos apos : Pos}
def rExtendT (K : PySem.W.Frag) : V → List V → Hp → VK → Prop := fun x vs H Q => ∃ l b xs zs, x = .ref l ∧ vs = [.ref b] ∧ H l = some (.lst xs) ∧ SqT K H b zs ∧ xs.length + zs.length ≤ sizeLine ∧ Q .non (upd H l (.lst (xs ++ zs)))
theorem mt_extendT : MtM X "list.extend" (rExtendT X.K) := by
  intro pins s σ H x vs v us Q I rx rv h
  obtain ⟨l, b, xs, zs, rfl, rfl, hH, hB, hz, q⟩ := h
  cases rx
  obtain ⟨u, rfl, ru⟩ := rv.one
  cases ru
  obtain ⟨z, its, n, r, hl, e⟩ := I.lstM hH
  obtain ⟨its2, r2, ⟨o, ho, hc, n2, hd⟩, z2⟩ := I.tuple hB
  have hl2 := r2.length
  have hsz : its.toArray.size + its2.toArray.size ≤ sizeLine := by rw [List.size_toArray, List.size_toArray]; omega
  have hlong : ¬ (!its.toArray.isEmpty && Builtin.List.listTooLong (its.toArray.size + its2.toArray.size)) = true := by
    rw [notLongL hsz, Bool.and_false]
    exact Bool.false_ne_true
  refine call_meets F.slot_list_extend ⟨_, e, rfl⟩ F.entry_list_extend (F.args_list_extend_2 _ _)
    (extend_tup l its.toArray n b o its2.toArray n2 hc hd hlong (by rw [List.size_toArray]; omega) (by omega)) ⟨e, ho, ?_⟩
  refine ⟨.non, _, I.lset (its' := its ++ its2) hH e (by simp) (r.append r2) ?_, rfl, q⟩
  rw [List.length_append]
  omega
def mExtT (i : Nat) (m : M PD) : M Opd := fun ε => match ownL ε i with
  | none => .stuck
  | some _ => (m ε).bind fun d ε1 => match ownL ε1 i with
    | none => .stuck
    | some ds => match d with
      | .tuple es => if ds.length + es.length ≤ big then .ok (.val .none) (setOb ε1 i (.l (ds ++ es))) else .stuck
      | _ => .stuck
@[simp] theorem mExtT_ap (i : Nat) (m : M PD) (ε : En) : mExtT i m ε = (match ownL ε i with
  | none => .stuck
  | some _ => (m ε).bind fun d ε1 => match ownL ε1 i with
    | none => .stuck
    | some ds => match d with
      | .tuple es => if ds.length + es.length ≤ big then .ok (.val .none) (setOb ε1 i (.l (ds ++ es))) else .stuck
      | _ => .stuck) := rfl
theorem je_extT {i : Nat} {o e : Expr} {m : M PD} (ho : PE X o (tVar i)) (he : JV X c e m) (hbase : attributeBase o "extend" X.env (eval o X.env) = eval o X.env := by rfl)
    (hfew : ((backTo pos (starEach [e] X.env)).all (fun x => !x.1) && (backToKw pos (keywordEach [] X.env)).all (fun x => x.1.isSome) && decide ([e].length + ([] : List Keyword).length + (if ([] : List Keyword).isEmpty then 0 else 1) < 30)) = true := by rfl)
    (hline : (apos.endLine == pos.line) = true := by rfl) (hs : starEach [e] X.env = (false, eval e X.env) :: starEach [] X.env := by rfl) (hplain : (backTo pos (starEach [] X.env)).any (·.1) = false := by rfl) :
    JE X c (.Call (.Attribute o "extend" apos) [e] [] pos) (mExtT i m) :=
  pe_imp (pe_bm PySem.F.plainAttrs_list PySem.F.slot_list_extend PySem.F.type_list_extend mt_extendT ho (pa_cons he pa_nil hs) hbase hfew hline hs hplain) fun σ H Q ⟨ε, S, h⟩ => by
    unfold mExtT at h
    cases e0 : ownL ε i with
    | none => simp only [e0] at h; exact h.elim
    | some ds0 =>
      simp only [e0] at h
      obtain ⟨a, xs, h1, h2, h3, _⟩ := S.atL e0
      refine ⟨_, h1, .inl ⟨rfl, xs, SqL.of h2⟩, ε, S, ?_⟩
      cases e1 : m ε with
      | stuck => rw [e1] at h; exact h
      | exc C ε' => rw [e1] at h; exact h
      | ok d ε1 =>
        rw [e1, Out.bind_ok] at h
        intro v H1 t1 S1 r1
        cases e2 : ownL ε1 i with
        | none => simp only [e2] at h; exact h.elim
        | some ds =>
          simp only [e2] at h
          obtain ⟨a', ys, g1, g2, g3, _⟩ := S1.atL e2
          have ea : some (some (V.ref a)) = some (some (V.ref a')) := h1.symm.trans g1
          cases ea
          split at h
          · rename_i es
            by_cases hl : ds.length + es.length ≤ big
            · rw [if_pos hl] at h
              cases r1 with
              | tup hb rb =>
                rename_i b zs
                obtain ⟨S2, t2⟩ := S1.setL e2 g1 g2 (g3.append rb)
                exact ⟨a, b, ys, zs, rfl, rfl, g2, hb, by rw [g3.length, rb.length]; exact big_line hl, h _ _ (t1.trans t2) S2 .non trivial⟩
            · rw [if_neg hl] at h; exact h.elim
          · exact h.elim
end
end MM

/-! ML26: errors of own classes: raised, caught, asked for their class; defs that run while one is handled. -/
namespace MM
open PySem PySem.Spec PyProof.Rows L2

/-! ### a def that runs while an error is handled -/
structure FnN (P : Program) (w : World) (K : PySem.W.Frag) (mg : Str → Option Value) (base : Heap) (k : Nat) (f : Addr) (fd : FuncData) (ps : List Str) (sp : Sp) : Prop where
  cnt : ∀ vs H Q E, sp vs H Q E → vs.length = ps.length
  go : ∀ (A : Around) (fr : List Env) (s : Shared) (H : Hp) (ar : Args) (us : List Value) (vs : List V) (Q : VK) (E : XK), L2H.RoomH k A → Env0 P w K mg base A fr s H → BindsTo s fd ar (ps.zip us) → Vals vs us → sp vs H Q E →
    codeAny (model P w) A (.call (.ref f) ar) (CR (L2.CX P w) fr P w H s Q E) s
/-- its body's context -/
abbrev cxN (P : Program) (w : World) (K : PySem.W.Frag) (mg : Str → Option Value) (base : Heap) (N : List Str) (qual : Str) (scope : Scope) (f : Addr) (cd : Value) (A : Around) (fr : List Env) (s : Shared) (H : Hp) (E : XK) : Cx :=
  { cxOf (L2.CX P w) P w K mg base N qual scope f cd A fr s H E with calm := false }
section
variable {P : Program} {w : World} {K : PySem.W.Frag} {mg : Str → Option Value} {base : Heap}
theorem fn_raw {x qual : Str} {st : Stmt} {f : Addr} {fd : FuncData} {N ps : List Str} {k : Nat} {sp : Sp} (F : Fun K x qual st f fd) (S : FnScope N ps (defScope st)) (cnt : ∀ vs H Q E, sp vs H Q E → vs.length = ps.length)
    (bd : ∀ (cdv : Value) (A : Around) (fr : List Env) (s : Shared) (H : Hp) (vs : List V) (Q : VK) (E : XK), L2H.RoomH k (A.deeper (envOfC qual (defScope st) s.heap.objs.size f cdv)) → sp vs H Q E →
      ∃ t, PSs (cxN P w K mg base N qual (defScope st) f cdv A fr s H E) (defBody st) t ∧ t { nx := fun _ H' => Q .non H', rt := Q } (L2.start N vs) H) : FnN P w K mg base (k + 1) f fd ps sp := by
  obtain ⟨oc, od, kV, doc, pm, an, cdv, ct, osl, rfl, lk, hcd⟩ := F.ex
  refine ⟨cnt, fun A fr s H ar us vs Q E room e0 bnd rel want => ?_⟩
  have lenV := cnt _ _ _ _ want
  have inH : K.In s.heap := e0.mod.kin.keeps fun b o e => (e0.bs b o e).1
  have noLim : s.heap.NoLimit := e0.mod.nolimit.keeps fun b o e => (e0.bs b o e).1
  have fb := e0.mod.kin _ _ lk
  have pin : L2H.PinOk fr H s (f, _) := ⟨(e0.bs _ _ fb).1, (e0.bs _ _ fb).2, (fun m => by
    have z := (e0.funs.mem m).1
    rw [fb] at z; cases z), (fun v z => by cases z)⟩
  have kinds : ∀ y ∈ ps.zip us, (defScope st).names.lookup y.1 = some .local ∨ ((defScope st).names.lookup y.1 = some .cell ∧ ((cellsFrom (s.heap.objs.size + 1) (defScope st).names []).lookup y.1).isSome = true) := by
    rintro ⟨n, v⟩ hy
    rcases S.par n (List.of_mem_zip hy).1 with z | z
    · exact .inl z
    · exact .inr ⟨z, PySem.W.cellsFrom_some _ _ _ (.inl z)⟩
  refine codeAny_call_function room.depth (inH _ _ lk) rfl S.co S.gen rfl (PySem.W.codeRec_of inH hcd) (bnd _ _ _ _ (wpAny_newFunctionEnv_cells S.kind kinds fun env henv s1 x1 => ?_))
  subst henv
  refine ⟨noLim.keeps x1.toInCall.keep, codeAny_func ?_⟩
  obtain ⟨t, ht, now⟩ := bd cdv A fr s H vs Q E (room.deeper _) want
  have J := L2H.inv_startH (CX := L2.CX P w) (qual := qual) (cd := cdv) (f := f) (E := E) S pin e0 lenV rel x1
  have I : Inv (cxN P w K mg base N qual (defScope st) f cdv A fr s H E) [] (L2.start N vs) H s1 :=
    ⟨⟨J.ok.mod, J.ok.kind, J.ok.glob, J.ok.blt, J.ok.above, J.ok.inj, J.ok.has, J.ok.cab, (fun z => by cases z), J.ok.frames, J.ok.stk, J.ok.exf, J.ok.bs, J.ok.bsz, J.ok.noex, J.ok.exfs, J.ok.funs, J.ok.frf⟩,
      J.os, J.bare, J.base, J.loc, J.cell, J.free, J.freeC, (fun p hp => by cases hp), J.hok, J.len⟩
  refine wpAny_mono (ht.run [] s1 (L2.start N vs) H _ I now) (fun fl s2 hs => ?_) fun e s2 hs => hs
  cases fl with
  | ret u =>
    obtain ⟨v, _, H2, J2, rv, q⟩ := hs
    exact ⟨v, H2, J2.os, J2.bare, J2.base, J2.hok, rv, q⟩
  | next =>
    obtain ⟨_, H2, J2, q⟩ := hs
    exact ⟨V.non, H2, J2.os, J2.bare, J2.base, J2.hok, rfl, q⟩
  | brk => exact hs.choose_spec.choose_spec.2.elim
  | cont => exact hs.choose_spec.choose_spec.2.elim
end
section
variable {P : Program} {w : World} {K : PySem.W.Frag} {mg : Str → Option Value} {base : Heap}
/-- THE RULE for a def, while an error is handled -/
theorem fn_okN {x qual : Str} {st : Stmt} {f : Addr} {fd : FuncData} {N ps : List Str} {k : Nat} {m : M Fl} (F : Fun K x qual st f fd) (S : FnScope N ps (defScope st))
    (hb : ∀ (cdv : Value) (A : Around) (fr : List Env) (s : Shared) (H : Hp) (E : XK) (c : Mc), L2H.RoomH k (A.deeper (envOfC qual (defScope st) s.heap.objs.size f cdv)) → TK (cxN P w K mg base N qual (defScope st) f cdv A fr s H E) c →
      JB (cxN P w K mg base N qual (defScope st) f cdv A fr s H E) c (defBody st) m) : FnN P w K mg base (k + 1) f fd ps (spF K mg ps.length (runF ps.length N.length m)) := by
  have hpn : ps.length ≤ N.length := by
    have z := congrArg List.length S.pre
    rw [List.length_take] at z
    omega
  refine fn_raw F S (fun vs H Q E ⟨as, hl, A, _⟩ => by rw [← A.len]; exact hl) (fun cdv A fr s H vs Q E room ⟨as, hl, AR, h⟩ => ?_)
  have tk0 : Takes (cxN P w K mg base N qual (defScope st) f cdv A fr s H E) (fun cls d _ H => E cls d H) := takes_of rfl rfl rfl rfl
  have body := hb cdv A fr s H E (mcOf H as vs fun C ε σ H' => ∀ cls, mg C = some cls → E cls none H') room (tk0.imp fun cls d σ H' ⟨C, ε, h1, h2, _, h4⟩ => by subst h2; exact h4 cls h1)
  refine ⟨_, body, as ++ List.replicate (N.length - as.length) Sl.no, entry_sr (N := N) AR (by omega), ?_⟩
  unfold runF at h
  rw [hl]
  cases e : m (as ++ List.replicate (N.length - ps.length) Sl.no) with
  | stuck => rw [e] at h; exact h
  | exc C ε =>
    rw [e] at h
    simp only [finF] at h
    by_cases hle : as.length ≤ ε.length
    · rw [if_pos hle] at h
      exact fun σ' H' t S' cls hc => h cls H' hc (exit_as AR S' hle)
    · rw [if_neg hle] at h; exact h.elim
  | ok fl ε =>
    rw [e] at h
    cases fl with
    | nx =>
      simp only [finF] at h
      by_cases hle : as.length ≤ ε.length
      · rw [if_pos hle] at h
        exact fun σ' H' t S' => h _ H' (exit_as AR S' hle) .non
      · rw [if_neg hle] at h; exact h.elim
    | rt d =>
      simp only [finF] at h
      by_cases hle : as.length ≤ ε.length
      · rw [if_pos hle] at h
        exact fun v σ' H' t S' r => h v H' (exit_as AR S' hle) r
      · rw [if_neg hle] at h; exact h.elim
    | rn ob =>
      simp only [finF] at h
      by_cases hle : as.length ≤ ε.length
      · rw [if_pos hle] at h
        exact fun v σ' H' t S' r f => h v H' (exit_as AR S' hle) r fun b q => ⟨(f b q).1, fun z => (f b q).2 (own_outs AR S' z)⟩
      · rw [if_neg hle] at h; exact h.elim
    | bk => exact h.elim
    | ct => exact h.elim
end
section
variable {X : Cx} {c : Mc} {pos p : Pos}
theorem pe_callN {k : Nat} {f : Addr} {fd : FuncData} {ps : List Str} {sp : Sp} {E : L2.St → XK} {x : Str} {e : Expr} {es : List Expr} {t : TA} (G : FnN X.prog X.w X.K X.mg X.base k f fd ps sp) (room : L2H.RoomH k X.A) (hg : Gl X x)
    (hm : X.mg x = some (.ref f)) (hk : PySem.W.keepIn X.K (.ref f) = true) (hb : Binds X.K fd ps []) (hx : ∀ σ, PassesAt (L2.CX X.prog X.w) X σ (E σ)) (ha : PA X (e :: es) t) (hdb : (x == ("__debug__" : Str)) = false := by decide)
    (he : starEach (e :: es) X.env = (false, eval e X.env) :: starEach es X.env := by rfl) (hpl : (backTo pos (starEach es X.env)).any (·.1) = false := by rfl) : PE X (.Call (.Name x p) (e :: es) [] pos) (tCallS sp E t) := by
  refine ⟨fun pins s σ H Q I0 want => ?_⟩
  refine wpAny_Call_Name_kw (ld_glob I0 hg hm (PySem.W.callWith_K (h₀ := X.base) I0.ok.mod.kin hk (thn (ha.run pos pins s σ H _ I0 want) fun us s1 ⟨vs, H1, I, r, q⟩ => ⟨I.kIn, ?_⟩) he hpl) hdb)
  have many : us.length = ps.length := by rw [← r.length]; exact G.cnt _ _ _ _ q
  have bnd := hb s1 us I.kIn (by rw [List.append_nil]; exact many)
  rw [List.append_nil] at bnd
  refine wpAny_call (codeAny_mono (G.go X.A X.stack s1 H1 ⟨us, []⟩ us vs Q (E σ) room I.env0 bnd r q) fun res s2 hq => ?_)
  match res, hq with
  | .error e2, hq => exact hx σ pins H1 s1 e2 s2 I hq
  | .ok (.ret u), hq => exact I.after hq
  | .ok .next, hq => exact hq.elim
  | .ok .brk, hq => exact hq.elim
  | .ok .cont, hq => exact hq.elim
theorem je_callN {k np : Nat} {f : Addr} {fd : FuncData} {ps : List Str} {F : List Sl → FOut} {x : Str} {e : Expr} {es : List Expr} {ma : M (List Opd)} (G : FnN X.prog X.w X.K X.mg X.base k f fd ps (spF X.K X.mg np F)) (hr : L2H.RoomH k X.A) (hg : Gl X x)
    (hm : X.mg x = some (.ref f)) (hk : PySem.W.keepIn X.K (.ref f) = true) (hb : Binds X.K fd ps []) (tk : TK X c) (ha : JO X c (e :: es) ma) (hl : LenIs ma np) (hdb : (x == ("__debug__" : Str)) = false := by decide)
    (he : starEach (e :: es) X.env = (false, eval e X.env) :: starEach es X.env := by rfl) (hpl : (backTo pos (starEach es X.env)).any (·.1) = false := by rfl) : JE X c (.Call (.Name x p) (e :: es) [] pos) (mCall F ma) :=
  pe_imp (pe_callN G hr hg hm hk hb (fun σ => passAt tk σ) ha hdb he hpl) fun σ H Q h => call_sp hl h
end

/-! ### try .. except X as n -/
/-- the suite starts with the error in n's slot, tracked for good -/
def wT (K : PySem.W.Frag) (cv : Value) (i : Nat) (t : TS) (D : Ends) : WX := fun cls d σ H =>
  PySem.W.exmOne K cls cv = some true ∧ ∀ (a : Addr) (oe : Obj), H a = none → Zc cls d oe → (∃ vs, oe.data = .fields vs) →
    t { nx := fun σ' H' => D.nx (σ'.set i none) H', rt := D.rt, bk := fun σ' H' => D.bk (σ'.set i none) H', ct := fun σ' H' => D.ct (σ'.set i none) H' } (σ.set i (some (.ref a))) (upd H a (.frz oe (.ext fun _ => True)))
section
variable {X : Cx} {pins : List (Addr × Obj)} {σ : L2.St} {H : Hp} {s : Shared}
theorem inv_tracked {a : Addr} {oe : Obj} (J : Inv (X.suite a ((a, oe) :: (X.pn ++ pins))) [] σ H s) (h0 : X.s_0.heap.get? a = none) (hp : ∀ p ∈ X.pn ++ pins, p.1 ≠ a) : Inv (X.suite a X.pn) pins σ (upd H a (.frz oe (.ext fun _ => True))) s := by
  obtain ⟨ga, na, nl, nf, nc⟩ := J.pin (a, oe) (List.mem_append_left _ List.mem_cons_self)
  have ne : ∀ {b : Addr} {o : HO}, H b = some o → b ≠ a := fun {b o} e z => by rw [z, na] at e; cases e
  have mine : (X.suite a X.pn).Ok := ⟨J.ok.mod, J.ok.kind, J.ok.glob, J.ok.blt, J.ok.above, J.ok.inj, J.ok.has, J.ok.cab, J.ok.hd, J.ok.frames, J.ok.stk, J.ok.exf, J.ok.bs, J.ok.bsz, J.ok.noex, J.ok.exfs, J.ok.funs, J.ok.frf⟩
  refine ⟨mine, J.os, J.bare, ⟨J.base.keep, J.base.slot, fun b o e n x => ?_, J.base.there, fun b xs e => ?_, fun b o x e => ?_, fun b ps e => ?_⟩, J.loc, J.cell, ?_, fun y c e => ?_, fun p m => ?_, fun b o e => ?_, J.len⟩
  · rw [upd_ne (fun z => by rw [z] at e; exact absurd e (by rw [show (X.suite a ((a, oe) :: (X.pn ++ pins))).s_0 = X.s_0 from rfl, h0]; exact fun z => nomatch z))]
    exact J.base.free b o e n x
  · rw [upd_ne (ne (J.base.tups b xs e))]; exact J.base.tups b xs e
  · rw [upd_ne (ne (J.base.frzs b o x e))]; exact J.base.frzs b o x e
  · obtain ⟨m, z⟩ := J.base.tbls b ps e
    exact ⟨m, by rw [upd_ne (ne z)]; exact z⟩
  · rw [upd_ne (fun z => nl z.symm)]; exact J.free
  · rw [upd_ne (fun z => by
      subst z
      obtain ⟨v, o, ho, hd⟩ := J.cell y c e
      rw [ga] at ho; cases ho
      exact nc v hd)]; exact J.freeC y c e
  · obtain ⟨q1, q2, q3⟩ := J.pin p (List.mem_append_left _ (List.mem_cons_of_mem _ m))
    exact ⟨q1, by rw [upd_ne (hp p m)]; exact q2, q3⟩
  · by_cases z : b = a
    · subst z
      rw [upd_same] at e
      cases e
      exact ⟨ga, trivial, ⟨_, ga⟩, fun _ _ _ _ => trivial⟩
    · rw [upd_ne z] at e
      exact (J.hok b o e).stay (fun _ _ _ q => q) (fun d q => by rw [upd_ne (ne q)]; exact q) fun d xs q => by rw [upd_ne (ne q)]; exact q
/-- what a catch starts from -/
theorem inv_untried {a : Addr} (I : Inv (X.suite a X.pn) pins σ H s) (ok : X.Ok) : Inv X pins σ H s :=
  ⟨ok, I.os, I.bare, I.base, I.loc, I.cell, I.free, I.freeC, I.pin, I.hok, I.len⟩
end
section
variable {X : Cx} {x n : Str} {cv : Value} {i : Nat} {body suite : List Stmt} {b₀ : Stmt} {np pos pos' : Pos} {tb : WX → TS} {t : TS}
theorem ps_tryT (hex : X.ex = []) (stk : X.stack = X.env :: X.outer) (frm : X.env.frame = some X.env.locals) (nd : X.N.Nodup) (hi : X.N[i]? = some n) (loc : X.env.kindOf n = some .local) (hc : Names X x cv)
    (hb : ∀ (W : WX) (pn : List (Addr × Obj)) (xe : Value → Shared → Prop), Takes (X.tr pn xe) W → PassesOwn (model X.prog X.w) X.A X.env xe → PSs (X.tr pn xe) body (tb W))
    (hsu : ∀ a : Addr, PSs (X.suite a X.pn) (b₀ :: suite) t) : PS X (.Try body [.ExceptHandler (some (.Name x np)) (some n) (b₀ :: suite) pos'] [] [] pos) (fun D σ H => tb (wT X.K cv i t D) D σ H) := by
  refine ⟨fun pins s σ H D I want => ?_⟩
  have ok := I.ok
  have frs0 : X.A.frames = some (X.env :: X.outer) := by rw [← stk]; exact ok.frames
  refine wpAny_Try_except (wpAny_mono ((hb (wT X.K cv i t D) (X.pn ++ pins) _ (fun u s1 xx => ?_) PassesOwn.looking).run [] s σ H D (I.toTry _) want) (fun fl s1 hsp => ?_) (fun e s1 he => he))
  · obtain ⟨a, B, sI, pins1, σ1, H1, cls, d, rfl, J0, nb, up, sky, na, os, ag, isC, goOn⟩ := xx
    have J : Inv X pins σ1 H1 sI := J0.ofTry ok
    rw [show (X.tr (X.pn ++ pins) _).stack = X.env :: X.outer from stk] at sky
    refine Sky.land Zc.steady frs0 frm sky fun h3 fl3 up3 => ?_
    obtain ⟨oe3, vs3, at3, zc3, fields3⟩ := fl3.there
    have aB : B.get? a = none := fl3.2.1
    have nFr : a ∉ frs (X.env :: X.outer) := fun hm => by
      obtain ⟨_, o2, e2, k2⟩ := fl3.2.2.1.mem hm
      rw [at3] at e2; cases e2
      exact k2 _ fields3
    have nLoc : a ≠ X.env.locals := fun z => nFr (List.mem_filterMap.mpr ⟨X.env, List.mem_cons_self, by rw [frm, z]⟩)
    have nFs : a ∉ X.fs := fun hm => by
      obtain ⟨e, he, q⟩ := List.mem_filterMap.mp hm
      exact nFr (List.mem_filterMap.mpr ⟨e, List.mem_cons_of_mem _ he, q⟩)
    have J3 : Inv X pins σ1 H1 { s1 with heap := h3 } := J.landed nb fl3.1 (up.trans up3) os ag
    -- the error is new
    have new : ∀ b o, sI.heap.get? b = some o → b ∉ frs X.stack → b ≠ a := fun b o e k z => by
      have q := nb b o e k
      rw [z, aB] at q; cases q
    have new0 : X.s_0.heap.get? a = none := by
      cases e : X.s_0.heap.get? a with
      | none => rfl
      | some o =>
        obtain ⟨o2, e2⟩ := J.base.there a o e (by rw [hex]; exact List.not_mem_nil)
        exact absurd rfl (new a o2 e2 (by rw [stk]; exact nFr))
    have newP : ∀ q ∈ X.pn ++ pins, q.1 ≠ a := fun q m => by
      obtain ⟨e, _, k1, k2, _⟩ := J.pin q m
      exact new q.1 q.2 e fun hm => (List.mem_cons.mp (J.stkSub q.1 hm)).elim k1 k2
    refine wpAny_handleBy_cons (codeAny_handlers_test ?_) (by intro z; cases z)
    have kindOf : PySem.W.Looks (model X.prog X.w) h3 (typeOf (.ref a)) cls := fun A Q E s k q => wpAny_typeOf_ref (k _ _ at3) (by rw [zc3.1]; exact q)
    have isIt := PySem.W.exm_one (M := model X.prog X.w) J3.kIn kindOf isC
    have S3 := J3.suite at3 fields3 na nLoc nFs
    have nameIs : ∀ {Q : Value → Shared → Prop} {E : Value → Shared → Prop}, Q cv { s1 with heap := h3 } → wpAny (model X.prog X.w) (X.A.mark (some (.ref a))) (eval (.Name x np) X.env) Q E { s1 with heap := h3 } := fun {Q E} q => by
      obtain ⟨g1, g2, g3 | ⟨g3, g4, g5⟩⟩ := hc
      · exact ld_glob (X := X.suite a _) S3 g1 g3 q g2
      · exact ld_blt (X := X.suite a _) S3 g1 g3 g4 q g5 g2
    refine nameIs (isIt.here (codeAny_handlers_suite_as (HandSPX.lands_againZ fl3 fun h4 fl4 up4 => ?_)))
    obtain ⟨oe4, vs4, at4, zc4, fields4⟩ := fl4.there
    have J4 : Inv X pins σ1 H1 { s1 with heap := h4 } := J.landed nb fl4.1 ((up.trans up3).trans up4) os ag
    refine store_ok (X := X.suite a ((a, oe4) :: (X.pn ++ pins))) (v := .ref a) (J4.suite at4 fields4 na nLoc nFs) nd hi (.inl loc) rfl (fun s5 S5 => ?_) (.inr loc)
    have T5 := inv_tracked S5 new0 newP
    refine wpAny_mono ((hsu a).run pins s5 _ _ _ T5 (goOn a oe4 na zc4 ⟨_, fields4⟩)) (fun fl s6 hsp => ?_) (fun _ _ z => z.elim)
    have fin : ∀ {σ6 : L2.St} {H6 : Hp} {Q : Shared → Prop}, Inv (X.suite a X.pn) pins σ6 H6 s6 → (∀ s7, Inv X pins (σ6.set i none) H6 s7 → Q s7) →
        wpAny (model X.prog X.w) X.A (do bindName X.env n .none; unbindBehindTheSuite X.env n pos') (fun _ s7 => Q s7) X.xe s6 := fun {σ6 H6 Q} S6 k => gone_ok (inv_untried S6 ok) nd hi loc k
    match fl, hsp with
    | .next, ⟨_, _, S6, q⟩ => exact fin S6 fun s7 J7 => ⟨_, _, J7, q⟩
    | .brk, ⟨_, _, S6, q⟩ => exact fin S6 fun s7 J7 => ⟨_, _, J7, q⟩
    | .cont, ⟨_, _, S6, q⟩ => exact fin S6 fun s7 J7 => ⟨_, _, J7, q⟩
    | .ret u, ⟨_, _, _, S6, r, q⟩ => exact fin S6 fun s7 J7 => ⟨_, _, _, J7, r, q⟩
  · match fl, hsp with
    | .next, ⟨_, _, J, q⟩ => exact wpAny_execs_nil ⟨_, _, J.ofTry ok, q⟩
    | .brk, ⟨_, _, J, q⟩ => exact ⟨_, _, J.ofTry ok, q⟩
    | .cont, ⟨_, _, J, q⟩ => exact ⟨_, _, J.ofTry ok, q⟩
    | .ret u, ⟨_, _, _, J, r, q⟩ => exact ⟨_, _, _, J.ofTry ok, r, q⟩
end
/-! ### the program's errors -/
def excNames : List Str := ["NoGame", "NoPlan", "NoThing", "TooMany", "NoState", "NoLate", "NoStretch", "NoBeats", "NoText", "NoCuts", "Done", "Nothing", "NoRow"]
/-- an error's class C, right below the class at CA -/
structure ExF (K : PySem.W.Frag) (CA C : Addr) (x : Str) : Prop where
  nm : nmR K x C
  ex : PySem.W.excIn K C [.type "ValueError", .type "Exception", .type "BaseException", .type "object"] "ValueError.__new__" = true
  kp : PySem.W.keepIn K (.ref C) = true
  ty : PySem.W.typeIn K (.ref C) = some (.type "type")
  mro : (PySem.W.clsIn K C).map (·.mro) = some [.ref C, .ref CA, .type "ValueError", .type "Exception", .type "BaseException", .type "object"]
  ga : PySem.W.findIn K (.ref C) "__getattribute__" = some (some (.builtin "BaseException.__getattribute__"))
  gt : PySem.W.findIn K (.ref C) "__getattr__" = some none
  hd : PySem.W.hasDictIn K C = true
  cl : PySem.W.findIn K (.ref C) "__class__" = some (some (.builtin "object.__class__"))
def AllEx (K : PySem.W.Frag) (CA : Addr) : List Addr → List Str → Prop
  | [], [] => True
  | C :: cs, x :: xs => ExF K CA C x ∧ AllEx K CA cs xs
  | _, _ => False
structure Exs (K : PySem.W.Frag) (mg : Str → Option Value) where
  CA : Addr
  cs : List Addr
  top : mg "AskError" = some (.ref CA)
  mg : ∀ x a, nmR K x a → mg x = some (.ref a)
  all : AllEx K CA cs excNames
  nd : (CA :: cs).Nodup
  tyA : PySem.W.typeIn K (.ref CA) = some (.type "type")
  mroA : (PySem.W.clsIn K CA).map (·.mro) = some [.ref CA, .type "ValueError", .type "Exception", .type "BaseException", .type "object"]
  gs : PySem.W.specialIn K (.builtin "object.__class__") "__get__" = some (some (.builtin "getset_descriptor.__get__"))
  tk : PySem.W.takesIn K (.builtin "object.__class__") = some true
section
variable {K : PySem.W.Frag} {mg : Str → Option Value}
theorem nmR_eq {x : Str} {a b : Addr} (h : nmR K x a) (h' : nmR K x b) : a = b := by
  unfold nmR at h h'
  rw [h] at h'
  cases h'; rfl
theorem allEx_at {CA : Addr} : ∀ {cs : List Addr} {xs : List Str} {x : Str}, AllEx K CA cs xs → x ∈ xs → ∃ C, C ∈ cs ∧ ExF K CA C x
  | [], [], x, _, m => by cases m
  | [], _ :: _, x, h, _ => h.elim
  | _ :: _, [], x, h, _ => h.elim
  | C :: cs, y :: xs, x, h, m => by
    rcases List.mem_cons.mp m with e | m
    · subst e; exact ⟨C, List.mem_cons_self, h.1⟩
    · obtain ⟨D, m1, q⟩ := allEx_at h.2 m
      exact ⟨D, List.mem_cons_of_mem _ m1, q⟩
theorem allEx_ne {CA : Addr} : ∀ {cs : List Addr} {xs : List Str} {x y : Str} {C D : Addr}, AllEx K CA cs xs → xs.Nodup → cs.Nodup → x ∈ xs → y ∈ xs → nmR K x C → nmR K y D → C = D → x = y
  | [], [], x, _, _, _, _, _, _, m, _, _, _, _ => by cases m
  | [], _ :: _, _, _, _, _, h, _, _, _, _, _, _, _ => h.elim
  | _ :: _, [], _, _, _, _, h, _, _, _, _, _, _, _ => h.elim
  | A :: cs, z :: xs, x, y, C, D, h, n1, n2, mx, my, hx, hy, e => by
    subst e
    rcases List.mem_cons.mp mx with ex | mx2
    · rcases List.mem_cons.mp my with ey | my2
      · rw [ex, ey]
      · subst ex
        obtain ⟨B, mB, fB⟩ := allEx_at h.2 my2
        have e1 := nmR_eq h.1.nm hx
        have e2 := nmR_eq fB.nm hy
        exact absurd (e1.trans e2.symm ▸ mB) (List.nodup_cons.mp n2).1
    · rcases List.mem_cons.mp my with ey | my2
      · subst ey
        obtain ⟨B, mB, fB⟩ := allEx_at h.2 mx2
        have e1 := nmR_eq h.1.nm hy
        have e2 := nmR_eq fB.nm hx
        exact absurd (e1.trans e2.symm ▸ mB) (List.nodup_cons.mp n2).1
      · exact allEx_ne h.2 (List.nodup_cons.mp n1).2 (List.nodup_cons.mp n2).2 mx2 my2 hx hy rfl
theorem mro_sub {C : Addr} {l : List Value} {b : Value} (h : (PySem.W.clsIn K C).map (·.mro) = some l) (hl : l.isEmpty = false) : PySem.W.subIn K (.ref C) b = some (l.contains b) := by
  show PySem.W.mroIn K C b = _
  unfold PySem.W.mroIn
  cases e : PySem.W.clsIn K C with
  | none => rw [e] at h; cases h
  | some cd =>
    rw [e] at h
    cases h
    show (if cd.mro.isEmpty then none else some (cd.mro.contains b)) = _
    rw [hl]
    rfl
theorem mro_cls {C : Addr} {l : List Value} (h : (PySem.W.clsIn K C).map (·.mro) = some l) : (PySem.W.clsIn K C).isSome = true := by
  cases e : PySem.W.clsIn K C with
  | none => rw [e] at h; cases h
  | some cd => rfl
variable (X : Exs K mg)
theorem Exs.at {x : Str} (h : x ∈ excNames) : ∃ C, ExF K X.CA C x ∧ mg x = some (.ref C) := by
  obtain ⟨C, _, f⟩ := allEx_at X.all h
  exact ⟨C, f, X.mg _ _ f.nm⟩
theorem ExF.sb {CA C : Addr} {x : Str} (f : ExF K CA C x) : PySem.W.subIn K (.ref C) (.type "BaseException") = some true := by
  rw [mro_sub f.mro rfl]
  exact congrArg some (List.elem_eq_true_of_mem (by simp))
/-- except AskError takes it -/
theorem Exs.caught {C : Addr} {x : Str} (f : ExF K X.CA C x) : PySem.W.exmOne K (.ref C) (.ref X.CA) = some true := by
  have hA : PySem.W.subIn K (.ref X.CA) (.type "BaseException") = some true := by
    rw [mro_sub X.mroA rfl]
    exact congrArg some (List.elem_eq_true_of_mem (by simp))
  have hC : PySem.W.subIn K (.ref C) (.ref X.CA) = some true := by
    rw [mro_sub f.mro rfl]
    exact congrArg some (List.elem_eq_true_of_mem (by simp))
  unfold PySem.W.exmOne
  rw [if_pos (by rw [hA]; rfl)]
  show (if ((PySem.W.clsIn K X.CA).isSome && PySem.W.typeIn K (.ref X.CA) == some (.type "type")) = true then PySem.W.subIn K (.ref C) (.ref X.CA) else none) = _
  rw [if_pos (by rw [mro_cls X.mroA, X.tyA]; rfl)]
  exact hC
/-- isinstance of it -/
theorem Exs.isOwn {C D : Addr} {x y : Str} (f : ExF K X.CA C x) (g : ExF K X.CA D y) (hx : x ∈ excNames) (hy : y ∈ excNames) : PySem.W.kitOne K (.ref C) (.ref D) = some (decide (x = y)) := by
  have nn : excNames.Nodup := by decide +kernel
  unfold PySem.W.kitOne
  by_cases e : x = y
  · subst e
    have := nmR_eq f.nm g.nm
    subst this
    rw [if_pos (by exact beq_self_eq_true _), decide_eq_true rfl]
  · have ne : C ≠ D := fun z => e (allEx_ne X.all nn (List.nodup_cons.mp X.nd).2 hx hy f.nm g.nm z)
    obtain ⟨D', mD, gD⟩ := allEx_at X.all hy
    have ed := nmR_eq gD.nm g.nm
    subst ed
    have neA : X.CA ≠ D' := fun z => (List.nodup_cons.mp X.nd).1 (z ▸ mD)
    have nb : ((Value.ref C) == (Value.ref D')) = false := beq_eq_false_iff_ne.mpr fun z => ne (Value.ref.inj z)
    rw [if_neg (by rw [nb]; decide), decide_eq_false e]
    show (if ((PySem.W.clsIn K D').isSome && PySem.W.typeIn K (.ref D') == some (.type "type")) = true then PySem.W.subIn K (.ref C) (.ref D') else none) = _
    rw [if_pos (by rw [mro_cls g.mro, g.ty]; rfl), mro_sub f.mro rfl]
    have c1 : ((Value.ref D') == (Value.ref C)) = false := beq_eq_false_iff_ne.mpr fun z => ne (Value.ref.inj z).symm
    have c2 : ((Value.ref D') == (Value.ref X.CA)) = false := beq_eq_false_iff_ne.mpr fun z => neA (Value.ref.inj z).symm
    have c3 : ∀ n : String, ((Value.ref D') == (Value.type n)) = false := fun n => beq_eq_false_iff_ne.mpr fun z => nomatch z
    simp [List.contains, List.elem, c1, c2, c3]
theorem Exs.isVal {C : Addr} {x : Str} (f : ExF K X.CA C x) : PySem.W.kitOne K (.ref C) (.type "ValueError") = some true := by
  unfold PySem.W.kitOne
  rw [if_neg (by simp)]
  show (if PySem.W.kitMeta "ValueError" = true then PySem.W.subIn K (.ref C) (.type "ValueError") else none) = _
  rw [if_pos (by decide +kernel), mro_sub f.mro rfl]
  exact congrArg some (List.elem_eq_true_of_mem (by simp))
end
/-! ### what a value is, by its mirror -/
section
variable {K : PySem.W.Frag} {H : Hp} {v : V}
theorem Rd1.exc {x : Str} (r : Rd1 K H v (excD x)) : ∃ (a C : Addr) (o : Obj) (u : HO), v = .ref a ∧ H a = some (.frz o u) ∧ Zc (.ref C) none o ∧ (∃ vs, o.data = .fields vs) ∧ nmR K x C := by
  generalize e : excD x = d at r
  cases r with
  | ls _ _ => cases e
  | rp h =>
    cases h with
    | exc h1 h2 h3 h4 =>
      cases e
      exact ⟨_, _, _, _, rfl, h1, h2, h3, h4⟩
    | @scr a ns hs => cases ns <;> simp at e
    | _ => simp at e
theorem Rd1.fn {x : Str} (r : Rd1 K H v (fnD x)) : ∃ a, v = .ref a ∧ nmR K x a := by
  generalize e : fnD x = d at r
  cases r with
  | ls _ _ => cases e
  | rp h =>
    cases h with
    | fn h1 =>
      cases e
      exact ⟨_, rfl, h1⟩
    | @scr a ns hs => cases ns <;> simp at e
    | _ => simp at e
theorem Rd1.ty {x : Str} (r : Rd1 K H v (tyD x)) : ∃ n, v = .ty n ∧ bootBuiltins x = some (.type n) := by
  generalize e : tyD x = d at r
  cases r with
  | ls _ _ => cases e
  | rp h =>
    cases h with
    | ty h1 =>
      cases e
      exact ⟨_, rfl, h1⟩
    | @scr a ns hs => cases ns <;> simp at e
    | _ => simp at e
end

/-! ### the rules -/
def sRaise (x : Str) : M Fl := fun ε => .exc x ε
def unst (i : Nat) (f : Fl) : M Fl := fun ε => if notIoB ε[i]? = true then .ok f (ε.set i .no) else .stuck
def sTry (i : Nat) (mb ms : M Fl) : M Fl := fun ε => match mb ε with
  | .exc C ε1 => if excNames.contains C = true then match sto i (.val (excD C)) ε1 with
      | some ε2 => match ms ε2 with
        | .ok .nx ε3 => unst i .nx ε3
        | .ok (.rt d) ε3 => unst i (.rt d) ε3
        | _ => .stuck
      | none => .stuck
    else .stuck
  | .ok f ε1 => .ok f ε1
  | .stuck => .stuck
def fIsE : List PD → Option Opd
  | [.dict [(.bool false, .str x)], .dict [(.bool false, .int 0), (.str y, .none)]] => if excNames.contains x && excNames.contains y then some (.val (.bool (decide (x = y)))) else none
  | [.dict [(.bool false, .str x)], .dict [(.bool false, .int 2), (.str y, .none)]] => if excNames.contains x && decide (y = "ValueError") then some (.val (.bool true)) else none
  | _ => none
section
variable {K : PySem.W.Frag} {c : Mc} {W : Str → En → L2.St → Hp → Prop} {ε : En} {σ : L2.St} {H : Hp}
theorem SR.toW (S : SR K c ε σ H) : SR K { c with W := W } ε σ H := ⟨S.len, S.fr, S.fin, S.pm, S.rel, S.own, S.ows, S.dis⟩
theorem SR.ofW (S : SR K { c with W := W } ε σ H) : SR K c ε σ H := ⟨S.len, S.fr, S.fin, S.pm, S.rel, S.own, S.ows, S.dis⟩
theorem SR.unset {i : Nat} (S : SR K c ε σ H) (n : notIoB ε[i]? = true) : SR K c (ε.set i .no) (σ.set i none) H ∧ Step ε σ H (ε.set i .no) (σ.set i none) H := by
  obtain ⟨S1, w⟩ := S.wipe (vs := [i]) (by simp [n])
  exact ⟨S1, fun _ _ h _ => h, fun b q => let ⟨j, sl, ov, _, e1, e2, f⟩ := w b q; .inl ⟨j, sl, ov, e1, e2, f⟩, fun b o h e => by rw [h] at e; cases e⟩
end
section
variable {X : Cx} {c : Mc} {pos p : Pos}
theorem js_raise {x m : Str} {j : Nat} {p2 q : Pos} (E : Exs X.K X.mg) (hx : x ∈ excNames) (calm : X.calm = true) (tk : TK X c) (hg : Gl X x) (hdb : (x == ("__debug__" : Str)) = false := by decide) :
    JS X c (.Raise (some (.Call (.Name x p) [.Constant (.str m) j p2] [] q)) none pos) (sRaise x) := by
  obtain ⟨C, f, hm⟩ := E.at hx
  exact ps_imp (ps_raise calm tk (pmk_own PySem.F.excBase_ValueError f.ex hm f.kp (raises_own f.sb f.ty) hg hdb)) fun D σ H ⟨ε, S, h⟩ => ⟨x, ε, hm, rfl, S, h σ H .refl S⟩
theorem js_try {n : Str} {i : Nat} {body suite : List Stmt} {b₀ : Stmt} {np pos' : Pos} {mb ms : M Fl} (E : Exs X.K X.mg) (hex : X.ex = []) (stk : X.stack = X.env :: X.outer) (frm : X.env.frame = some X.env.locals) (nd : X.N.Nodup) (hi : X.N[i]? = some n)
    (loc : X.env.kindOf n = some .local) (hg : Gl X "AskError") (hb : ∀ (c' : Mc) (pn : List (Addr × Obj)) (xe : Value → Shared → Prop), TK (X.tr pn xe) c' → PassesOwn (model X.prog X.w) X.A X.env xe → JB (X.tr pn xe) c' body mb)
    (hsu : ∀ a : Addr, JB (X.suite a X.pn) c.nox (b₀ :: suite) ms) : JS X c (.Try body [.ExceptHandler (some (.Name "AskError" np)) (some n) (b₀ :: suite) pos'] [] [] pos) (sTry i mb ms) := by
  refine ps_imp (ps_tryT (cv := .ref E.CA) (tb := fun W => tS X.K { c with W := fun C _ σ H => ∀ cls, X.mg C = some cls → W cls none σ H } mb) (t := tS X.K c.nox ms) hex stk frm nd hi loc ⟨hg, by decide, .inl E.top⟩
    (fun W pn xe tk pp => hb _ pn xe (tk.imp fun cls d σ H ⟨C, ε, h1, h2, _, h4⟩ => by subst h2; exact h4 cls h1) pp) hsu) fun D σ H ⟨ε, S, h⟩ => ⟨ε, S.toW, ?_⟩
  unfold sTry at h
  cases e : mb ε with
  | stuck => rw [e] at h; exact h
  | ok f ε1 =>
    rw [e] at h
    cases f with
    | nx => exact fun σ' H' t S' => h σ' H' t S'.ofW
    | bk => exact fun σ' H' t S' => h σ' H' t S'.ofW
    | ct => exact fun σ' H' t S' => h σ' H' t S'.ofW
    | rt d => exact fun v σ' H' t S' => h v σ' H' t S'.ofW
    | rn ob => exact fun v σ' H' t S' => h v σ' H' t S'.ofW
  | exc C ε1 =>
    rw [e] at h
    simp only at h
    by_cases hC : excNames.contains C = true
    · rw [if_pos hC] at h
      intro σ1 H1 t1 S1 cls hcls
      obtain ⟨Ca, f, hm⟩ := E.at (List.contains_iff_mem.mp hC)
      have ec : cls = .ref Ca := by rw [hm] at hcls; cases hcls; rfl
      subst ec
      refine ⟨E.caught f, fun a oe na zc fd => ?_⟩
      cases e2 : sto i (.val (excD C)) ε1 with
      | none => rw [e2] at h; exact h.elim
      | some ε2 =>
        rw [e2] at h
        simp only at h
        obtain ⟨S2, t2⟩ := S1.ofW.same (same_upd (o := .frz oe (.ext fun _ => True)) na)
        obtain ⟨S3, w3, _⟩ := sto_ok (o := .val (excD C)) (v := .ref a) S2 (show Rp X.K _ (.ref a) (excD C) from .exc upd_same zc fd f.nm) e2
        have t3 : Step ε σ H ε2 (σ1.set i (some (.ref a))) (upd H1 a (.frz oe (.ext fun _ => True))) := (t1.trans t2).trans (step_sto fun b w => (w3 b w).imp id fun f => f.elim)
        refine ⟨ε2, S3.nox, ?_⟩
        cases e3 : ms ε2 with
        | stuck => rw [e3] at h; exact h.elim
        | exc C' ε3 => rw [e3] at h; exact h.elim
        | ok fl ε3 =>
          rw [e3] at h
          cases fl with
          | nx =>
            simp only [unst] at h
            by_cases hn : notIoB ε3[i]? = true
            · rw [if_pos hn] at h
              intro σ4 H4 t4 S4
              obtain ⟨S5, t5⟩ := S4.ofNox.unset hn
              exact h _ H4 ((t3.trans t4).trans t5) S5
            · rw [if_neg hn] at h; exact h.elim
          | rt d =>
            simp only [unst] at h
            by_cases hn : notIoB ε3[i]? = true
            · rw [if_pos hn] at h
              intro v σ4 H4 t4 S4 r
              obtain ⟨S5, t5⟩ := S4.ofNox.unset hn
              exact h v _ H4 ((t3.trans t4).trans t5) S5 r
            · rw [if_neg hn] at h; exact h.elim
          | rn ob => exact h.elim
          | bk => exact h.elim
          | ct => exact h.elim
    · rw [if_neg hC] at h; exact h.elim
/-- a name of the module, as a value -/
theorem je_nm {x : Str} {a : Addr} (hg : Gl X x) (hm : X.mg x = some (.ref a)) (h : nmR X.K x a) (hd : (x == ("__debug__" : Str)) = false := by decide) : JE X c (.Name x pos) (mC (fnD x)) :=
  je_c (pe_glob hg hm (v := .ref a) rfl hd) fun _ => .fn h
theorem je_exn {x : Str} (E : Exs X.K X.mg) (hx : x ∈ excNames) (hg : Gl X x) (hd : (x == ("__debug__" : Str)) = false := by decide) : JE X c (.Name x pos) (mC (fnD x)) := by
  obtain ⟨C, f, hm⟩ := E.at hx
  exact je_nm hg hm f.nm hd
theorem je_tyn {x : Str} {n : String} (hg : Gl X x) (hm : X.mg x = none) (hv : bootBuiltins x = some (.type n)) (hn : x ≠ "__name__" := by decide) (hd : (x == ("__debug__" : Str)) = false := by decide) : JE X c (.Name x pos) (mC (tyD x)) :=
  je_c (pe_bltn hg hm hv (v := .ty n) rfl hn hd) fun _ => .ty hv
theorem c_isE (E : Exs X.K X.mg) : CallR X (.builtin "isinstance") (cM X.K c (liftN fIsE)) := by
  intro pins s σ0 H xs us Q I rx want
  obtain ⟨ε, σ, os, S, r1, h⟩ := want
  unfold liftN at h
  cases e1 : rdOs ε os with
  | none => simp only [e1, Option.bind_none] at h; exact h.elim
  | some ds =>
    cases e3 : fIsE ds with
    | none => simp only [e1, e3, Option.bind_some] at h; exact h.elim
    | some o =>
      simp only [e1, e3, Option.bind_some] at h
      have rd := rdOs_ok S r1 e1
      unfold fIsE at e3
      split at e3
      · rename_i x y
        split at e3
        · rename_i hxy
          cases e3
          rw [Bool.and_eq_true] at hxy
          cases rd with
          | cons q1 rd => cases rd with
            | cons q2 rd =>
              cases rd
              obtain ⟨a, C, oe, u, rfl, ha, zc, ⟨vs, fd⟩, nC⟩ := q1.exc
              obtain ⟨D, rfl, nD⟩ := q2.fn
              obtain ⟨C', f, _⟩ := E.at (List.contains_iff_mem.mp hxy.1)
              obtain ⟨D', g, _⟩ := E.at (List.contains_iff_mem.mp hxy.2)
              cases nmR_eq nC f.nm
              cases nmR_eq nD g.nm
              cases rx with
              | cons rx1 rx => cases rx with
                | cons rx2 rx =>
                  cases rx; cases rx1; cases rx2
                  have J : PySem.W.InstAt s.heap a oe C none := by
                    obtain ⟨ga, _⟩ := (show ObjOk X.prog X.w H s.heap a (.frz oe u) from I.hok a _ ha)
                    obtain ⟨k1, k2, k3, k4⟩ := oe
                    obtain ⟨z1, z2⟩ := zc
                    dsimp only at z1 z2 fd
                    subst z1 z2 fd
                    exact ⟨ga, rfl, rfl, trivial⟩
                  exact PySem.W.kia_one (PySem.W.handS_kitx_exc f.ga f.gt f.sb f.hd f.cl E.gs E.tk (by have z := mro_sub (b := .type "object") f.mro rfl; rw [show PySem.W.subIn X.K (.ref C) (.type "object") = PySem.W.mroIn X.K C (.type "object") from rfl] at z; rw [z]; exact congrArg some (List.elem_eq_true_of_mem (by simp)))) I.kIn J
                    (E.isOwn f g (List.contains_iff_mem.mp hxy.1) (List.contains_iff_mem.mp hxy.2)) (fun z => nomatch z) fun tk => ⟨.bl _, H, I.kept (t' := tk) fun _ _ z => z, rfl, (PostP.of S noVal h).scal (.bl _)⟩
        · cases e3
      · rename_i x y
        split at e3
        · rename_i hxy
          cases e3
          rw [Bool.and_eq_true, decide_eq_true_eq] at hxy
          obtain ⟨hx, ey⟩ := hxy
          subst ey
          cases rd with
          | cons q1 rd => cases rd with
            | cons q2 rd =>
              cases rd
              obtain ⟨a, C, oe, u, rfl, ha, zc, ⟨vs, fd⟩, nC⟩ := q1.exc
              obtain ⟨n, rfl, nD⟩ := q2.ty
              obtain ⟨C', f, _⟩ := E.at (List.contains_iff_mem.mp hx)
              cases nmR_eq nC f.nm
              rw [boot_ValueError] at nD
              cases nD
              cases rx with
              | cons rx1 rx => cases rx with
                | cons rx2 rx =>
                  cases rx; cases rx1; cases rx2
                  have J : PySem.W.InstAt s.heap a oe C none := by
                    obtain ⟨ga, _⟩ := (show ObjOk X.prog X.w H s.heap a (.frz oe u) from I.hok a _ ha)
                    obtain ⟨k1, k2, k3, k4⟩ := oe
                    obtain ⟨z1, z2⟩ := zc
                    dsimp only at z1 z2 fd
                    subst z1 z2 fd
                    exact ⟨ga, rfl, rfl, trivial⟩
                  exact PySem.W.kia_one (PySem.W.handS_kitx_exc f.ga f.gt f.sb f.hd f.cl E.gs E.tk (by have z := mro_sub (b := .type "object") f.mro rfl; rw [show PySem.W.subIn X.K (.ref C) (.type "object") = PySem.W.mroIn X.K C (.type "object") from rfl] at z; rw [z]; exact congrArg some (List.elem_eq_true_of_mem (by simp)))) I.kIn J
                    (E.isVal f) (fun z => nomatch z) fun tk => ⟨.bl _, H, I.kept (t' := tk) fun _ _ z => z, rfl, (PostP.of S noVal h).scal (.bl _)⟩
        · cases e3
      · cases e3
end
end MM

/-! ML27: xs.count(d), xs.index(d) of own lists; defs as values, called. -/
namespace MM
open PySem PySem.Spec PyProof.Rows L2

def rCntD (K : PySem.W.Frag) : V → List V → Hp → VK → Prop := fun x xs H Q => ∃ (a : Addr) (y : V) (d : PD) (ds : List PD), x = V.ref a ∧ xs = [y] ∧ Dp K H (V.ref a) (.list ds) ∧ Dp K H y d ∧
  SeqAt.shaped (.list ds) = true ∧ SeqAt.shaped d = true ∧ Q (.int (ds.countP fun z => PyData.eqv z d : Nat)) H
section
variable {X : Cx} {c : Mc}
theorem plainAll_of {ds : List PD} (h : SeqAt.shaped (.list ds) = true) : PyData.plainAll ds = true := PyData.plain_of_canLay0 (.list ds) (SeqAt.canLay_of_shaped h)
theorem mt_cntD (hu : X.A.units + 65 < cLine) : MtR X "list.count" (rCntD X.K) := by
  intro pins s σ H x xs v us Q I rx rxs h
  obtain ⟨a, y, d, ds, rfl, rfl, hl, hy, sl, sd, q⟩ := h
  cases rx
  cases rxs with
  | cons ry rt =>
    rename_i uy ut
    cases rt
    obtain ⟨bs, r1⟩ := Dp.reads I d y uy hy ry
    cases hl with
    | lst hs ha =>
      obtain ⟨its, rv, isl, hlen⟩ := I.list hs
      obtain ⟨as, h4⟩ := Dp.readsAll I ds _ its ha rv
      refine SeqAt.count_list_data (vs := its.toArray) (xs := ds) (d := d) ⟨_, isl.choose_spec.choose_spec.1, isl.choose_spec.choose_spec.2.1, _, isl.choose_spec.choose_spec.2.2.2⟩ (by simpa using h4) r1 (plainAll_of sl) (PyData.plain_of_canLay0 _ (SeqAt.canLay_of_shaped sd)) (room_in_shaped sd hu) ?_
      exact ⟨.int _, H, I.tok _, ⟨_, rfl⟩, q⟩
end
section
variable {X : Cx} {c : Mc} {pos apos : Pos}
theorem dp_own {K : PySem.W.Frag} {H : Hp} {a : Addr} {xs : List V} {ds : List PD} (h : H a = some (.lst xs)) (r : RpA K H xs ds) (q : SeqAt.shaped (.list ds) = true) : Dp K H (V.ref a) (.list ds) :=
  .lst (.inl (.inl h)) (RpA.dp _ _ (SeqAt.canLay_of_shaped q) r)
def mOwn1 (i : Nat) (m : M PD) (g : List PD → PD → Option Int) : M Opd := fun ε => match ownL ε i with
  | none => .stuck
  | some _ => (m ε).bind fun d ε1 => match ownL ε1 i with
    | none => .stuck
    | some ds => if (SeqAt.shaped d && SeqAt.shaped (.list ds)) = true then (match g ds d with
        | some k => .ok (.val (.int k)) ε1
        | none => .stuck) else .stuck
def gCnt (ds : List PD) (d : PD) : Option Int := some (ds.countP fun z => PyData.eqv z d : Nat)
def gFind (ds : List PD) (d : PD) : Option Int := (ds.findIdx? fun z => PyData.eqv z d).map fun k => (k : Int)
theorem je_cnt {i : Nat} {o e : Expr} {m : M PD} (hu : X.A.units + 65 < cLine) (ho : PE X o (tVar i)) (he : JV X c e m) (hbase : attributeBase o "count" X.env (eval o X.env) = eval o X.env := by rfl)
    (hfew : ((backTo pos (starEach [e] X.env)).all (fun x => !x.1) && (backToKw pos (keywordEach [] X.env)).all (fun x => x.1.isSome) && decide ([e].length + ([] : List Keyword).length + (if ([] : List Keyword).isEmpty then 0 else 1) < 30)) = true := by rfl)
    (hline : (apos.endLine == pos.line) = true := by rfl) (hs : starEach [e] X.env = (false, eval e X.env) :: starEach [] X.env := by rfl) (hplain : (backTo pos (starEach [] X.env)).any (·.1) = false := by rfl) :
    JE X c (.Call (.Attribute o "count" apos) [e] [] pos) (mOwn1 i m gCnt) :=
  pe_imp (pe_bm PySem.F.plainAttrs_list PySem.F.slot_list_count PySem.F.type_list_count (mt_cntD hu) ho (pa_cons he pa_nil hs) hbase hfew hline hs hplain) fun σ H Q ⟨ε, S, h⟩ => by
    unfold mOwn1 at h
    cases e0 : ownL ε i with
    | none => simp only [e0] at h; exact h.elim
    | some ds0 =>
      simp only [e0] at h
      obtain ⟨a, xs, h1, h2, h3, _⟩ := S.atL e0
      refine ⟨_, h1, .inl ⟨rfl, xs, SqL.of h2⟩, ε, S, ?_⟩
      cases e1 : m ε with
      | stuck => rw [e1] at h; exact h
      | exc C ε' => rw [e1] at h; exact h
      | ok d ε1 =>
        rw [e1, Out.bind_ok] at h
        intro v H1 t1 S1 r1
        cases e2 : ownL ε1 i with
        | none => simp only [e2] at h; exact h.elim
        | some ds =>
          simp only [e2] at h
          obtain ⟨a', ys, g1, g2, g3, _⟩ := S1.atL e2
          have ea : some (some (V.ref a)) = some (some (V.ref a')) := h1.symm.trans g1
          cases ea
          split at h
          · rename_i hs
            obtain ⟨⟨q1, q2⟩, q3, q4⟩ := sh2 hs
            exact ⟨a, v, d, ds, rfl, rfl, dp_own g2 g3 q2, Rp.dp _ _ q3 r1, q2, q1, h _ H1 t1 S1 (.int _) trivial⟩
          · exact h.elim
theorem je_find {i : Nat} {o e : Expr} {m : M PD} (hu : X.A.units + 65 < cLine) (ho : PE X o (tVar i)) (he : JV X c e m) (hbase : attributeBase o "index" X.env (eval o X.env) = eval o X.env := by rfl)
    (hfew : ((backTo pos (starEach [e] X.env)).all (fun x => !x.1) && (backToKw pos (keywordEach [] X.env)).all (fun x => x.1.isSome) && decide ([e].length + ([] : List Keyword).length + (if ([] : List Keyword).isEmpty then 0 else 1) < 30)) = true := by rfl)
    (hline : (apos.endLine == pos.line) = true := by rfl) (hs : starEach [e] X.env = (false, eval e X.env) :: starEach [] X.env := by rfl) (hplain : (backTo pos (starEach [] X.env)).any (·.1) = false := by rfl) :
    JE X c (.Call (.Attribute o "index" apos) [e] [] pos) (mOwn1 i m gFind) :=
  pe_imp (pe_bm PySem.F.plainAttrs_list PySem.F.slot_list_index PySem.F.type_list_index (mt_indexD hu) ho (pa_cons he pa_nil hs) hbase hfew hline hs hplain) fun σ H Q ⟨ε, S, h⟩ => by
    unfold mOwn1 at h
    cases e0 : ownL ε i with
    | none => simp only [e0] at h; exact h.elim
    | some ds0 =>
      simp only [e0] at h
      obtain ⟨a, xs, h1, h2, h3, _⟩ := S.atL e0
      refine ⟨_, h1, .inl ⟨rfl, xs, SqL.of h2⟩, ε, S, ?_⟩
      cases e1 : m ε with
      | stuck => rw [e1] at h; exact h
      | exc C ε' => rw [e1] at h; exact h
      | ok d ε1 =>
        rw [e1, Out.bind_ok] at h
        intro v H1 t1 S1 r1
        cases e2 : ownL ε1 i with
        | none => simp only [e2] at h; exact h.elim
        | some ds =>
          simp only [e2] at h
          obtain ⟨a', ys, g1, g2, g3, _⟩ := S1.atL e2
          have ea : some (some (V.ref a)) = some (some (V.ref a')) := h1.symm.trans g1
          cases ea
          split at h
          · rename_i hs
            obtain ⟨⟨q1, q2⟩, q3, q4⟩ := sh2 hs
            unfold gFind at h
            cases e4 : ds.findIdx? (fun z => PyData.eqv z d) with
            | none => rw [e4] at h; exact h.elim
            | some j =>
              rw [e4] at h
              obtain ⟨hj, k1, k2⟩ := List.findIdx?_eq_some_iff_getElem.mp e4
              refine ⟨a, v, d, ds, j, ds[j], rfl, rfl, dp_own g2 g3 q2, Rp.dp _ _ q3 r1, q2, q1, List.getElem?_eq_getElem hj, k1, fun m z hm hz => ?_, h _ H1 t1 S1 (.int _) trivial⟩
              obtain ⟨hm2, ez⟩ := List.getElem?_eq_some_iff.mp hz
              have := k2 m hm
              rw [ez] at this
              simpa using this
          · exact h.elim
end

/-! ### a def that is a value -/
/-- what may be called by its value -/
def CallOk (X : Cx) (np : Nat) (x : Str) (F : List Sl → FOut) : Prop := ∃ (k : Nat) (f : Addr) (fd : FuncData) (ps : List Str), FnOk X.prog X.w X.K X.mg X.base (L2.CX X.prog X.w) k f fd ps (spF X.K X.mg np F) ∧ Room k X.A ∧ nmR X.K x f ∧ PySem.W.keepIn X.K (.ref f) = true ∧ Binds X.K fd ps []
inductive TabOk (X : Cx) (np : Nat) : List (Str × (List Sl → FOut)) → Prop
  | nil : TabOk X np []
  | cons {x : Str} {F : List Sl → FOut} {t : List (Str × (List Sl → FOut))} : CallOk X np x F → TabOk X np t → TabOk X np ((x, F) :: t)
theorem TabOk.at {X : Cx} {np : Nat} {x : Str} {F : List Sl → FOut} : ∀ {t : List (Str × (List Sl → FOut))}, TabOk X np t → t.lookup x = some F → CallOk X np x F
  | _, .nil, e => by cases e
  | (y, G) :: t, .cons h r, e => by
    by_cases q : x = y
    · subst q
      simp [List.lookup] at e
      subst e; exact h
    · rw [List.lookup, show (x == y) = false from beq_eq_false_iff_ne.mpr q] at e
      exact TabOk.at r e
def mCallV (tab : List (Str × (List Sl → FOut))) (mf : M Opd) (ma : M (List Opd)) : M Opd := fun ε => (mf ε).bind fun o ε1 => match o with
  | .val (.dict [(.bool false, .int 0), (.str x, .none)]) => match tab.lookup x with
    | some F => mCall F ma ε1
    | none => .stuck
  | _ => .stuck
section
variable {X : Cx} {c : Mc} {pos : Pos}
theorem je_callV {np : Nat} {tab : List (Str × (List Sl → FOut))} {fe e : Expr} {es : List Expr} {mf : M Opd} {ma : M (List Opd)} (hT : TabOk X np tab) (tk : TK X c) (hf : JE X c fe mf) (ha : JO X c (e :: es) ma) (hl : LenIs ma np)
    (hev : eval (.Call fe (e :: es) [] pos) X.env = (do callWith pos (← eval fe X.env) [] (backTo pos (starEach (e :: es) X.env)) (backToKw pos (keywordEach [] X.env))) := by rfl)
    (he : starEach (e :: es) X.env = (false, eval e X.env) :: starEach es X.env := by rfl) (hpl : (backTo pos (starEach es X.env)).any (·.1) = false := by rfl) : JE X c (.Call fe (e :: es) [] pos) (mCallV tab mf ma) := by
  refine ⟨fun pins s σ H Q I0 want => ?_⟩
  rw [hev]
  obtain ⟨ε, S, h⟩ := want
  unfold mCallV at h
  refine wpAny_bind (thn (hf.run pins s σ H (fun v H1 => ∃ (x : Str) (F : List Sl → FOut) (ε1 : En), Rp X.K H1 v (fnD x) ∧ tab.lookup x = some F ∧ SR X.K c ε1 σ H1 ∧ PostE X.K c (mCall F ma ε1) ε1 σ H1 Q) I0 ⟨ε, S, ?_⟩) fun u s1 ⟨v, H1, I1, rv, x, F, ε1, rf, hx, S1, p⟩ => ?_)
  · cases e1 : mf ε with
    | stuck => rw [e1] at h; exact h
    | exc C ε' => rw [e1] at h; exact h
    | ok o ε1 =>
      rw [e1, Out.bind_ok] at h
      intro v H1 t1 S1 r1 _
      split at h
      · rename_i x _
        cases e2 : tab.lookup x with
        | none => simp only [e2] at h; exact h.elim
        | some F =>
          simp only [e2] at h
          exact ⟨x, F, ε1, r1, e2, S1, PostE.step t1 h⟩
      · exact h.elim
  · obtain ⟨k, f, fd, ps, G, room, nf, hk, hb⟩ := hT.at hx
    obtain ⟨a, rfl, na⟩ := (Rd1.rp rf).fn
    cases nmR_eq na nf
    cases rv
    refine PySem.W.callWith_K (h₀ := X.base) I1.ok.mod.kin hk (thn (ha.run pos pins s1 σ H1 _ I1 (call_sp (mg := X.mg) (Q := Q) hl ⟨ε1, S1, p⟩)) fun us s2 ⟨vs, H2, I2, r, q⟩ => ⟨I2.kIn, ?_⟩) he hpl
    exact run_fnS G room hb (passAt tk σ) I2 r q
theorem roomS {j k : Nat} {A : Around} (r : Room k A) (h : j ≤ k) (v : Option Value) : L2H.RoomH j (A.mark v) := ⟨((L2H.roomH_of r).mono h).dp, ((L2H.roomH_of r).mono h).un⟩
theorem hu64N {k : Nat} {A : Around} (r : L2H.RoomH k A) : A.units + 64 < cLine := by have := r.un; omega
theorem hu65N {k : Nat} {A : Around} (r : L2H.RoomH k A) : A.units + 65 < cLine := by have := r.un; omega
end
end MM

/-! ML28: a name that may hold a tuple known to have no dict, or anything else. -/
namespace MM
open PySem PySem.Spec PyProof.Rows L2
def unqD : PD → PD
  | .dict [(.none, .tuple ds)] => .tuple ds
  | d => d
def mUnq (m : M Opd) : M Opd := fun ε => (m ε).bind fun o ε1 => match o with
  | .val d => .ok (.val (unqD d)) ε1
  | o => .ok o ε1
section
variable {X : Cx} {c : Mc}
theorem je_unq {e : Expr} {m : M Opd} (h : JE X c e m) : JE X c e (mUnq m) := pe_imp h fun σ H Q ⟨ε, S, h⟩ => by
  unfold mUnq at h
  refine ⟨ε, S, ?_⟩
  cases e1 : m ε with
  | stuck => rw [e1] at h; exact h
  | exc C ε' => rw [e1] at h; exact h
  | ok o ε1 =>
    rw [e1, Out.bind_ok] at h
    intro v H1 t1 S1 r1 n1
    cases o with
    | own k => exact h v H1 t1 S1 r1 n1
    | new ob => exact h v H1 t1 S1 r1 n1
    | val d =>
      refine h v H1 t1 S1 ?_ trivial
      unfold unqD
      split
      · rename_i ds
        obtain ⟨a, o, xs, rfl, ha, _, r⟩ := Rp.unt r1
        exact .tup (.inl (.inr ⟨o, ha⟩)) r
      · exact r1
end
end MM

/-! ML29: own instances: read while they are locked. -/
namespace MM
open PySem PySem.Spec PyProof.Rows L2
open Classical in
/-- the things of Z are locked -/
noncomputable def lkH (Z : Addr → Prop) (h : Heap) (H : Hp) : Hp := fun b => if Z b then (match H b, h.get? b with
  | some u, some o => some (.frz o u)
  | x, _ => x) else H b
open Classical in
/-- .. and free again -/
noncomputable def ulH (Z : Addr → Prop) (H H' : Hp) : Hp := fun b => if Z b then H b else H' b
section
variable {X : Cx} {pins : List (Addr × Obj)} {σ : L2.St} {H H' : Hp} {s s' : Shared} {Z : Addr → Prop}
theorem lkH_out {h : Heap} {b : Addr} (n : ¬ Z b) : lkH Z h H b = H b := by unfold lkH; rw [if_neg n]
theorem lkH_in {h : Heap} {b : Addr} {u : HO} {o : Obj} (z : Z b) (e : H b = some u) (g : h.get? b = some o) : lkH Z h H b = some (.frz o u) := by unfold lkH; rw [if_pos z, e, g]
theorem ulH_out {b : Addr} (n : ¬ Z b) : ulH Z H H' b = H' b := by unfold ulH; rw [if_neg n]
theorem ulH_in {b : Addr} (z : Z b) : ulH Z H H' b = H b := by unfold ulH; rw [if_pos z]
theorem inv_get (I : Inv X pins σ H s) {b : Addr} {u : HO} (e : H b = some u) : ∃ o, s.heap.get? b = some o := objOk_get (I.hok b u e)
theorem inv_lk (I : Inv X pins σ H s) (hz : ∀ b, Z b → ∃ u, H b = some u ∧ Mut (some u)) : Inv X pins σ (lkH Z s.heap H) s := by
  have none_ : ∀ {b : Addr}, H b = none → lkH Z s.heap H b = none := fun {b} e => by
    by_cases z : Z b
    · obtain ⟨u, q, _⟩ := hz b z; rw [q] at e; cases e
    · rw [lkH_out z]; exact e
  have keep_ : ∀ {b : Addr} {o : HO}, H b = some o → ¬ Mut (some o) → lkH Z s.heap H b = some o := fun {b o} e m => by
    by_cases z : Z b
    · obtain ⟨u, q, k⟩ := hz b z; rw [q] at e; cases e; exact absurd k m
    · rw [lkH_out z]; exact e
  refine ⟨I.ok, I.os, I.bare, ⟨I.base.keep, I.base.slot, fun b o e n x => none_ (I.base.free b o e n x), I.base.there, fun b xs e => keep_ (I.base.tups b xs e) id, fun b o u e => keep_ (I.base.frzs b o u e) id, fun b ps e => ?_⟩,
    I.loc, I.cell, none_ I.free, fun y c e => none_ (I.freeC y c e), fun p m => ?_, fun b o e => ?_, I.len⟩
  · obtain ⟨m, q⟩ := I.base.tbls b ps e
    exact ⟨m, keep_ q id⟩
  · obtain ⟨q1, q2, q3⟩ := I.pin p m
    exact ⟨q1, none_ q2, q3⟩
  · have st : ∀ {u : HO}, ObjOk X.prog X.w H s.heap b u → ObjOk X.prog X.w (lkH Z s.heap H) s.heap b u := fun {u} k =>
      k.stay (fun _ _ _ q => q) (fun d q => keep_ q id) fun d xs q => keep_ q id
    by_cases z : Z b
    · obtain ⟨u, q, _⟩ := hz b z
      obtain ⟨ob, g⟩ := inv_get I q
      rw [lkH_in z q g] at e
      cases e
      exact ⟨g, st (I.hok b u q)⟩
    · rw [lkH_out z] at e
      exact st (I.hok b o e)
theorem inv_ul (I : Inv X pins σ H' s') (hz : ∀ b, Z b → ∃ u o, H b = some u ∧ Mut (some u) ∧ H' b = some (.frz o u)) (hn : ∀ b, Z b → ∀ o u, X.H_0 b ≠ some (.frz o u)) : Inv X pins σ (ulH Z H H') s' := by
  have none_ : ∀ {b : Addr}, H' b = none → ulH Z H H' b = none := fun {b} e => by
    by_cases z : Z b
    · obtain ⟨u, o, _, _, q⟩ := hz b z; rw [q] at e; cases e
    · rw [ulH_out z]; exact e
  have keep_ : ∀ {b : Addr} {o : HO}, H' b = some o → (∀ ob u, o ≠ .frz ob u) → ulH Z H H' b = some o := fun {b o} e m => by
    by_cases z : Z b
    · obtain ⟨u, ob, _, _, q⟩ := hz b z; rw [q] at e; cases e; exact absurd rfl (m _ _)
    · rw [ulH_out z]; exact e
  refine ⟨I.ok, I.os, I.bare, ⟨I.base.keep, I.base.slot, fun b o e n x => none_ (I.base.free b o e n x), I.base.there, fun b xs e => keep_ (I.base.tups b xs e) (fun _ _ z => nomatch z), fun b o u e => ?_, fun b ps e => ?_⟩,
    I.loc, I.cell, none_ I.free, fun y c e => none_ (I.freeC y c e), fun p m => ?_, fun b o e => ?_, I.len⟩
  · rw [ulH_out fun z => hn b z o u e]; exact I.base.frzs b o u e
  · obtain ⟨m, q⟩ := I.base.tbls b ps e
    exact ⟨m, keep_ q fun _ _ z => nomatch z⟩
  · obtain ⟨q1, q2, q3⟩ := I.pin p m
    exact ⟨q1, none_ q2, q3⟩
  · have st : ∀ {u : HO}, ObjOk X.prog X.w H' s'.heap b u → ObjOk X.prog X.w (ulH Z H H') s'.heap b u := fun {u} k =>
      k.stay (fun _ _ _ q => q) (fun d q => keep_ q fun _ _ z => nomatch z) fun d xs q => keep_ q fun _ _ z => nomatch z
    by_cases z : Z b
    · obtain ⟨u, ob, q1, _, q2⟩ := hz b z
      rw [ulH_in z, q1] at e
      cases e
      exact st (I.hok b _ q2).2
    · rw [ulH_out z] at e
      exact st (I.hok b o e)
end
/-! ### an expression while some names' instances are locked -/
mutual
/-- no list, no instance within -/
def lfD : PD → Bool
  | .none => true
  | .bool _ => true
  | .int _ => true
  | .str _ => true
  | .tuple ds => lfDs ds
  | _ => false
def lfDs : List PD → Bool
  | [] => true
  | d :: ds => lfD d && lfDs ds
end
section
variable {K : PySem.W.Frag} {H H' : Hp}
def TupSame (H H' : Hp) : Prop := ∀ b o, H b = some o → (∃ xs, o = .tup xs ∨ ∃ ob, o = .frz ob (.tup xs)) → H' b = some o
mutual
theorem Rp.lf (m : TupSame H H') : ∀ {d : PD} {v : V}, lfD d = true → Rp K H v d → Rp K H' v d
  | _, _, _, .non => .non
  | _, _, _, .bl b => .bl b
  | _, _, _, .int i => .int i
  | _, _, _, .str x => .str x
  | _, _, q, .lst _ _ => by cases q
  | _, _, q, .scr _ => by cases q
  | .tuple ds, _, q, .tup hs ha => .tup (by
      rcases hs with (hs | ⟨o, hs⟩) | hs
      · exact .inl (.inl (m _ _ hs ⟨_, .inl rfl⟩))
      · exact .inl (.inr ⟨o, m _ _ hs ⟨_, .inr ⟨_, rfl⟩⟩⟩)
      · exact .inr hs) (RpA.lf m q ha)
  | _, _, q, .ptu _ _ _ => by cases q
  | _, _, q, .dnl _ _ => by cases q
  | _, _, q, .exc _ _ _ _ => by cases q
  | _, _, q, .fn _ => by cases q
  | _, _, q, .ty _ => by cases q
  | _, _, q, .ins _ _ _ => by cases q
theorem RpA.lf (m : TupSame H H') : ∀ {ds : List PD} {vs : List V}, lfDs ds = true → RpA K H vs ds → RpA K H' vs ds
  | _, _, _, .nil => .nil
  | d :: ds, _, q, .cons h1 h2 => .cons (Rp.lf m (by simp [lfDs] at q; exact q.1) h1) (RpA.lf m (by simp [lfDs] at q; exact q.2) h2)
end
end
def Fd.pd : Fd → PD
  | .v d => d
  | .l ds => .list ds
/-- what a locked slot reads as -/
def lkS : Option Sl → Option PD
  | some (.ow (.ins x fs)) => some (objD x (fs.map fun p => (p.1, p.2.pd)))
  | some (.io (.ins x fs)) => some (objD x (fs.map fun p => (p.1, p.2.pd)))
  | some (.ow (.l ds)) => some (.list ds)
  | some (.io (.l ds)) => some (.list ds)
  | some (.p d) => some d
  | _ => none
def hide1 : Sl → Sl
  | .p d => .p d
  | _ => .no
def lkAll : List Nat → En → En → Option En
  | [], _, e => some e
  | k :: ks, ε, e => (lkS ε[k]?).bind fun d => lkAll ks ε (e.set k (.p d))
theorem lkAll_get : ∀ {ks : List Nat} {ε e ε0 : En}, lkAll ks ε e = some ε0 → ε0.length = e.length ∧ ∀ (i : Nat) (sl : Sl), ε0[i]? = some sl → (∃ d, sl = .p d ∧ i ∈ ks ∧ lkS ε[i]? = some d) ∨ e[i]? = some sl
  | [], ε, e, ε0, h => by cases h; exact ⟨rfl, fun i sl q => .inr q⟩
  | k :: ks, ε, e, ε0, h => by
    simp only [lkAll] at h
    cases q : lkS ε[k]? with
    | none => rw [q] at h; cases h
    | some d =>
      rw [q] at h
      obtain ⟨h1, h2⟩ := lkAll_get h
      refine ⟨by rw [h1, List.length_set], fun i sl e1 => ?_⟩
      rcases h2 i sl e1 with ⟨d', a, b, c⟩ | z
      · exact .inl ⟨d', a, List.mem_cons_of_mem _ b, c⟩
      · rcases get_set z with ⟨z1, z2⟩ | ⟨z1, z2⟩
        · subst z1 z2; exact .inl ⟨d, rfl, List.mem_cons_self, q⟩
        · exact .inr z2
def mLock (ks : List Nat) (m : M Opd) : M Opd := fun ε => match lkAll ks ε (ε.map hide1) with
  | none => .stuck
  | some ε0 => match m ε0 with
    | .ok (.val d) _ => if lfD d = true then .ok (.val d) ε else .stuck
    | .ok (.new (.l ds)) _ => if lfDs ds = true then .ok (.new (.l ds)) ε else .stuck
    | _ => .stuck
abbrev Mc.lk (c : Mc) : Mc := Mc.nox { c with pm := fun _ _ => False }
section
variable {K : PySem.W.Frag} {c : Mc} {ε ε0 : En} {σ : L2.St} {H Hf : Hp} {ks : List Nat}
/-- the addresses of the slots ks -/
def Zk (ks : List Nat) (ε : En) (σ : L2.St) (H : Hp) (b : Addr) : Prop := ∃ (k : Nat) (sl : Sl) (ov : Option V), k ∈ ks ∧ ε[k]? = some sl ∧ σ[k]? = some ov ∧ SlF H sl ov b
theorem FsR.lk (im : Im H Hf) : ∀ {vs : List (Str × V)} {fs : List (Str × Fd)}, (∀ b xs, b ∈ fAdr vs fs → H b = some (.lst xs) → ∃ o, Hf b = some (.frz o (.lst xs))) → FsR K H vs fs → RpF K Hf vs (fs.map fun p => (p.1, p.2.pd))
  | [], [], _, _ => .nil
  | [], _ :: _, _, h => h.elim
  | _ :: _, [], _, h => h.elim
  | (f, v) :: vs, (g, .v d) :: fs, k, ⟨h1, h2, h3⟩ => by
    subst h1
    exact .cons (Rp.im im _ _ h2) (FsR.lk im (fun b xs hb => k b xs (by cases v <;> exact hb)) h3)
  | (f, v) :: vs, (g, .l ds) :: fs, k, ⟨h1, ⟨b, xs, e, h2, h4⟩, h3⟩ => by
    subst h1 e
    exact .cons (.lst (k b xs List.mem_cons_self h2) (RpA.im im _ _ h4)) (FsR.lk im (fun b xs hb => k b xs (List.mem_cons_of_mem _ hb)) h3)
theorem SR.lk (S : SR K c ε σ H) (e : lkAll ks ε (ε.map hide1) = some ε0) (out : ∀ b, ¬ Zk ks ε σ H b → Hf b = H b) (inn : ∀ b u, Zk ks ε σ H b → H b = some u → ∃ o, Hf b = some (.frz o u)) : SR K c.lk ε0 σ Hf ∧ (∀ b, ¬ Own ε0 σ Hf b) ∧ Im H Hf := by
  obtain ⟨el, g⟩ := lkAll_get e
  have im : Im H Hf := fun b o h z => by
    rw [out b fun ⟨k, sl, ov, _, e1, e2, f⟩ => by
      obtain ⟨u, hu, fu, _⟩ := (S.rel k sl ov e1 e2).trk f
      rw [h] at hu; cases hu; rw [z] at fu; cases fu]
    exact h
  have plain : ∀ (i : Nat) (sl : Sl), ε0[i]? = some sl → sl = .no ∨ ∃ d, sl = .p d := fun i sl q => by
    rcases g i sl q with ⟨d, a, _, _⟩ | z
    · exact .inr ⟨d, a⟩
    · rw [List.getElem?_map] at z
      cases h : ε[i]? with
      | none => rw [h] at z; cases z
      | some s0 =>
        rw [h] at z
        cases s0 with
        | p d => cases z; exact .inr ⟨d, rfl⟩
        | no => cases z; exact .inl rfl
        | ow o => cases z; exact .inl rfl
        | io o => cases z; exact .inl rfl
  have noF : ∀ (i : Nat) (sl : Sl) (ov : Option V) (b : Addr) (h : Hp), ε0[i]? = some sl → ¬ SlF h sl ov b := fun i sl ov b h q f => by
    rcases plain i sl q with z | ⟨d, z⟩
    · subst z; exact f
    · subst z; exact f
  refine ⟨⟨by rw [el, List.length_map]; exact S.len, fun a o h n => ?_, fun a f z => ?_, fun i v z => z.elim, fun i sl ov e1 e2 => ?_, fun i sl ov b e1 e2 f => (noF i sl ov b _ e1 f).elim, fun i sl ov b e1 e2 f _ => (noF i sl ov b _ e1 f).elim,
    fun i j sl sl' ov ov' b e1 e2 f e3 e4 f' => (noF i sl ov b _ e1 f).elim⟩, fun b ⟨i, sl, ov, e1, e2, f⟩ => noF i sl ov b _ e1 f, im⟩
  · rw [out a fun ⟨k, sl, ov, _, e1, e2, f⟩ => (S.own k sl ov a e1 e2 f).elim n fun z => by rw [h] at z; cases z]
    exact S.fr a o h n
  · by_cases q : Zk ks ε σ H a
    · cases hu : H a with
      | none => exact S.fin a f hu
      | some u =>
        obtain ⟨o, ho⟩ := inn a u q hu
        rw [ho] at z; cases z
    · rw [out a q] at z; exact S.fin a f z
  · rcases g i sl e1 with ⟨d, a, hk, ld⟩ | z
    · subst a
      have obj : ∀ (s0 : Sl) (x : Str) (fs : List (Str × Fd)), ε[i]? = some s0 → (s0 = .ow (.ins x fs) ∨ s0 = .io (.ins x fs)) → d = objD x (fs.map fun p => (p.1, p.2.pd)) → SoR K Hf (.p d) ov := fun s0 x fs h0 hs hd => by
        subst hd
        cases ov with
        | none =>
          have := S.rel i s0 _ h0 e2
          rcases hs with hs | hs <;> (subst hs; exact this.elim)
        | some v =>
          have ro : ObR K H (.ins x fs) v := by
            have := S.rel i s0 _ h0 e2
            rcases hs with hs | hs <;> (subst hs; exact this)
          have zf : ∀ b, Ft H (.ins x fs) v b → Zk ks ε σ H b := fun b f => ⟨i, s0, some v, hk, h0, e2, by rcases hs with hs | hs <;> (subst hs; exact f)⟩
          obtain ⟨a, C, dx, vs, rfl, ha, nm, _, fr⟩ := ro
          obtain ⟨o, ho⟩ := inn a _ (zf a ⟨a, C, dx, vs, rfl, ha, .inl rfl⟩) ha
          exact .ins ho nm (fr.lk im fun b xs hb hl => inn b _ (zf b ⟨a, C, dx, vs, rfl, ha, .inr hb⟩) hl)
      have lst : ∀ (s0 : Sl) (ds : List PD), ε[i]? = some s0 → (s0 = .ow (.l ds) ∨ s0 = .io (.l ds)) → d = .list ds → SoR K Hf (.p d) ov := fun s0 ds h0 hs hd => by
        subst hd
        cases ov with
        | none =>
          have := S.rel i s0 _ h0 e2
          rcases hs with hs | hs <;> (subst hs; exact this.elim)
        | some v =>
          have ro : ObR K H (.l ds) v := by
            have := S.rel i s0 _ h0 e2
            rcases hs with hs | hs <;> (subst hs; exact this)
          have zf : ∀ b, Ft H (.l ds) v b → Zk ks ε σ H b := fun b f => ⟨i, s0, some v, hk, h0, e2, by rcases hs with hs | hs <;> (subst hs; exact f)⟩
          obtain ⟨a, xs, rfl, ha, ra⟩ := ro
          obtain ⟨o, ho⟩ := inn a _ (zf a rfl) ha
          exact .lst ⟨o, ho⟩ (RpA.im im _ _ ra)
      cases h0 : ε[i]? with
      | none => rw [h0] at ld; cases ld
      | some s0 =>
        rw [h0] at ld
        cases s0 with
        | no => cases ld
        | p d0 =>
          cases ld
          exact (S.rel i _ _ h0 e2).keep im fun b u f _ => f.elim
        | ow ob =>
          cases ob with
          | ins x fs => cases ld; exact obj _ x fs h0 (.inl rfl) rfl
          | l ds => cases ld; exact lst _ ds h0 (.inl rfl) rfl
          | _ => cases ld
        | io ob =>
          cases ob with
          | ins x fs => cases ld; exact obj _ x fs h0 (.inr rfl) rfl
          | l ds => cases ld; exact lst _ ds h0 (.inr rfl) rfl
          | _ => cases ld
    · rw [List.getElem?_map] at z
      cases h : ε[i]? with
      | none => rw [h] at z; cases z
      | some s0 =>
        rw [h] at z
        cases s0 with
        | p d => cases z; exact (S.rel i _ _ h e2).keep im fun b u f _ => f.elim
        | no => cases z; exact trivial
        | ow o => cases z; exact trivial
        | io o => cases z; exact trivial
end
section
variable {X : Cx} {c : Mc}
theorem je_lock {ks : List Nat} {e : Expr} {m : M Opd} (h : JE X c.lk e m) : JE X c e (mLock ks m) := by
  refine ⟨fun pins s σ H Q I ⟨ε, S, p⟩ => ?_⟩
  unfold mLock at p
  cases e0 : lkAll ks ε (ε.map hide1) with
  | none => rw [e0] at p; exact p.elim
  | some ε0 =>
    rw [e0] at p
    simp only at p
    obtain ⟨Z, hZ⟩ : ∃ Z : Addr → Prop, Z = Zk ks ε σ H := ⟨_, rfl⟩
    have trk : ∀ b, Z b → ∃ u, H b = some u ∧ Fz u = false ∧ Mut (some u) := fun b z => by
      rw [hZ] at z
      obtain ⟨k, sl, ov, _, e1, e2, f⟩ := z
      exact (S.rel k sl ov e1 e2).trk f
    obtain ⟨S0, no, im⟩ := S.lk (Hf := lkH Z s.heap H) e0 (fun b z => lkH_out (by rw [hZ]; exact z)) fun b u z q => by
      obtain ⟨o, g⟩ := inv_get I q
      exact ⟨o, lkH_in (by rw [hZ]; exact z) q g⟩
    have I0 := inv_lk I (fun b z => let ⟨u, a, _, b⟩ := trk b z; ⟨u, a, b⟩)
    have lkn : ∀ b, lkH Z s.heap H b = none → ¬ Z b ∧ H b = none := fun b q => by
      by_cases z : Z b
      · obtain ⟨u, hu, _⟩ := trk b z
        obtain ⟨o, g⟩ := inv_get I hu
        rw [lkH_in z hu g] at q; cases q
      · rw [lkH_out z] at q; exact ⟨z, q⟩
    -- behind it
    have back : ∀ {H1 : Hp} {s1 : Shared}, Inv X pins σ H1 s1 → (∀ b o, lkH Z s.heap H b = some o → H1 b = some o) → Inv X pins σ (ulH Z H H1) s1 ∧ Same H (ulH Z H H1) ∧ TupSame H1 (ulH Z H H1) := fun {H1 s1} I1 kp => by
      have zz : ∀ b, Z b → ∃ u o, H b = some u ∧ Mut (some u) ∧ H1 b = some (.frz o u) := fun b z => by
        obtain ⟨u, hu, _, mu⟩ := trk b z
        obtain ⟨o, g⟩ := inv_get I hu
        exact ⟨u, o, hu, mu, kp b _ (lkH_in z hu g)⟩
      refine ⟨inv_ul I1 zz fun b z => ?_, fun b o q => ?_, fun b o q t => ?_⟩
      · obtain ⟨u, hu, _, mu⟩ := trk b z
        exact I.nofrz hu mu
      · by_cases z : Z b
        · rw [ulH_in z]; exact q
        · rw [ulH_out z]; exact kp b o (by rw [lkH_out z]; exact q)
      · by_cases z : Z b
        · obtain ⟨u, ob, _, mu, q1⟩ := zz b z
          rw [q1] at q
          cases q
          obtain ⟨xs, t | ⟨ob', t⟩⟩ := t
          · cases t
          · cases t; exact mu.elim
        · rw [ulH_out z]; exact q
    cases em : m ε0 with
    | stuck => rw [em] at p; exact p.elim
    | exc C ε' => rw [em] at p; exact p.elim
    | ok o ε' =>
      rw [em] at p
      cases o with
      | own k => exact p.elim
      | val d =>
        simp only at p
        by_cases lf : lfD d = true
        · rw [if_pos lf] at p
          refine thn (h.run pins s σ (lkH Z s.heap H) (fun v H1 => (∀ b o, lkH Z s.heap H b = some o → H1 b = some o) ∧ Rp X.K H1 v d) I0 ⟨ε0, S0, ?_⟩) fun u s1 ⟨v, H1, I1, rv, kp, r⟩ => ?_
          · rw [em]
            exact fun v H1 t S1 r _ => ⟨fun b o q => t.kp b o q (no b), r⟩
          · obtain ⟨I2, sm, ts⟩ := back I1 kp
            exact ⟨v, _, I2, rv, (PostP.of S noVal p) v _ sm (Rp.lf ts lf r)⟩
        · rw [if_neg lf] at p; exact p.elim
      | new ob =>
        cases ob with
        | l ds =>
          simp only at p
          by_cases lf : lfDs ds = true
          · rw [if_pos lf] at p
            refine thn (h.run pins s σ (lkH Z s.heap H) (fun v H1 => (∀ b o, lkH Z s.heap H b = some o → H1 b = some o) ∧ ∃ a xs, v = .ref a ∧ H1 a = some (.lst xs) ∧ RpA X.K H1 xs ds ∧ lkH Z s.heap H a = none) I0 ⟨ε0, S0, ?_⟩)
              fun u s1 ⟨v, H1, I1, rv, kp, a, xs, ev, ha, ra, na⟩ => ?_
            · rw [em]
              intro v H1 t S1 r n
              obtain ⟨⟨a, xs, ev, ha, ra⟩, _⟩ := r
              subst ev
              exact ⟨fun b o q => t.kp b o q (no b), a, xs, rfl, ha, ra, n a rfl⟩
            · subst ev
              obtain ⟨I2, sm, ts⟩ := back I1 kp
              obtain ⟨nz, hn⟩ := lkn a na
              exact ⟨.ref a, _, I2, rv, (PostP.of S noNew p) (.ref a) _ sm ⟨a, xs, rfl, by rw [ulH_out nz]; exact ha, RpA.lf ts lf ra⟩ fun b f => by cases f; exact hn⟩
          · rw [if_neg lf] at p; exact p.elim
        | _ => exact p.elim
end
end MM

/-! ML30: own instances: attributes, methods, making. -/
namespace MM
open PySem PySem.Spec PyProof.Rows L2

/-- an instance at a, locked or not -/
def InsAt (H : Hp) (a C dx : Addr) (vs : List (Str × V)) : Prop := H a = some (.ins C dx vs) ∨ ∃ o, H a = some (.frz o (.ins C dx vs))
section
variable {X : Cx} {pins : List (Addr × Obj)} {σ : L2.St} {H : Hp} {s : Shared} {a C dx : Addr} {vs : List (Str × V)} {f : Str} {v : V} {A : Around} {E : Value → Shared → Prop}
theorem insAt_get (I : Inv X pins σ H s) (e : InsAt H a C dx vs) : ∃ mA, ObjM s.heap a dx C mA ∧ ∀ f, RelO (vs.lookup f) (mA f) := by
  have ok : ObjOk X.prog X.w H s.heap a (.ins C dx vs) := by
    rcases e with e | ⟨o, e⟩
    · exact I.hok a _ e
    · exact (show ObjOk X.prog X.w H s.heap a (.frz o (.ins C dx vs)) from I.hok a _ e).2
  obtain ⟨_, _, ne, ob, mA, n, r, _⟩ := ok
  exact ⟨mA, ⟨ob, n, ne⟩, r⟩
/-- e.f -/
def tFldX (K : PySem.W.Frag) (ta : TE) (f : Str) : TE := fun σ H Q => ta σ H fun x H1 => ∃ a C dx vs v, x = .ref a ∧ InsAt H1 a C dx vs ∧ Cls K C ∧ NoAttr K C f ∧ vs.lookup f = some v ∧ Q v H1
theorem pe_fldX {e : Expr} {ta : TE} {pos : Pos} (he : PE X e ta) (hb : attributeBase e f X.env (eval e X.env) = eval e X.env) : PE X (.Attribute e f pos) (tFldX X.K ta f) := by
  refine ⟨fun pins s σ H Q I h => attr_of hb (thn (he.run pins s σ H _ I h) fun u s1 ⟨x, H1, I1, rx, a, C, dx, vs, v, ex, ea, c, n, l, q⟩ => ?_)⟩
  subst ex
  cases rx
  obtain ⟨mA, O, r⟩ := insAt_get I1 ea
  obtain ⟨w, hw, rw1⟩ := RelO.some_of (v := v) (o := mA f) (by rw [← l]; exact r f)
  exact get_map I1.kIn O (c.get f) c.hd n hw (handed_of rw1) ⟨v, H1, I1.tok _, rw1, q⟩
/-- e.m(..) -/
def tMethX (K : PySem.W.Frag) (m : Str) (g : Addr) (sp : Sp) (E : L2.St → XK) (ta : TE) (t : TA) : TE := fun σ H Q => ta σ H fun x H1 => ∃ a C dx vs, x = .ref a ∧ InsAt H1 a C dx vs ∧ Cls K C ∧ Meth K C m g ∧ vs.lookup m = none ∧
  t σ H1 fun us H2 => sp (x :: us) H2 Q (E σ)
theorem pe_methX {m : Str} {k : Nat} {g : Addr} {fd : FuncData} {ps : List Str} {sp : Sp} {E : L2.St → XK} {o e : Expr} {es : List Expr} {ta : TE} {t : TA} {apos pos : Pos} {pl : Sem Bool} (he : PE X o ta) (G : FnOk X.prog X.w X.K X.mg X.base (L2.CX X.prog X.w) k g fd ps sp)
    (hr : Room k X.A) (hb : Binds X.K fd ps []) (hx : ∀ σ, PassesAt (L2.CX X.prog X.w) X σ (E σ)) (ha : PA X (e :: es) t) (hst : starEach (e :: es) X.env = (false, eval e X.env) :: starEach es X.env := by rfl) (hpl : (backTo pos (starEach es X.env)).any (·.1) = false := by rfl)
    (ht : eval (.Call (.Attribute o m apos) (e :: es) [] pos) X.env = (do
      let ov ← eval o X.env
      standAt apos.atName
      let (f, first) ← holding [ov] (getMethod ov m pl)
      callWith pos f first (backTo pos (starEach (e :: es) X.env)) (backToKw pos (keywordEach [] X.env))) := by rfl) :
    PE X (.Call (.Attribute o m apos) (e :: es) [] pos) (tMethX X.K m g sp E ta t) := by
  refine ⟨fun pins s σ H Q I h => PySem.W.methodCall_KW (pl := pl) (thn (he.run pins s σ H _ I h) fun u s1 ⟨x, H1, I1, rx, a, C, dx, vs, ex, ea, c, hm, l, q⟩ => ?_) ht⟩
  subst ex
  cases rx
  obtain ⟨mA, O, r⟩ := insAt_get I1 ea
  have hn : mA m = none := RelO.none_of (by rw [← l]; exact r m)
  refine get_meth I1.kIn O (c.get m) hm.at_ hm.fn hn (PySem.W.callWith_K (first := [.ref a]) (h₀ := X.base) I1.ok.mod.kin hm.kp (thn (ha.run pos pins s1 σ H1 _ I1 q) fun us s2 ⟨ws, H2, I2, r2, q2⟩ => ⟨I2.kIn, ?_⟩) hst hpl)
  exact run_fnS (us := .ref a :: us) (vs := .ref a :: ws) G hr hb (hx σ) I2 (.cons rfl r2) q2
theorem pe_methX0 {m : Str} {k : Nat} {g : Addr} {fd : FuncData} {ps : List Str} {sp : Sp} {E : L2.St → XK} {o : Expr} {ta : TE} {apos pos : Pos} {pl : Sem Bool} (he : PE X o ta) (G : FnOk X.prog X.w X.K X.mg X.base (L2.CX X.prog X.w) k g fd ps sp)
    (hr : Room k X.A) (hb : Binds X.K fd ps []) (hx : ∀ σ, PassesAt (L2.CX X.prog X.w) X σ (E σ))
    (ht : eval (.Call (.Attribute o m apos) [] [] pos) X.env = (do
      let ov ← eval o X.env
      standAt apos.atName
      let (f, first) ← holding [ov] (getMethod ov m pl)
      callWith pos f first (backTo pos (starEach [] X.env)) (backToKw pos (keywordEach [] X.env))) := by rfl) :
    PE X (.Call (.Attribute o m apos) [] [] pos) (tMethX X.K m g sp E ta tNil) := by
  refine ⟨fun pins s σ H Q I h => PySem.W.methodCall_KW (pl := pl) (thn (he.run pins s σ H _ I h) fun u s1 ⟨x, H1, I1, rx, a, C, dx, vs, ex, ea, c, hm, l, q⟩ => ?_) ht⟩
  subst ex
  cases rx
  obtain ⟨mA, O, r⟩ := insAt_get I1 ea
  have hn : mA m = none := RelO.none_of (by rw [← l]; exact r m)
  exact get_meth I1.kIn O (c.get m) hm.at_ hm.fn hn (PySem.W.callWith_K0 (first := [.ref a]) I1.kIn hm.kp (run_fnS (us := [.ref a]) (vs := [.ref a]) G hr hb (hx σ) I1 (.cons rfl .nil) q))
end

/-! ### what an operand is, as an instance -/
def insO (ε : En) : Opd → Option (Str × List (Str × Fd))
  | .val (.dict [(.bool false, .int 1), (.str x, .dict kvs)]) => some (x, kvs.map fun p => (match p.1 with | .str f => f | _ => "", .v p.2))
  | .own k => match ε[k]? with
    | some (.ow (.ins x fs)) => some (x, fs)
    | some (.io (.ins x fs)) => some (x, fs)
    | _ => none
  | .new (.ins x fs) => some (x, fs)
  | _ => none
section
variable {K : PySem.W.Frag} {c : Mc} {ε : En} {σ : L2.St} {H : Hp} {v : V}
theorem Rd1.obj {x : Str} {kvs : List (PD × PD)} (r : Rp K H v (.dict [(.bool false, .int 1), (.str x, .dict kvs)])) : ∃ (a C dx : Addr) (o : Obj) (vs : List (Str × V)) (fs : List (Str × PD)), v = .ref a ∧ H a = some (.frz o (.ins C dx vs)) ∧ nmR K x C ∧ RpF K H vs fs ∧ kvs = fs.map fun p => (.str p.1, p.2) := by
  generalize e : (PyData.dict [(.bool false, .int 1), (.str x, .dict kvs)]) = d at r
  cases r with
  | ins h1 h2 h3 =>
    injection e with e
    injection e with _ e
    injection e with e _
    injection e with e1 e2
    injection e1 with e1
    injection e2 with e2
    subst e1
    exact ⟨_, _, _, _, _, _, rfl, h1, h2, h3, e2⟩
  | @scr a ns hs => cases ns <;> simp at e
  | _ => simp at e
theorem RpF.keys : ∀ {vs : List (Str × V)} {fs : List (Str × PD)}, RpF K H vs fs → vs.map (·.1) = fs.map (·.1)
  | _, _, .nil => rfl
  | _, _, .cons _ t => by simp [RpF.keys t]
theorem FsR.keys : ∀ {vs : List (Str × V)} {fs : List (Str × Fd)}, FsR K H vs fs → vs.map (·.1) = fs.map (·.1)
  | [], [], _ => rfl
  | [], _ :: _, h => h.elim
  | _ :: _, [], h => h.elim
  | (f, v) :: vs, (g, d) :: fs, ⟨h1, _, h3⟩ => by simp [h1, FsR.keys h3]
theorem lookup_none_of {β γ : Type} : ∀ {l : List (Str × β)} {l' : List (Str × γ)} {f : Str}, l.map (·.1) = l'.map (·.1) → l'.lookup f = none → l.lookup f = none
  | [], [], _, _, _ => rfl
  | [], _ :: _, _, e, _ => by simp at e
  | _ :: _, [], _, e, _ => by simp at e
  | (a, b) :: l, (a', b') :: l', f, e, h => by
    simp only [List.map_cons, List.cons.injEq] at e
    obtain ⟨e1, e2⟩ := e
    subst e1
    simp only [List.lookup] at h ⊢
    cases q : f == a with
    | true => rw [q] at h; cases h
    | false => rw [q] at h; exact lookup_none_of e2 h
theorem RpF.at : ∀ {vs : List (Str × V)} {fs : List (Str × PD)} {f : Str} {d : PD}, RpF K H vs fs → fs.lookup f = some d → ∃ v, vs.lookup f = some v ∧ Rp K H v d
  | _, _, f, d, .nil, e => by cases e
  | (g, v) :: vs, (_, d') :: fs, f, d, .cons h t, e => by
    simp only [List.lookup] at e ⊢
    cases q : f == g with
    | true => rw [q] at e; cases e; exact ⟨v, rfl, h⟩
    | false => rw [q] at e; exact RpF.at t e
theorem FsR.at_ : ∀ {vs : List (Str × V)} {fs : List (Str × Fd)} {f : Str} {d : PD}, FsR K H vs fs → fs.lookup f = some (.v d) → ∃ v, vs.lookup f = some v ∧ Rp K H v d
  | [], [], f, d, _, e => by cases e
  | [], _ :: _, _, _, h, _ => h.elim
  | _ :: _, [], _, _, h, _ => h.elim
  | (g, v) :: vs, (g', d') :: fs, f, d, ⟨h1, h2, h3⟩, e => by
    subst h1
    simp only [List.lookup] at e ⊢
    cases q : f == g with
    | true => rw [q] at e; cases e; exact ⟨v, rfl, h2⟩
    | false => rw [q] at e; exact FsR.at_ h3 e
theorem lookup_str {f : Str} {d : PD} : ∀ {fs : List (Str × PD)}, (((fs.map fun p => (PyData.str p.1, p.2)).map fun p => ((match p.1 with | .str f => f | _ => ""), Fd.v p.2)) : List (Str × Fd)).lookup f = some (.v d) → fs.lookup f = some d
  | [], e => by cases e
  | (g, d') :: fs, e => by
    simp only [List.map_cons, List.lookup] at e ⊢
    cases q : f == g with
    | true => rw [q] at e; cases e; rfl
    | false => rw [q] at e; exact lookup_str e
theorem keys_str : ∀ {fs : List (Str × PD)}, (((fs.map fun p => (PyData.str p.1, p.2)).map fun p => ((match p.1 with | .str f => f | _ => ""), Fd.v p.2)) : List (Str × Fd)).map (·.1) = fs.map (·.1)
  | [] => rfl
  | (g, d') :: fs => by simp only [List.map_cons]; rw [keys_str]
/-- an instance operand stands in the heap, its values as they are told -/
theorem insO_at {o : Opd} {x : Str} {fs : List (Str × Fd)} (S : SR K c ε σ H) (r : RO K c ε σ H o v) (e : insO ε o = some (x, fs)) : ∃ a C dx vs, v = .ref a ∧ InsAt H a C dx vs ∧ nmR K x C ∧ (∀ f, fs.lookup f = none → vs.lookup f = none) ∧ ∀ f d, fs.lookup f = some (.v d) → ∃ u, vs.lookup f = some u ∧ Rp K H u d := by
  have own : ∀ ob, ObR K H ob v → ob = .ins x fs → ∃ a C dx vs, v = .ref a ∧ InsAt H a C dx vs ∧ nmR K x C ∧ (∀ f, fs.lookup f = none → vs.lookup f = none) ∧ ∀ f d, fs.lookup f = some (.v d) → ∃ u, vs.lookup f = some u ∧ Rp K H u d := fun ob h q => by
    subst q
    obtain ⟨a, C, dx, vs, rfl, ha, nm, _, fr⟩ := h
    exact ⟨a, C, dx, vs, rfl, .inl ha, nm, fun f h => lookup_none_of fr.keys h, fun f d h => fr.at_ h⟩
  unfold insO at e
  split at e
  · rename_i y kvs
    injection e with e
    injection e with e1 e2
    subst e1
    obtain ⟨a, C, dx, o, vs, gs, rfl, ha, nm, fr, ek⟩ := Rd1.obj r
    subst ek
    subst e2
    exact ⟨a, C, dx, vs, rfl, .inr ⟨o, ha⟩, nm, fun f h => lookup_none_of (fr.keys.trans keys_str.symm) h, fun f d h => fr.at (lookup_str h)⟩
  · rename_i k
    have at_ : ∀ sl, ε[k]? = some sl → SoR K H sl (some v) := fun sl h => S.rel k sl _ h r
    split at e
    · rename_i y gs h
      cases e
      exact own (.ins x fs) (at_ _ h) rfl
    · rename_i y gs h
      cases e
      exact own (.ins x fs) (at_ _ h) rfl
    · cases e
  · cases e
    exact own _ r.1 rfl
  · cases e
end
/-- .. of the class x -/
def insX (x : Str) (ε : En) (o : Opd) : Option (List (Str × Fd)) := (insO ε o).bind fun p => if p.1 = x then some p.2 else none
/-- e.f -/
def mFld (x f : Str) (m : M Opd) : M Opd := fun ε => (m ε).bind fun o ε1 => match (insX x ε1 o).bind fun fs => fs.lookup f with
  | some (.v d) => .ok (.val d) ε1
  | _ => .stuck
theorem insX_at {K : PySem.W.Frag} {c : Mc} {ε : En} {σ : L2.St} {H : Hp} {v : V} {o : Opd} {x : Str} {fs : List (Str × Fd)} (S : SR K c ε σ H) (r : RO K c ε σ H o v) (e : insX x ε o = some fs) :
    ∃ a C dx vs, v = .ref a ∧ InsAt H a C dx vs ∧ nmR K x C ∧ (∀ f, fs.lookup f = none → vs.lookup f = none) ∧ ∀ f d, fs.lookup f = some (.v d) → ∃ u, vs.lookup f = some u ∧ Rp K H u d := by
  unfold insX at e
  cases q : insO ε o with
  | none => rw [q] at e; cases e
  | some p =>
    obtain ⟨y, gs⟩ := p
    rw [q] at e
    simp only [Option.bind_some] at e
    split at e
    · rename_i h; cases e; subst h; exact insO_at S r q
    · cases e
section
variable {X : Cx} {c : Mc} {pos apos : Pos}
theorem je_fld {e : Expr} {m : M Opd} {x f : Str} {C : Addr} (nm : nmR X.K x C) (hc : Cls X.K C) (hf : NoAttr X.K C f) (h : JE X c e m) (hb : attributeBase e f X.env (eval e X.env) = eval e X.env := by rfl) : JE X c (.Attribute e f pos) (mFld x f m) :=
  pe_imp (pe_fldX h hb) fun σ H Q ⟨ε, S, w⟩ => by
    unfold mFld at w
    refine ⟨ε, S, ?_⟩
    cases e1 : m ε with
    | stuck => rw [e1] at w; exact w
    | exc C ε' => rw [e1] at w; exact w
    | ok o ε1 =>
      rw [e1, Out.bind_ok] at w
      intro v H1 t1 S1 r1 n1
      cases e2 : insX x ε1 o with
      | none => rw [e2] at w; exact w.elim
      | some fs =>
        obtain ⟨a, D, dx, vs, rfl, ha, nD, _, at_⟩ := insX_at S1 r1 e2
        cases nmR_eq nD nm
        rw [e2] at w
        simp only [Option.bind_some] at w
        split at w
        · rename_i d hd
          obtain ⟨u, hu, ru⟩ := at_ f d hd
          exact ⟨a, C, dx, vs, u, rfl, ha, hc, hf, hu, w u H1 t1 S1 ru trivial⟩
        · exact w.elim
/-- the call itself -/
def callOs (F : List Sl → FOut) (os : List Opd) : M Opd := fun ε1 => match argsOf ε1 os with
  | none => .stuck
  | some as => if muts os ≤ 1 then (match F as with
      | .ok d as' => .ok (.val d) (wb os as' ε1)
      | .nw ob as' => .ok (.new ob) (wb os as' ε1)
      | .exc C as' => .exc C (wb os as' ε1)
      | .stuck => .stuck) else .stuck
theorem call_os {K : PySem.W.Frag} {mg : Str → Option Value} {np : Nat} {F : List Sl → FOut} {ε0 ε1 : En} {σ : L2.St} {Hs H1 : Hp} {Q : VK} {os : List Opd} {vs : List V} (hnp : os.length = np) (S1 : SR K c ε1 σ H1) (r1 : ROs K c ε1 σ H1 os vs) (n1 : NewO Hs H1 os vs) (t1 : Step ε0 σ Hs ε1 σ H1)
    (h : PostE K c (callOs F os ε1) ε0 σ Hs Q) : spF K mg np F vs H1 Q (WE (mW K mg c) σ) := by
  unfold callOs at h
  cases e2 : argsOf ε1 os with
  | none => simp only [e2] at h; exact h.elim
  | some as =>
    simp only [e2] at h
    by_cases hm : muts os ≤ 1
    · rw [if_pos hm] at h
      refine ⟨as, (args_get e2).1.trans hnp, (args_ok S1 r1 n1 e2 (Nat.le_trans (owns_muts os) hm)).1, ?_⟩
      cases e3 : F as with
      | stuck => simp only [e3] at h; exact h
      | exc C as' =>
        simp only [e3] at h ⊢
        intro cls H' hc A
        obtain ⟨S2, t2, _⟩ := S1.call r1 n1 t1 e2 hm A
        exact ⟨C, _, hc, rfl, S2, h H' t2 S2⟩
      | ok d as' =>
        simp only [e3] at h ⊢
        intro v H' A rd
        obtain ⟨S2, t2, _⟩ := S1.call r1 n1 t1 e2 hm A
        exact h v H' t2 S2 rd trivial
      | nw ob as' =>
        simp only [e3] at h ⊢
        intro v H' A ro fo
        obtain ⟨S2, t2, w2⟩ := S1.call r1 n1 t1 e2 hm A
        have fr : ∀ b, H1 b = none → Hs b = none := fun b z => by
          cases q : Hs b with
          | none => rfl
          | some u => exact absurd z (t1.tr b u q)
        refine h v H' t2 S2 ⟨ro, fun b f => ?_⟩ fun b f => fr b (fo b f).1
        obtain ⟨h0, _, no⟩ := S1.fresh (fo b f).1
        exact ⟨h0, fun w => (w2 b w).elim no (fo b f).2⟩
    · rw [if_neg hm] at h; exact h.elim
/-- o.m(..): o is lent, or a value -/
def mMeth (x m : Str) (F : List Sl → FOut) (mo : M Opd) (ma : M (List Opd)) : M Opd := fun ε => (mo ε).bind fun o ε1 => match o with
  | .new _ => .stuck
  | o => match insX x ε1 o with
    | none => .stuck
    | some fs => if fs.lookup m = none then (ma ε1).bind fun os ε2 => callOs F (o :: os) ε2 else .stuck
theorem meth_read {K : PySem.W.Frag} {mg : Str → Option Value} {x m : Str} {F : List Sl → FOut} {mo : M Opd} {ma : M (List Opd)} {C g : Addr} {np : Nat} (nm : nmR K x C) (hc : Cls K C) (hm : Meth K C m g) (hl : LenIs ma np) (σ : L2.St) (H : Hp) (Q : VK) (w : tM K c (mMeth x m F mo ma) σ H Q) :
    tMethX K m g (spF K mg (np + 1) F) (WE (mW K mg c)) (tM K c mo) (tO K c ma) σ H Q := by
  obtain ⟨ε, S, w⟩ := w
  unfold mMeth at w
  refine ⟨ε, S, ?_⟩
  cases e1 : mo ε with
  | stuck => rw [e1] at w; exact w
  | exc C ε' => rw [e1] at w; exact w
  | ok o ε1 =>
    rw [e1, Out.bind_ok] at w
    intro v H1 t1 S1 r1 n1
    have go : (∀ ob, o ≠ .new ob) → PostE K c (match insX x ε1 o with
        | none => .stuck
        | some fs => if fs.lookup m = none then (ma ε1).bind fun os ε2 => callOs F (o :: os) ε2 else .stuck) ε σ H Q →
        ∃ a C dx vs, v = .ref a ∧ InsAt H1 a C dx vs ∧ Cls K C ∧ Meth K C m g ∧ vs.lookup m = none ∧ tO K c ma σ H1 fun us H2 => spF K mg (np + 1) F (v :: us) H2 Q (WE (mW K mg c) σ) := fun nn w => by
      cases e2 : insX x ε1 o with
      | none => rw [e2] at w; exact w.elim
      | some fs =>
        rw [e2] at w
        simp only at w
        split at w
        · rename_i hn
          obtain ⟨a, D, dx, vs, rfl, ha, nD, nl, _⟩ := insX_at S1 r1 e2
          cases nmR_eq nD nm
          refine ⟨a, C, dx, vs, rfl, ha, hc, hm, nl m hn, ε1, S1, ?_⟩
          cases e3 : ma ε1 with
          | stuck => rw [e3] at w; exact w
          | exc C' ε' => rw [e3] at w; exact fun H' a b => w H' (t1.trans a) b
          | ok os ε2 =>
            rw [e3, Out.bind_ok] at w
            intro us H2 t2 S2 r2 n2
            refine call_os (by simp [hl _ _ _ e3]) S2 (.cons (r1.step S1 t2) r2) ⟨fun b f => ?_, n2.step t1⟩ (t1.trans t2) w
            cases o with
            | new ob => exact absurd rfl (nn ob)
            | val d => exact f.elim
            | own k => exact f.elim
        · exact w.elim
    cases o with
    | new ob => exact w.elim
    | val d => exact go (fun _ z => nomatch z) w
    | own k => exact go (fun _ z => nomatch z) w
theorem je_meth {x m : Str} {C g : Addr} {k np : Nat} {fd : FuncData} {ps : List Str} {F : List Sl → FOut} {o e : Expr} {es : List Expr} {mo : M Opd} {ma : M (List Opd)} {pl : Sem Bool} (nm : nmR X.K x C) (hc : Cls X.K C) (hm : Meth X.K C m g)
    (G : FnOk X.prog X.w X.K X.mg X.base (L2.CX X.prog X.w) k g fd ps (spF X.K X.mg (np + 1) F)) (hr : Room k X.A) (hb : Binds X.K fd ps []) (tk : TK X c) (ho : JE X c o mo) (ha : JO X c (e :: es) ma) (hl : LenIs ma np)
    (hst : starEach (e :: es) X.env = (false, eval e X.env) :: starEach es X.env := by rfl) (hpl : (backTo pos (starEach es X.env)).any (·.1) = false := by rfl)
    (ht : eval (.Call (.Attribute o m apos) (e :: es) [] pos) X.env = (do
      let ov ← eval o X.env
      standAt apos.atName
      let (f, first) ← holding [ov] (getMethod ov m pl)
      callWith pos f first (backTo pos (starEach (e :: es) X.env)) (backToKw pos (keywordEach [] X.env))) := by rfl) : JE X c (.Call (.Attribute o m apos) (e :: es) [] pos) (mMeth x m F mo ma) :=
  pe_imp (pe_methX ho G hr hb (fun σ => passAt tk σ) ha hst hpl ht) (meth_read nm hc hm hl)
theorem je_meth0 {x m : Str} {C g : Addr} {k : Nat} {fd : FuncData} {ps : List Str} {F : List Sl → FOut} {o : Expr} {mo : M Opd} {pl : Sem Bool} (nm : nmR X.K x C) (hc : Cls X.K C) (hm : Meth X.K C m g)
    (G : FnOk X.prog X.w X.K X.mg X.base (L2.CX X.prog X.w) k g fd ps (spF X.K X.mg 1 F)) (hr : Room k X.A) (hb : Binds X.K fd ps []) (tk : TK X c) (ho : JE X c o mo)
    (ht : eval (.Call (.Attribute o m apos) [] [] pos) X.env = (do
      let ov ← eval o X.env
      standAt apos.atName
      let (f, first) ← holding [ov] (getMethod ov m pl)
      callWith pos f first (backTo pos (starEach [] X.env)) (backToKw pos (keywordEach [] X.env))) := by rfl) : JE X c (.Call (.Attribute o m apos) [] [] pos) (mMeth x m F mo oNil) :=
  pe_imp (pe_methX0 ho G hr hb (fun σ => passAt tk σ) ht) fun σ H Q w => by
    obtain ⟨ε, S, h⟩ := meth_read (mg := X.mg) nm hc hm lenIs_nil σ H Q w
    refine ⟨ε, S, ?_⟩
    cases e1 : mo ε with
    | stuck => rw [e1] at h; exact h
    | exc C ε' => rw [e1] at h; exact h
    | ok o ε1 =>
      rw [e1] at h
      intro v H1 t1 S1 r1 n1
      obtain ⟨a, C', dx, vs, e, ha, h1, h2, h3, ε2, S2, p⟩ := h v H1 t1 S1 r1 n1
      exact ⟨a, C', dx, vs, e, ha, h1, h2, h3, p [] H1 .refl S2 .nil trivial⟩
end
end MM

/-! ML31: a new instance. -/
namespace MM
open PySem PySem.Spec PyProof.Rows L2

section
variable {X : Cx} {c : Mc} {pos p : Pos}
/-- C(..): the new one is tracked, then its __init__ -/
def tMakeS (C : Addr) (sp : Sp) (E : L2.St → XK) (t : TA) : TE := fun σ H Q => t σ H fun vs H1 => ∀ a dx, H1 a = none → H1 dx = none → dx ≠ a → sp (.ref a :: vs) (upd (upd H1 dx (.own a)) a (.ins C dx [])) (fun v H2 => v = .non ∧ Q (.ref a) H2) (E σ)
theorem pe_makeS {k : Nat} {C f : Addr} {fd : FuncData} {ps : List Str} {sp : Sp} {E : L2.St → XK} {x : Str} {e : Expr} {es : List Expr} {t : TA} (M : Mk X.K C f) (G : FnOk X.prog X.w X.K X.mg X.base (L2.CX X.prog X.w) k f fd ps sp) (room : Room (k + 1) X.A) (hg : Gl X x)
    (hm : X.mg x = some (.ref C)) (hb : Binds X.K fd ps []) (hx : ∀ σ, PassesAt (L2.CX X.prog X.w) X σ (E σ)) (ha : PA X (e :: es) t) (hdb : (x == ("__debug__" : Str)) = false := by decide)
    (he : starEach (e :: es) X.env = (false, eval e X.env) :: starEach es X.env := by rfl) (hpl : (backTo pos (starEach es X.env)).any (·.1) = false := by rfl) : PE X (.Call (.Name x p) (e :: es) [] pos) (tMakeS C sp E t) := by
  refine ⟨fun pins s σ H Q I0 want => wpAny_Call_Name_kw (ld_glob I0 hg hm (PySem.W.callWith_K (h₀ := X.base) I0.ok.mod.kin M.kp (thn (ha.run pos pins s σ H _ I0 want) fun us s1 ⟨vs, H1, I, r, q⟩ => ⟨I.kIn, ?_⟩) he hpl) hdb)⟩
  have now := q (s1.heap.objs.size + 1) s1.heap.objs.size (I.hok.fresh (Nat.le_succ _)) (I.hok.fresh (Nat.le_refl _)) (Nat.ne_of_lt (Nat.lt_succ_self _))
  have I2 := Inv.made (C := C) I
  have rel : Vals (V.ref (s1.heap.objs.size + 1) :: vs) (Value.ref (s1.heap.objs.size + 1) :: us) := .cons rfl r
  have many : (Value.ref (s1.heap.objs.size + 1) :: us).length = ps.length := by rw [← rel.length]; exact G.len _ _ _ _ now
  have bnd := hb _ (Value.ref (s1.heap.objs.size + 1) :: us) I2.kIn (by rw [List.append_nil]; exact many)
  rw [List.append_nil] at bnd
  refine wpAny_call (make_map (f := f) I.kIn M.makes M.init (beq_iff_eq.mp M.fn) (codeAny_mono (G.run _ X.stack _ _ ⟨Value.ref (s1.heap.objs.size + 1) :: us, []⟩ _ _ _ _ (room.make C us []) (I2.env0.make C us []) bnd rel now) fun res s2 hq => ?_))
  match res, hq with
  | .error e2, hq => exact hx σ pins _ _ e2 s2 I2 hq
  | .ok (.ret u), hq =>
    obtain ⟨v, H3, I3, rv, ev, q3⟩ := I2.after hq
    subst ev
    exact ⟨rv, V.ref _, H3, I3, rfl, q3⟩
  | .ok .next, hq => exact hq.elim
  | .ok .brk, hq => exact hq.elim
  | .ok .cont, hq => exact hq.elim
/-- the new instance as __init__ leaves it -/
def makeOs (x : Str) (F : List Sl → FOut) (os : List Opd) : M Opd := fun ε1 => match rdOs ε1 os with
  | none => .stuck
  | some ds => if muts os = 0 then (match F (.io (.ins x []) :: ds.map .p) with
      | .ok .none (.io (.ins y fs) :: _) => .ok (.new (.ins y fs)) ε1
      | .exc C _ => .exc C ε1
      | _ => .stuck) else .stuck
def mMake (x : Str) (F : List Sl → FOut) (ma : M (List Opd)) : M Opd := fun ε => (ma ε).bind fun os ε1 => makeOs x F os ε1
theorem vals_of {K : PySem.W.Frag} {ε : En} {σ : L2.St} {H : Hp} : ∀ {os : List Opd} {vs : List V} {ds : List PD}, ROs K c ε σ H os vs → muts os = 0 → rdOs ε os = some ds → RpA K H vs ds
  | _, _, ds, .nil, _, e => by cases e; exact .nil
  | o :: os, v :: vs, ds, .cons r t, m, e => by
    cases o with
    | own k => simp [muts] at m
    | new ob => simp [muts] at m
    | val d =>
      simp only [rdOs, rdO] at e
      cases e2 : rdOs ε os with
      | none => rw [e2] at e; cases e
      | some ds' =>
        rw [e2] at e
        cases e
        exact .cons r (vals_of t (by simpa [muts] using m) e2)
theorem je_make {k np : Nat} {C f : Addr} {fd : FuncData} {ps : List Str} {F : List Sl → FOut} {x : Str} {e : Expr} {es : List Expr} {ma : M (List Opd)} (nm : nmR X.K x C) (M : Mk X.K C f)
    (G : FnOk X.prog X.w X.K X.mg X.base (L2.CX X.prog X.w) k f fd ps (spF X.K X.mg (np + 1) F)) (room : Room (k + 1) X.A) (hg : Gl X x) (hm : X.mg x = some (.ref C)) (hb : Binds X.K fd ps []) (tk : TK X c) (ha : JO X c (e :: es) ma) (hl : LenIs ma np)
    (hdb : (x == ("__debug__" : Str)) = false := by decide) (he : starEach (e :: es) X.env = (false, eval e X.env) :: starEach es X.env := by rfl) (hpl : (backTo pos (starEach es X.env)).any (·.1) = false := by rfl) : JE X c (.Call (.Name x p) (e :: es) [] pos) (mMake x F ma) :=
  pe_imp (pe_makeS M G room hg hm hb (fun σ => passAt tk σ) ha hdb he hpl) fun σ H Q ⟨ε, S, w⟩ => by
    unfold mMake at w
    refine ⟨ε, S, ?_⟩
    cases e1 : ma ε with
    | stuck => rw [e1] at w; exact w
    | exc C ε' => rw [e1] at w; exact w
    | ok os ε1 =>
      rw [e1, Out.bind_ok] at w
      intro vs H1 t1 S1 r1 n1 a dx na nd ne
      unfold makeOs at w
      cases e2 : rdOs ε1 os with
      | none => rw [e2] at w; exact w.elim
      | some ds =>
        rw [e2] at w
        simp only at w
        by_cases m0 : muts os = 0
        · rw [if_pos m0] at w
          have rv := vals_of r1 m0 e2
          obtain ⟨H2, hH2⟩ : ∃ H2, H2 = upd (upd H1 dx (.own a)) a (.ins C dx []) := ⟨_, rfl⟩
          rw [← hH2]
          have sm : Same H1 H2 := fun b o q => by
            rw [hH2, upd_ne (fun z => by rw [z, na] at q; cases q), upd_ne (fun z => by rw [z, nd] at q; cases q)]; exact q
          have ha2 : H2 a = some (.ins C dx []) := by rw [hH2]; exact upd_same
          obtain ⟨S2, t2⟩ := S1.same sm
          have lenD : ds.length = np := by
            have := rv.length
            have q := Paired.length r1
            rw [← this, ← q]
            exact hl _ _ _ e1
          have AR : ArgR X.K H2 (.io (.ins x []) :: ds.map .p) (.ref a :: vs) := by
            have at_ : ∀ (i : Nat) (sl : Sl) (v : V), (Sl.io (.ins x []) :: ds.map Sl.p)[i]? = some sl → (V.ref a :: vs)[i]? = some v → (i = 0 ∧ sl = .io (.ins x []) ∧ v = .ref a) ∨ ∃ d, sl = .p d ∧ Rp X.K H2 v d := fun i sl v h1 h2 => by
              cases i with
              | zero => simp at h1 h2; exact .inl ⟨rfl, h1.symm, h2.symm⟩
              | succ i =>
                simp only [List.getElem?_cons_succ, List.getElem?_map] at h1 h2
                cases q : ds[i]? with
                | none => rw [q] at h1; cases h1
                | some d =>
                  rw [q] at h1
                  cases h1
                  obtain ⟨v', e3, r3⟩ := rv.get q
                  rw [h2] at e3; cases e3
                  exact .inr ⟨d, rfl, Rp.im (fun b o q _ => sm b o q) _ _ r3⟩
            refine ⟨by simp [rv.length], fun i sl v h1 h2 => ?_, fun i j sl sl' v v' b h1 h2 g h3 h4 g' => ?_⟩
            · rcases at_ i sl v h1 h2 with ⟨_, z, z'⟩ | ⟨d, z, r⟩
              · subst z z'; exact ⟨⟨a, C, dx, [], rfl, ha2, nm, List.nodup_nil, trivial⟩, trivial⟩
              · subst z; exact ⟨r, trivial⟩
            · rcases at_ i sl v h1 h2 with ⟨z, _, _⟩ | ⟨d, z, _⟩
              · rcases at_ j sl' v' h3 h4 with ⟨z', _, _⟩ | ⟨d', z', _⟩
                · rw [z, z']
                · subst z'; exact g'.elim
              · subst z; exact g.elim
          have ownA : ∀ b, Own (Sl.io (.ins x []) :: ds.map Sl.p) ((V.ref a :: vs).map some) H2 b → b = a := fun b ⟨i, sl, ov, h1, h2, g⟩ => by
            cases i with
            | zero =>
              simp at h1 h2
              subst h1 h2
              obtain ⟨a', C', dx', vs', e3, e4, g⟩ := g
              cases e3
              rw [ha2] at e4
              cases e4
              rcases g with g | g
              · exact g
              · simp [fAdr] at g
            | succ i =>
              simp only [List.getElem?_cons_succ, List.getElem?_map] at h1
              cases q : ds[i]? with
              | none => rw [q] at h1; cases h1
              | some d => rw [q] at h1; cases h1; exact g.elim
          have nA : c.H0 a = none ∧ ¬ Own ε1 σ H2 a := by
            obtain ⟨h0, _, no⟩ := S1.fresh na
            refine ⟨h0, fun ⟨i, sl, ov, h1, h2, g⟩ => no ⟨i, sl, ov, h1, h2, (S1.rel i sl ov h1 h2).ft (fun b u _ q => sm b u q) g⟩⟩
          have back : ∀ {as' : List Sl} {H3 : Hp}, ArgStep X.K (Sl.io (.ins x []) :: ds.map Sl.p) (.ref a :: vs) H2 as' H3 → SR X.K c ε1 σ H3 ∧ Step ε σ H ε1 σ H3 := fun {as' H3} A => by
            obtain ⟨S3, w3⟩ := S2.keepW (H' := H3) (fun b u q z => A.step.kp b u q fun o => by
              have := ownA b o
              subst this
              rw [ha2] at q
              cases q
              rcases z with z | z | z
              · exact z nA.1
              · cases z
              · exact nA.2 z) A.step.tr
            have t12 := t1.trans t2
            refine ⟨S3, fun b o q n => ?_, fun b z => t12.ow b (w3 b z), fun b o q => ?_⟩
            · have q2 := t12.kp b o q n
              refine A.step.kp b o q2 fun z => ?_
              have := ownA b z
              subst this
              exact t1.tr b o q na
            · cases q2 : H2 b with
              | none => exact absurd q2 (t12.tr b o q)
              | some u => exact A.step.tr b u q2
          refine ⟨Sl.io (.ins x []) :: ds.map Sl.p, by simp [lenD], AR, ?_⟩
          cases e3 : F (Sl.io (.ins x []) :: ds.map Sl.p) with
          | stuck => rw [e3] at w; exact w.elim
          | nw ob as' => rw [e3] at w; exact w.elim
          | exc D as' =>
            rw [e3] at w
            intro cls H3 hc A
            obtain ⟨S3, t3⟩ := back A
            exact ⟨D, ε1, hc, rfl, S3, w H3 t3 S3⟩
          | ok d as' =>
            rw [e3] at w
            cases d with
            | none =>
              cases as' with
              | nil => exact w.elim
              | cons sl as' =>
                cases sl with
                | io ob =>
                  cases ob with
                  | ins y fs =>
                    intro v H3 A rd
                    obtain ⟨S3, t3⟩ := back A
                    refine ⟨by cases rd; rfl, w (.ref a) H3 t3 S3 ⟨(A.args.rel 0 _ _ rfl rfl).1, fun b g => ?_⟩ fun b g => ?_⟩
                    · rcases A.step.ow b ⟨0, _, _, rfl, rfl, g⟩ with z | z
                      · have := ownA b z
                        subst this
                        refine ⟨nA.1, fun o => ?_⟩
                        rcases (S2.keepW (H' := H3) (fun b u q z => A.step.kp b u q fun o => by
                            have := ownA b o
                            subst this
                            rw [ha2] at q
                            cases q
                            rcases z with z | z | z
                            · exact z nA.1
                            · cases z
                            · exact nA.2 z) A.step.tr).2 b o with ow2
                        exact nA.2 ow2
                      · obtain ⟨h0, _, no⟩ := S2.fresh z
                        refine ⟨h0, fun o => no ((S2.keepW (H' := H3) (fun b u q z => A.step.kp b u q fun o => by
                            have := ownA b o
                            subst this
                            rw [ha2] at q
                            cases q
                            rcases z with z | z | z
                            · exact z nA.1
                            · cases z
                            · exact nA.2 z) A.step.tr).2 b o)⟩
                    · have up : ∀ b, H2 b = none → H b = none := fun b z => by
                        cases q : H b with
                        | none => rfl
                        | some u => exact absurd z ((t1.trans t2).tr b u q)
                      rcases A.step.ow b ⟨0, _, _, rfl, rfl, g⟩ with z | z
                      · have := ownA b z
                        subst this
                        cases q : H b with
                        | none => rfl
                        | some u => exact absurd na (t1.tr b u q)
                      · exact up b z
                  | _ => exact w.elim
                | _ => exact w.elim
            | _ => exact w.elim
        · rw [if_neg m0] at w; exact w.elim
end
end MM

/-! ML32: what changes an own instance. -/
namespace MM
open PySem PySem.Spec PyProof.Rows L2

def putFd (f : Str) (d : Fd) : List (Str × Fd) → List (Str × Fd)
  | [] => [(f, d)]
  | (g, x) :: r => if g = f then (g, d) :: r else (g, x) :: putFd f d r
section
variable {K : PySem.W.Frag} {H : Hp}
theorem FsR.put {f : Str} {v : V} {d : Fd} (r : FdR K H v d) : ∀ {vs : List (Str × V)} {fs : List (Str × Fd)}, FsR K H vs fs → FsR K H (putF f v vs) (putFd f d fs)
  | [], [], _ => ⟨rfl, r, trivial⟩
  | [], _ :: _, h => h.elim
  | _ :: _, [], h => h.elim
  | (g, u) :: vs, (g', e) :: fs, ⟨h1, h2, h3⟩ => by
    subst h1
    unfold putF putFd
    by_cases q : g = f
    · rw [if_pos q, if_pos q]; exact ⟨rfl, r, h3⟩
    · rw [if_neg q, if_neg q]; exact ⟨rfl, h2, FsR.put r h3⟩
theorem fAdr_putv {f : Str} {v : V} {d : PD} : ∀ {vs : List (Str × V)} {fs : List (Str × Fd)}, FsR K H vs fs → List.Sublist (fAdr (putF f v vs) (putFd f (.v d) fs)) (fAdr vs fs)
  | [], [], _ => by cases v <;> exact List.Sublist.refl _
  | [], _ :: _, h => h.elim
  | _ :: _, [], h => h.elim
  | (g, u) :: vs, (g', e) :: fs, ⟨h1, h2, h3⟩ => by
    subst h1
    unfold putF putFd
    by_cases q : g = f
    · rw [if_pos q, if_pos q]
      have e1 : fAdr ((g, v) :: vs) ((g, Fd.v d) :: fs) = fAdr vs fs := by cases v <;> rfl
      rw [e1]
      cases e with
      | v d' => cases u <;> exact List.Sublist.refl _
      | l ds => cases u <;> first | exact List.Sublist.refl _ | exact List.sublist_cons_self _ _
    · rw [if_neg q, if_neg q]
      cases e with
      | v d' => cases u <;> exact fAdr_putv h3
      | l ds => cases u <;> first | exact fAdr_putv h3 | exact (fAdr_putv h3).cons₂ _
theorem fAdr_putl {f : Str} {b : Addr} {ds : List PD} : ∀ {vs : List (Str × V)} {fs : List (Str × Fd)}, FsR K H vs fs → b ∉ fAdr vs fs → (fAdr vs fs).Nodup → (fAdr (putF f (.ref b) vs) (putFd f (.l ds) fs)).Nodup ∧ ∀ a, a ∈ fAdr (putF f (.ref b) vs) (putFd f (.l ds) fs) → a = b ∨ a ∈ fAdr vs fs
  | [], [], _, _, _ => ⟨by simp [putF, putFd, fAdr], fun a h => by simp [putF, putFd, fAdr] at h; exact .inl h⟩
  | [], _ :: _, h, _, _ => h.elim
  | _ :: _, [], h, _, _ => h.elim
  | (g, u) :: vs, (g', e) :: fs, ⟨h1, h2, h3⟩, nb, nd => by
    subst h1
    unfold putF putFd
    by_cases q : g = f
    · rw [if_pos q, if_pos q]
      have e1 : fAdr ((g, V.ref b) :: vs) ((g, Fd.l ds) :: fs) = b :: fAdr vs fs := rfl
      rw [e1]
      have sub : List.Sublist (fAdr vs fs) (fAdr ((g, u) :: vs) ((g, e) :: fs)) := by
        cases e with
        | v d' => cases u <;> exact List.Sublist.refl _
        | l ds => cases u <;> first | exact List.Sublist.refl _ | exact List.sublist_cons_self _ _
      exact ⟨List.nodup_cons.mpr ⟨fun m => nb (sub.subset m), nd.sublist sub⟩, fun a h => (List.mem_cons.mp h).imp id fun m => sub.subset m⟩
    · rw [if_neg q, if_neg q]
      cases e with
      | v d' =>
        have e1 : fAdr ((g, u) :: vs) ((g, Fd.v d') :: fs) = fAdr vs fs := by cases u <;> rfl
        have e2 : fAdr ((g, u) :: putF f (.ref b) vs) ((g, Fd.v d') :: putFd f (.l ds) fs) = fAdr (putF f (.ref b) vs) (putFd f (.l ds) fs) := by cases u <;> rfl
        rw [e1] at nb nd ⊢
        rw [e2]
        exact fAdr_putl h3 nb nd
      | l es =>
        obtain ⟨a0, xs, e0, _⟩ := h2
        subst e0
        have e1 : fAdr ((g, V.ref a0) :: vs) ((g, Fd.l es) :: fs) = a0 :: fAdr vs fs := rfl
        have e2 : fAdr ((g, V.ref a0) :: putF f (.ref b) vs) ((g, Fd.l es) :: putFd f (.l ds) fs) = a0 :: fAdr (putF f (.ref b) vs) (putFd f (.l ds) fs) := rfl
        rw [e1] at nb nd ⊢
        rw [e2]
        obtain ⟨n1, n2⟩ := fAdr_putl (f := f) (ds := ds) h3 (fun m => nb (List.mem_cons_of_mem _ m)) (List.nodup_cons.mp nd).2
        refine ⟨List.nodup_cons.mpr ⟨fun m => ?_, n1⟩, fun a h => ?_⟩
        · rcases n2 a0 m with z | z
          · exact nb (by rw [z]; exact List.mem_cons_self)
          · exact (List.nodup_cons.mp nd).1 z
        · rcases List.mem_cons.mp h with z | z
          · exact .inr (by rw [z]; exact List.mem_cons_self)
          · exact (n2 a z).imp id (List.mem_cons_of_mem _)
/-- what stands at the fields is theirs: another address changes nothing -/
theorem FsR.updo {a : Addr} {o u : HO} (ha : H a = some u) (fz : Fz u = false) : ∀ {vs : List (Str × V)} {fs : List (Str × Fd)}, a ∉ fAdr vs fs → FsR K H vs fs → FsR K (upd H a o) vs fs := fun {vs fs} n r =>
  r.keep (fun b o' e z => by rw [upd_ne (fun w => by subst w; rw [ha] at e; cases e; rw [fz] at z; cases z)]; exact e) fun b u' m e => by rw [upd_ne (fun w => by subst w; exact n m)]; exact e
end
section
variable {K : PySem.W.Frag} {c : Mc} {ε : En} {σ : L2.St} {H H' : Hp}
/-- one slot's thing changes, may take in new things that nobody holds -/
theorem SR.chgG (S : SR K c ε σ H) {i : Nat} {sl sl' : Sl} {ov : Option V} (h1 : ε[i]? = some sl) (h2 : σ[i]? = some ov) (k : ∀ b u, H b = some u → ¬ SlF H sl ov b → H' b = some u) (t : ∀ b u, H b = some u → H' b ≠ none)
    (r : SoR K H' sl' ov) (f : ∀ b, SlF H' sl' ov b → SlF H sl ov b ∨ (c.H0 b = none ∧ ¬ Own ε σ H b)) (io : ∀ o, sl = .io o → ∃ o', sl' = .io o') :
    SR K c (ε.set i sl') σ H' ∧ (∀ b o, H b = some o → ¬ Own ε σ H b → H' b = some o) ∧ ∀ b, Own (ε.set i sl') σ H' b → Own ε σ H b ∨ SlF H' sl' ov b := by
  have im : Im H H' := fun a o h z => k a o h fun q => by
    obtain ⟨u, hu, fu, _⟩ := (S.rel i sl ov h1 h2).trk q
    rw [h] at hu; cases hu
    rw [z] at fu; cases fu
  have kj : ∀ (j : Nat) (slj : Sl) (ovj : Option V), j ≠ i → ε[j]? = some slj → σ[j]? = some ovj → ∀ b u, SlF H slj ovj b → H b = some u → H' b = some u := fun j slj ovj ne e1 e2 b u fb hb =>
    k b u hb fun q => ne (S.dis j i slj sl ovj ov b e1 e2 fb h1 h2 q)
  have ft : ∀ (j : Nat) (slj : Sl) (ovj : Option V) (b : Addr), (ε.set i sl')[j]? = some slj → σ[j]? = some ovj → SlF H' slj ovj b → (∃ s0, ε[j]? = some s0 ∧ SlF H s0 ovj b ∧ ((∀ o, slj ≠ .io o) → ∀ o, s0 ≠ .io o)) ∨ (j = i ∧ (c.H0 b = none ∧ ¬ Own ε σ H b) ∧ SlF H' sl' ov b) := fun j slj ovj b e1 e2 fb => by
    rcases get_set e1 with ⟨e, e'⟩ | ⟨e, e'⟩
    · subst e e'
      rw [h2] at e2; cases e2
      exact (f b fb).imp (fun z => ⟨sl, h1, z, fun n o w => let ⟨o', e'⟩ := io o w; n o' e'⟩) fun z => ⟨rfl, z, fb⟩
    · exact .inl ⟨slj, e', (S.rel j slj ovj e' e2).ft (kj j slj ovj e e' e2) fb, fun n => n⟩
  refine ⟨⟨by rw [List.length_set]; exact S.len, fun a o h n => ?_, fun a fa e => ?_, fun j v hj => ?_, fun j slj ovj e1 e2 => ?_, fun j slj ovj b e1 e2 fb => ?_, fun j slj ovj b e1 e2 fb n => ?_, fun j l slj sll ovj ovl b e1 e2 fb e3 e4 fb' => ?_⟩,
    fun b o h n => k b o h fun q => n ⟨i, sl, ov, h1, h2, q⟩, fun b ⟨j, slj, ovj, e1, e2, fb⟩ => ?_⟩
  · exact k a o (S.fr a o h n) fun q => (S.own i sl ov a h1 h2 q).elim n fun z => by rw [h] at z; cases z
  · cases e2 : H a with
    | none => exact S.fin a fa e2
    | some o => exact t a o e2 e
  · obtain ⟨p1, o, p2⟩ := S.pm j v hj
    refine ⟨p1, ?_⟩
    by_cases e : i = j
    · subst e
      rw [h1] at p2; cases p2
      obtain ⟨o', e'⟩ := io o rfl
      subst e'
      exact ⟨o', by rw [List.getElem?_set_self (List.getElem?_eq_some_iff.mp h1).1]⟩
    · exact ⟨o, by rw [List.getElem?_set_ne e]; exact p2⟩
  · rcases get_set e1 with ⟨e, e'⟩ | ⟨e, e'⟩
    · subst e e'
      rw [h2] at e2; cases e2
      exact r
    · exact (S.rel j slj ovj e' e2).keep im (kj j slj ovj e e' e2)
  · rcases ft j slj ovj b e1 e2 fb with ⟨s0, e3, f3, _⟩ | ⟨_, z, _⟩
    · exact S.own j s0 ovj b e3 e2 f3
    · exact .inr z.1
  · rcases ft j slj ovj b e1 e2 fb with ⟨s0, e3, f3, n3⟩ | ⟨_, z, _⟩
    · exact S.ows j s0 ovj b e3 e2 f3 (n3 n)
    · exact z.1
  · rcases ft j slj ovj b e1 e2 fb with ⟨s0, e5, f5, _⟩ | ⟨a1, z, _⟩
    · rcases ft l sll ovl b e3 e4 fb' with ⟨s1, e6, f6, _⟩ | ⟨a2, z, _⟩
      · exact S.dis j l s0 s1 ovj ovl b e5 e2 f5 e6 e4 f6
      · exact absurd ⟨j, s0, ovj, e5, e2, f5⟩ z.2
    · rcases ft l sll ovl b e3 e4 fb' with ⟨s1, e6, f6, _⟩ | ⟨a2, _⟩
      · exact absurd ⟨l, s1, ovl, e6, e4, f6⟩ z.2
      · rw [a1, a2]
  · rcases ft j slj ovj b e1 e2 fb with ⟨s0, e5, f5, _⟩ | ⟨a1, _, z⟩
    · exact .inl ⟨j, s0, ovj, e5, e2, f5⟩
    · exact .inr z
/-- the own instance of a slot -/
def ownI (ε : En) (i : Nat) : Option (Str × List (Str × Fd)) := match ε[i]? with
  | some (.ow (.ins x fs)) => some (x, fs)
  | some (.io (.ins x fs)) => some (x, fs)
  | _ => none
theorem SR.atI {i : Nat} {x : Str} {fs : List (Str × Fd)} (S : SR K c ε σ H) (e : ownI ε i = some (x, fs)) : ∃ a C dx vs, σ[i]? = some (some (.ref a)) ∧ H a = some (.ins C dx vs) ∧ nmR K x C ∧ (fAdr vs fs).Nodup ∧ FsR K H vs fs ∧
    (ε[i]? = some (.ow (.ins x fs)) ∨ ε[i]? = some (.io (.ins x fs))) ∧ (∀ b, SlF H (.ow (.ins x fs)) (some (.ref a)) b ↔ b = a ∨ b ∈ fAdr vs fs) := by
  have h : ε[i]? = some (.ow (.ins x fs)) ∨ ε[i]? = some (.io (.ins x fs)) := by
    unfold ownI at e
    split at e
    · cases e; exact .inl (by assumption)
    · cases e; exact .inr (by assumption)
    · cases e
  obtain ⟨v, h1, ⟨a, C, dx, vs, rfl, ha, nm, nd, fr⟩, _⟩ := S.atO h
  refine ⟨a, C, dx, vs, h1, ha, nm, nd, fr, h, fun b => ⟨fun ⟨a', C', dx', vs', e1, e2, q⟩ => ?_, fun q => ⟨a, C, dx, vs, rfl, ha, q⟩⟩⟩
  cases e1
  rw [ha] at e2
  cases e2
  exact q
/-- the instance of a slot is another one, at the same place -/
theorem SR.setI {i : Nat} {x : Str} {fs fs' : List (Str × Fd)} {a C dx : Addr} {vs vs' : List (Str × V)} (S : SR K c ε σ H) (h1 : σ[i]? = some (some (.ref a))) (h : ε[i]? = some (.ow (.ins x fs)) ∨ ε[i]? = some (.io (.ins x fs))) (ha : H a = some (.ins C dx vs))
    (hk : ∀ b u, H b = some u → b ≠ a → b ∉ fAdr vs fs → H' b = some u) (ht : ∀ b u, H b = some u → H' b ≠ none) (ha' : H' a = some (.ins C dx vs')) (nm : nmR K x C) (nd : (fAdr vs' fs').Nodup) (fr : FsR K H' vs' fs')
    (fn : ∀ b, b ∈ fAdr vs' fs' → b ∈ fAdr vs fs ∨ (c.H0 b = none ∧ ¬ Own ε σ H b)) :
    SR K c (setOb ε i (.ins x fs')) σ H' ∧ (∀ b o, H b = some o → ¬ Own ε σ H b → H' b = some o) ∧ ∀ b, Own (setOb ε i (.ins x fs')) σ H' b → Own ε σ H b ∨ b ∈ fAdr vs' fs' := by
  have ft : ∀ b, Ft H (.ins x fs) (.ref a) b ↔ b = a ∨ b ∈ fAdr vs fs := fun b => ⟨fun ⟨a', C', dx', vs'', e1, e2, q⟩ => by cases e1; rw [ha] at e2; cases e2; exact q, fun q => ⟨a, C, dx, vs, rfl, ha, q⟩⟩
  have ft' : ∀ b, Ft H' (.ins x fs') (.ref a) b ↔ b = a ∨ b ∈ fAdr vs' fs' := fun b => ⟨fun ⟨a', C', dx', vs'', e1, e2, q⟩ => by cases e1; rw [ha'] at e2; cases e2; exact q, fun q => ⟨a, C, dx, vs', rfl, ha', q⟩⟩
  have ob : ObR K H' (.ins x fs') (.ref a) := ⟨a, C, dx, vs', rfl, ha', nm, nd, fr⟩
  have own : ∀ b, (ε[i]? = some (.ow (.ins x fs)) ∨ ε[i]? = some (.io (.ins x fs))) → b = a → Own ε σ H b := fun b h z => by
    rcases h with h | h
    · exact ⟨i, _, _, h, h1, (ft b).mpr (.inl z)⟩
    · exact ⟨i, _, _, h, h1, (ft b).mpr (.inl z)⟩
  rcases h with z | z
  · rw [show setOb ε i (.ins x fs') = ε.set i (.ow (.ins x fs')) by unfold setOb; rw [z]]
    obtain ⟨S', k', w'⟩ := S.chgG (H' := H') (sl' := .ow (.ins x fs')) z h1 (fun b u q n => hk b u q (fun e => n ((ft b).mpr (.inl e))) fun e => n ((ft b).mpr (.inr e))) ht ob
      (fun b q => by
        rcases (ft' b).mp q with e | e
        · exact .inl ((ft b).mpr (.inl e))
        · exact (fn b e).imp (fun e => (ft b).mpr (.inr e)) id) fun o w => nomatch w
    refine ⟨S', k', fun b w => (w' b w).elim .inl fun q => ?_⟩
    rcases (ft' b).mp q with e | e
    · exact .inl (own b (.inl z) e)
    · exact .inr e
  · rw [show setOb ε i (.ins x fs') = ε.set i (.io (.ins x fs')) by unfold setOb; rw [z]]
    obtain ⟨S', k', w'⟩ := S.chgG (H' := H') (sl' := .io (.ins x fs')) z h1 (fun b u q n => hk b u q (fun e => n ((ft b).mpr (.inl e))) fun e => n ((ft b).mpr (.inr e))) ht ob
      (fun b q => by
        rcases (ft' b).mp q with e | e
        · exact .inl ((ft b).mpr (.inl e))
        · exact (fn b e).imp (fun e => (ft b).mpr (.inr e)) id) fun o w => ⟨_, rfl⟩
    refine ⟨S', k', fun b w => (w' b w).elim .inl fun q => ?_⟩
    rcases (ft' b).mp q with e | e
    · exact .inl (own b (.inr z) e)
    · exact .inr e
end
end MM

/-! ML33: attributes stored; own lists of instances changed; the last one of an own list taken. -/
namespace MM
open PySem PySem.Spec PyProof.Rows L2

section
variable {K : PySem.W.Frag} {H : Hp}
/-- the own list at an attribute -/
theorem FsR.list {f : Str} {ds : List PD} : ∀ {vs : List (Str × V)} {fs : List (Str × Fd)}, FsR K H vs fs → (fAdr vs fs).Nodup → fs.lookup f = some (.l ds) → ∃ b xs, vs.lookup f = some (.ref b) ∧ H b = some (.lst xs) ∧ RpA K H xs ds ∧ b ∈ fAdr vs fs ∧
    (∀ es, fAdr vs (putFd f (.l es) fs) = fAdr vs fs) ∧ ∀ (ys : List V) (es : List PD), RpA K H ys es → FsR K (L2.upd H b (.lst ys)) vs (putFd f (.l es) fs)
  | [], [], _, _, e => by cases e
  | [], _ :: _, h, _, _ => h.elim
  | _ :: _, [], h, _, _ => h.elim
  | (g, u) :: vs, (g', d) :: fs, ⟨h1, h2, h3⟩, nd, e => by
    subst h1
    have imU : ∀ {b : Addr} {xs ys : List V}, H b = some (.lst xs) → Im H (L2.upd H b (.lst ys)) := fun {b xs ys} hb a o q z => by
      rw [upd_ne (fun w => by subst w; rw [hb] at q; cases q; cases z)]; exact q
    simp only [List.lookup] at e ⊢
    cases q : f == g with
    | true =>
      rw [q] at e
      cases e
      have qe : g = f := (beq_iff_eq.mp q).symm
      obtain ⟨b, xs, e0, hb, ra⟩ := h2
      subst e0
      have e1 : fAdr ((g, V.ref b) :: vs) ((g, Fd.l ds) :: fs) = b :: fAdr vs fs := rfl
      rw [e1] at nd ⊢
      refine ⟨b, xs, rfl, hb, ra, List.mem_cons_self, fun es => ?_, fun ys es r => ?_⟩
      · unfold putFd; rw [if_pos qe]; rfl
      · unfold putFd
        rw [if_pos qe]
        refine ⟨rfl, ⟨b, ys, rfl, upd_same, RpA.im (imU hb) _ _ r⟩, FsR.updo hb rfl (List.nodup_cons.mp nd).1 h3⟩
    | false =>
      rw [q] at e
      have qn : ¬ g = f := fun z => by rw [z, beq_self_eq_true] at q; cases q
      cases d with
      | v d =>
        have e1 : ∀ fs', fAdr ((g, u) :: vs) ((g, Fd.v d) :: fs') = fAdr vs fs' := fun fs' => by cases u <;> rfl
        rw [e1] at nd ⊢
        obtain ⟨b, xs, a1, a2, a3, a4, a5, a6⟩ := FsR.list h3 nd e
        refine ⟨b, xs, a1, a2, a3, a4, fun es => ?_, fun ys es r => ?_⟩
        · unfold putFd; rw [if_neg qn, e1]; exact a5 es
        · unfold putFd
          rw [if_neg qn]
          exact ⟨rfl, Rp.im (imU a2) _ _ h2, a6 ys es r⟩
      | l es0 =>
        obtain ⟨b0, xs0, e0, hb0, ra0⟩ := h2
        subst e0
        have e1 : ∀ fs', fAdr ((g, V.ref b0) :: vs) ((g, Fd.l es0) :: fs') = b0 :: fAdr vs fs' := fun fs' => rfl
        rw [e1] at nd ⊢
        obtain ⟨b, xs, a1, a2, a3, a4, a5, a6⟩ := FsR.list h3 (List.nodup_cons.mp nd).2 e
        refine ⟨b, xs, a1, a2, a3, List.mem_cons_of_mem _ a4, fun es => ?_, fun ys es r => ?_⟩
        · unfold putFd; rw [if_neg qn, e1, a5 es]
        · unfold putFd
          rw [if_neg qn]
          have ne : b0 ≠ b := fun z => (List.nodup_cons.mp nd).1 (z ▸ a4)
          exact ⟨rfl, ⟨b0, xs0, rfl, by rw [upd_ne ne]; exact hb0, RpA.im (imU a2) _ _ ra0⟩, a6 ys es r⟩
theorem FsR.len : ∀ {vs : List (Str × V)} {fs : List (Str × Fd)}, FsR K H vs fs → vs.length = fs.length
  | [], [], _ => rfl
  | [], _ :: _, h => h.elim
  | _ :: _, [], h => h.elim
  | _ :: vs, _ :: fs, ⟨_, _, h⟩ => by simp [FsR.len h]
end
section
variable {X : Cx} {c : Mc} {pos apos p1 p2 : Pos}
theorem upd_nn {H : Hp} {a : Addr} {o : HO} {b : Addr} {u : HO} (e : H b = some u) : L2.upd H a o b ≠ none := by
  by_cases w : b = a
  · subst w; rw [upd_same]; exact fun z => nomatch z
  · rw [upd_ne w, e]; exact fun z => nomatch z
/-- x.f = a value -/
def sFldV (k : Nat) (x f : Str) (m : M PD) : M Fl := fun ε => (m ε).bind fun d ε1 => match ownI ε1 k with
  | some (y, fs) => if y = x ∧ fs.length < 1000 then .ok .nx (setOb ε1 k (.ins x (putFd f (.v d) fs))) else .stuck
  | none => .stuck
theorem js_fldV {k : Nat} {x f : Str} {C : Addr} {o e : Expr} {m : M PD} (nm : nmR X.K x C) (hc : Cls X.K C) (hf : NoAttr X.K C f) (ho : PE X o (tVar k)) (he : JV X c e m) (hs : swapsWith e (some (.Attribute o f p1)) pos.line X.env = pure false := by rfl) :
    JS X c (.Assign [.Attribute o f p1] e pos) (sFldV k x f m) :=
  ps_imp (ps_fld ho he hs) fun D σ H ⟨ε, S, w⟩ => ⟨ε, S, val_then w fun d ε1 v H1 _ t1 S1 r p => by
    cases e0 : ownI ε1 k with
    | none => rw [e0] at p; exact p.elim
    | some q =>
      obtain ⟨y, fs⟩ := q
      rw [e0] at p
      simp only at p
      split at p
      · rename_i hy
        obtain ⟨hy, hl⟩ := hy
        subst hy
        obtain ⟨a, D', dx, vs, h1, ha, nD, nd, fr, hk, _⟩ := S1.atI e0
        cases nmR_eq nD nm
        refine ⟨_, h1, a, C, dx, vs, rfl, ha, hc, hf, by rw [fr.len]; exact hl, ?_⟩
        have im : Im H1 (L2.upd H1 a (.ins C dx (putF f v vs))) := fun b o q z => by rw [upd_ne (fun w => by subst w; rw [ha] at q; cases q; cases z)]; exact q
        have sub := fAdr_putv (f := f) (v := v) (d := d) fr
        have na : a ∉ fAdr vs fs := fun m => by obtain ⟨xs, q⟩ := fr.at m; rw [ha] at q; cases q
        obtain ⟨S2, k2, w2⟩ := S1.setI (H' := L2.upd H1 a (.ins C dx (putF f v vs))) (vs' := putF f v vs) (fs' := putFd f (.v d) fs) h1 hk ha (fun b u q n _ => by rw [upd_ne n]; exact q) (fun b u q => upd_nn q) upd_same nm (nd.sublist sub)
          ((FsR.put (show FdR X.K H1 v (.v d) from r) fr).keep im fun b u m q => by rw [upd_ne (fun z => by subst z; exact na (sub.subset m))]; exact q) (fun b m => .inl (sub.subset m))
        refine p σ _ ⟨k2, fun b z => (w2 b z).elim .inl fun z => .inl ?_, fun b o q => upd_nn q⟩ S2
        rcases hk with hk | hk
        · exact ⟨k, _, _, hk, h1, ⟨a, C, dx, vs, rfl, ha, .inr (sub.subset z)⟩⟩
        · exact ⟨k, _, _, hk, h1, ⟨a, C, dx, vs, rfl, ha, .inr (sub.subset z)⟩⟩
      · exact p.elim⟩
/-- x.f = a new list -/
def sFldL (k : Nat) (x f : Str) (m : M Opd) : M Fl := fun ε => (m ε).bind fun o ε1 => match o with
  | .new (.l ds) => match ownI ε1 k with
    | some (y, fs) => if y = x ∧ fs.length < 1000 then .ok .nx (setOb ε1 k (.ins x (putFd f (.l ds) fs))) else .stuck
    | none => .stuck
  | _ => .stuck
theorem js_fldL {k : Nat} {x f : Str} {C : Addr} {o e : Expr} {m : M Opd} (nm : nmR X.K x C) (hc : Cls X.K C) (hf : NoAttr X.K C f) (ho : PE X o (tVar k)) (he : JE X c e m) (hs : swapsWith e (some (.Attribute o f p1)) pos.line X.env = pure false := by rfl) :
    JS X c (.Assign [.Attribute o f p1] e pos) (sFldL k x f m) :=
  ps_imp (ps_fld ho he hs) fun D σ H ⟨ε, S, w⟩ => by
    refine ⟨ε, S, ?_⟩
    unfold sFldL at w
    cases em : m ε with
    | stuck => rw [em] at w; exact w
    | exc C ε' => rw [em] at w; exact fun H' a b => w σ H' a b
    | ok op ε1 =>
      rw [em, Out.bind_ok] at w
      intro v H1 t1 S1 r n
      cases op with
      | val d => exact w.elim
      | own k => exact w.elim
      | new ob =>
        cases ob with
        | l ds =>
          simp only at w
          cases e0 : ownI ε1 k with
          | none => rw [e0] at w; exact w.elim
          | some q =>
            obtain ⟨y, fs⟩ := q
            rw [e0] at w
            simp only at w
            split at w
            · rename_i hy
              obtain ⟨hy, hl⟩ := hy
              subst hy
              obtain ⟨a, D', dx, vs, h1, ha, nD, nd, fr, hk, _⟩ := S1.atI e0
              cases nmR_eq nD nm
              obtain ⟨⟨b, xs, ev, hb, rb⟩, fb⟩ := r
              subst ev
              obtain ⟨b0, bno⟩ := fb b rfl
              have ownF : ∀ z, z ∈ fAdr vs fs → Own ε1 σ H1 z := fun z m => by
                rcases hk with hk | hk
                · exact ⟨k, _, _, hk, h1, ⟨a, C, dx, vs, rfl, ha, .inr m⟩⟩
                · exact ⟨k, _, _, hk, h1, ⟨a, C, dx, vs, rfl, ha, .inr m⟩⟩
              refine ⟨_, h1, a, C, dx, vs, rfl, ha, hc, hf, by rw [fr.len]; exact hl, ?_⟩
              have im : Im H1 (L2.upd H1 a (.ins C dx (putF f (.ref b) vs))) := fun b o q z => by rw [upd_ne (fun w => by subst w; rw [ha] at q; cases q; cases z)]; exact q
              have nb : b ∉ fAdr vs fs := fun m => bno (ownF b m)
              have ne : b ≠ a := fun z => by rw [z, ha] at hb; cases hb
              have na : a ∉ fAdr vs fs := fun m => by obtain ⟨xs, q⟩ := fr.at m; rw [ha] at q; cases q
              obtain ⟨nd2, sub⟩ := fAdr_putl (f := f) (ds := ds) fr nb nd
              obtain ⟨S2, k2, w2⟩ := S1.setI (H' := L2.upd H1 a (.ins C dx (putF f (.ref b) vs))) (vs' := putF f (.ref b) vs) (fs' := putFd f (.l ds) fs) h1 hk ha (fun b u q n _ => by rw [upd_ne n]; exact q) (fun b u q => upd_nn q) upd_same nm nd2
                ((FsR.put (show FdR X.K H1 (.ref b) (.l ds) from ⟨b, xs, rfl, hb, rb⟩) fr).keep im fun z u m q => by
                  rw [upd_ne (fun e => by rcases sub z m with e2 | e2
                                          · exact ne (e2.symm.trans e)
                                          · exact na (by subst e; exact e2))]; exact q)
                (fun z m => by rcases sub z m with e | e
                               · subst e; exact .inr ⟨b0, bno⟩
                               · exact .inl e)
              refine w σ _ ⟨fun z o q n2 => k2 z o (t1.kp z o q n2) (fun q2 => (t1.ow z q2).elim n2 fun e => by rw [q] at e; cases e), fun z q => ?_, fun z o q => ?_⟩ S2
              · rcases w2 z q with e | e
                · exact t1.ow z e
                · rcases sub z e with e2 | e2
                  · subst e2; exact .inr (n z rfl)
                  · exact t1.ow z (ownF z e2)
              · cases q2 : H1 z with
                | none => exact absurd q2 (t1.tr z o q)
                | some u => exact upd_nn q2
            · exact w.elim
        | _ => exact w.elim
/-- x.f.append(y) -/
def mFApp (k : Nat) (x f : Str) (j : Nat) : M Opd := fun ε => match ownI ε k, ε[j]? with
  | some (y, fs), some (.p d) => if y = x then (match fs.lookup f with
      | some (.l ds) => if ds.length < big then .ok (.val .none) (setOb ε k (.ins x (putFd f (.l (ds ++ [d])) fs))) else .stuck
      | _ => .stuck) else .stuck
  | _, _ => .stuck
/-- x.f.pop() -/
def mFPop (k : Nat) (x f : Str) : M Opd := fun ε => match ownI ε k with
  | some (y, fs) => if y = x then (match fs.lookup f with
      | some (.l ds) => (match ds[ds.length - 1]? with
        | some d => .ok (.val d) (setOb ε k (.ins x (putFd f (.l ds.dropLast) fs)))
        | none => .stuck)
      | _ => .stuck) else .stuck
  | _ => .stuck
theorem SR.setFl {K : PySem.W.Frag} {ε : En} {σ : L2.St} {H : Hp} {k : Nat} {x f : Str} {fs : List (Str × Fd)} {ds es : List PD} (S : SR K c ε σ H) (e0 : ownI ε k = some (x, fs)) (hd : fs.lookup f = some (.l ds)) :
    ∃ a C dx vs b xs, σ[k]? = some (some (.ref a)) ∧ H a = some (.ins C dx vs) ∧ nmR K x C ∧ vs.lookup f = some (.ref b) ∧ H b = some (.lst xs) ∧ RpA K H xs ds ∧ ∀ ys es, RpA K H ys es →
      SR K c (setOb ε k (.ins x (putFd f (.l es) fs))) σ (L2.upd H b (.lst ys)) ∧ Step ε σ H (setOb ε k (.ins x (putFd f (.l es) fs))) σ (L2.upd H b (.lst ys)) := by
  obtain ⟨a, C, dx, vs, h1, ha, nm, nd, fr, hk, _⟩ := S.atI e0
  obtain ⟨b, xs, a1, hb, ra, mb, a5, a6⟩ := fr.list nd hd
  have ownF : ∀ z, z ∈ fAdr vs fs → Own ε σ H z := fun z m => by
    rcases hk with hk | hk
    · exact ⟨k, _, _, hk, h1, ⟨a, C, dx, vs, rfl, ha, .inr m⟩⟩
    · exact ⟨k, _, _, hk, h1, ⟨a, C, dx, vs, rfl, ha, .inr m⟩⟩
  refine ⟨a, C, dx, vs, b, xs, h1, ha, nm, a1, hb, ra, fun ys es r => ?_⟩
  have ne : a ≠ b := fun z => by rw [z, hb] at ha; cases ha
  obtain ⟨S2, k2, w2⟩ := S.setI (H' := L2.upd H b (.lst ys)) (vs' := vs) (fs' := putFd f (.l es) fs) h1 hk ha (fun z u q _ n => by rw [upd_ne (fun e => by subst e; exact n mb)]; exact q) (fun b u q => upd_nn q) (by rw [upd_ne ne]; exact ha) nm (by rw [a5]; exact nd) (a6 ys es r)
    (fun z m => .inl (by rw [a5] at m; exact m))
  exact ⟨S2, k2, fun z q => (w2 z q).elim .inl fun m => .inl (ownF z (by rw [a5] at m; exact m)), fun z o q => upd_nn q⟩
theorem je_fapp {k j : Nat} {x f : Str} {C : Addr} {o e : Expr} (nm : nmR X.K x C) (hc : Cls X.K C) (hf : NoAttr X.K C f) (ho : PE X o (tVar k)) (he : PE X e (tVar j)) (hb0 : attributeBase o f X.env (eval o X.env) = eval o X.env := by rfl)
    (hbase : attributeBase (.Attribute o f p1) "append" X.env (eval (.Attribute o f p1) X.env) = eval (.Attribute o f p1) X.env := by rfl)
    (hfew : ((backTo pos (starEach [e] X.env)).all (fun x => !x.1) && (backToKw pos (keywordEach [] X.env)).all (fun x => x.1.isSome) && decide ([e].length + ([] : List Keyword).length + (if ([] : List Keyword).isEmpty then 0 else 1) < 30)) = true := by rfl)
    (hline : (apos.endLine == pos.line) = true := by rfl) (hs : starEach [e] X.env = (false, eval e X.env) :: starEach [] X.env := by rfl) (hplain : (backTo pos (starEach [] X.env)).any (·.1) = false := by rfl) :
    JE X c (.Call (.Attribute (.Attribute o f p1) "append" apos) [e] [] pos) (mFApp k x f j) :=
  pe_imp (pe_bm PySem.F.plainAttrs_list PySem.F.slot_list_append PySem.F.type_list_append mt_append (pe_fldX ho hb0) (pa_cons he pa_nil hs) hbase hfew hline hs hplain) fun σ H Q ⟨ε, S, w⟩ => by
    unfold mFApp at w
    cases e0 : ownI ε k with
    | none => rw [e0] at w; exact w.elim
    | some q =>
      obtain ⟨y, fs⟩ := q
      rw [e0] at w
      cases e1 : ε[j]? with
      | none => rw [e1] at w; exact w.elim
      | some sl =>
        rw [e1] at w
        cases sl with
        | p d =>
          simp only at w
          by_cases hy : y = x
          · subst hy
            rw [if_pos rfl] at w
            cases e2 : fs.lookup f with
            | none => rw [e2] at w; exact w.elim
            | some g =>
              rw [e2] at w
              cases g with
              | v _ => exact w.elim
              | l ds =>
                simp only at w
                by_cases hl : ds.length < big
                · rw [if_pos hl] at w
                  obtain ⟨a, D, dx, vs, b, xs, h1, ha, nD, lk, hb, ra, upd_⟩ := S.setFl (es := []) e0 e2
                  cases nmR_eq nD nm
                  obtain ⟨v, hv, rv⟩ := S.atP e1
                  refine ⟨_, h1, a, C, dx, vs, _, rfl, .inl ha, hc, hf, lk, .inl ⟨rfl, xs, SqL.of hb⟩, v, hv, b, xs, v, rfl, rfl, hb, Nat.lt_of_lt_of_le (by rw [ra.length]; exact hl) (big_line (Nat.le_refl _)), ?_⟩
                  obtain ⟨S2, t2⟩ := upd_ (xs ++ [v]) (ds ++ [d]) (ra.append (.cons rv .nil))
                  exact w _ _ t2 S2 .non trivial
                · rw [if_neg hl] at w; exact w.elim
          · rw [if_neg hy] at w; exact w.elim
        | _ => exact w.elim
theorem last_get {α : Type} {K : PySem.W.Frag} {H : Hp} {xs : List V} {ds : List PD} {d : PD} (r : RpA K H xs ds) (h : ds[ds.length - 1]? = some d) : ∃ v, xs[xs.length - 1]? = some v ∧ Rp K H v d ∧ RpA K H xs.dropLast ds.dropLast := by
  rw [← r.length] at h
  obtain ⟨v, h1, h2⟩ := r.get h
  refine ⟨v, h1, h2, ?_⟩
  rw [List.dropLast_eq_take, List.dropLast_eq_take, r.length]
  exact r.take _
theorem je_fpop {k : Nat} {x f : Str} {C : Addr} {o : Expr} (nm : nmR X.K x C) (hc : Cls X.K C) (hf : NoAttr X.K C f) (ho : PE X o (tVar k)) (hb0 : attributeBase o f X.env (eval o X.env) = eval o X.env := by rfl)
    (hbase : attributeBase (.Attribute o f p1) "pop" X.env (eval (.Attribute o f p1) X.env) = eval (.Attribute o f p1) X.env := by rfl) (hline : (apos.endLine == pos.line) = true := by rfl) :
    JE X c (.Call (.Attribute (.Attribute o f p1) "pop" apos) [] [] pos) (mFPop k x f) :=
  pe_imp (pe_bm0 PySem.F.plainAttrs_list PySem.F.slot_list_pop PySem.F.type_list_pop mt_pop (pe_fldX ho hb0) hbase hline) fun σ H Q ⟨ε, S, w⟩ => by
    unfold mFPop at w
    cases e0 : ownI ε k with
    | none => rw [e0] at w; exact w.elim
    | some q =>
      obtain ⟨y, fs⟩ := q
      rw [e0] at w
      simp only at w
      by_cases hy : y = x
      · subst hy
        rw [if_pos rfl] at w
        cases e2 : fs.lookup f with
        | none => rw [e2] at w; exact w.elim
        | some g =>
          rw [e2] at w
          cases g with
          | v _ => exact w.elim
          | l ds =>
            simp only at w
            cases e3 : ds[ds.length - 1]? with
            | none => rw [e3] at w; exact w.elim
            | some d =>
              rw [e3] at w
              obtain ⟨a, D, dx, vs, b, xs, h1, ha, nD, lk, hb, ra, upd_⟩ := S.setFl (es := []) e0 e2
              cases nmR_eq nD nm
              obtain ⟨v, hv, rv, rd⟩ := last_get (α := Unit) ra e3
              refine ⟨_, h1, a, C, dx, vs, _, rfl, .inl ha, hc, hf, lk, .inl ⟨rfl, xs, SqL.of hb⟩, b, xs, v, rfl, rfl, hb, hv, ?_⟩
              obtain ⟨S2, t2⟩ := upd_ xs.dropLast ds.dropLast rd
              exact w _ _ t2 S2 (Rp.im (S.im t2) _ _ rv) trivial
      · rw [if_neg hy] at w; exact w.elim
/-- xs.pop() of an own list -/
def mPop (i : Nat) : M Opd := fun ε => match ownL ε i with
  | some ds => (match ds[ds.length - 1]? with
    | some d => .ok (.val d) (setOb ε i (.l ds.dropLast))
    | none => .stuck)
  | none => .stuck
theorem je_pop {i : Nat} {o : Expr} (ho : PE X o (tVar i)) (hbase : attributeBase o "pop" X.env (eval o X.env) = eval o X.env := by rfl) (hline : (apos.endLine == pos.line) = true := by rfl) : JE X c (.Call (.Attribute o "pop" apos) [] [] pos) (mPop i) :=
  pe_imp (pe_bm0 PySem.F.plainAttrs_list PySem.F.slot_list_pop PySem.F.type_list_pop mt_pop ho hbase hline) fun σ H Q ⟨ε, S, w⟩ => by
    unfold mPop at w
    cases e0 : ownL ε i with
    | none => rw [e0] at w; exact w.elim
    | some ds =>
      rw [e0] at w
      simp only at w
      cases e3 : ds[ds.length - 1]? with
      | none => rw [e3] at w; exact w.elim
      | some d =>
        rw [e3] at w
        obtain ⟨a, xs, h1, h2, h3, _⟩ := S.atL e0
        obtain ⟨v, hv, rv, rd⟩ := last_get (α := Unit) h3 e3
        obtain ⟨S2, t2⟩ := S.setL e0 h1 h2 rd
        exact ⟨_, h1, .inl ⟨rfl, xs, SqL.of h2⟩, a, xs, v, rfl, rfl, h2, hv, w _ _ t2 S2 (Rp.im (S.im t2) _ _ rv) trivial⟩
end
end MM

/-! ML34: a class's facts. -/
namespace MM
open PySem PySem.Spec PyProof.Rows L2
/-- what the mirror never comes to -/
def mNever : M Opd := fun _ => .stuck
theorem je_never {X : Cx} {c : Mc} {e : Expr} : JE X c e mNever := ⟨fun _ _ _ _ _ _ ⟨_, _, h⟩ => h.elim⟩
/-- f() -/
theorem je_call0 {X : Cx} {c : Mc} {pos p : Pos} {k : Nat} {f : Addr} {fd : FuncData} {ps : List Str} {F : List Sl → FOut} {x : Str} (G : FnOk X.prog X.w X.K X.mg X.base (L2.CX X.prog X.w) k f fd ps (spF X.K X.mg 0 F)) (hr : Room k X.A) (hg : Gl X x)
    (hm : X.mg x = some (.ref f)) (hk : PySem.W.keepIn X.K (.ref f) = true) (hb : Binds X.K fd ps []) (tk : TK X c) (hdb : (x == ("__debug__" : Str)) = false := by decide) : JE X c (.Call (.Name x p) [] [] pos) (mCall F oNil) := by
  refine ⟨fun pins s σ H Q I w => wpAny_Call_Name_kw (ld_glob I hg hm (PySem.W.callWith_K0 I.kIn hk (run_fnS (us := []) (vs := []) G hr hb (passAt tk σ) I .nil ?_)) hdb)⟩
  obtain ⟨ε, S, h⟩ := w
  exact call_os rfl S .nil trivial .refl h
/-- a method of the class at C -/
structure Mf (K : PySem.W.Frag) (C : Addr) (m qual : Str) (st : Stmt) (ps : List Str) (f : Addr) (fd : FuncData) : Prop where
  fn : Fun K m qual st f fd
  me : Meth K C m f
  bd : Binds K fd ps []
/-- the class Play -/
structure PlF (K : PySem.W.Frag) (mg : Str → Option Value) where
  C : Addr
  nm : nmR K "Play" C
  mg : mg "Play" = some (.ref C)
  kp : PySem.W.keepIn K (.ref C) = true
  mks : PySem.W.makesIn K C = true
  cls : Cls K C
  na_game : NoAttr K C "game"
  na_thing : NoAttr K C "thing"
  na_put : NoAttr K C "put"
  na_floor : NoAttr K C "floor"
  ty : PySem.W.typeIn K (.ref C) = some (.type "type")
  isS : PySem.W.isClsIn K C = true
  cl : PySem.W.findIn K (.ref C) "__class__" = some (some (.builtin "object.__class__"))
  gs : PySem.W.specialIn K (.builtin "object.__class__") "__get__" = some (some (.builtin "getset_descriptor.__get__"))
  tk : PySem.W.takesIn K (.builtin "object.__class__") = some true
  ob : PySem.W.mroIn K C (.type "object") = some true
theorem PlF.make {K : PySem.W.Frag} {mg : Str → Option Value} (p : PlF K mg) {qual : Str} {st : Stmt} {ps : List Str} {f : Addr} {fd : FuncData} (m : Mf K p.C "__init__" qual st ps f fd) : Mk K p.C f := ⟨p.mks, m.me.at_, m.me.fn, p.kp⟩
end MM

/-! ML35: an own class's ==, len, str, isinstance; a new instance locked for good. -/
namespace MM
open PySem PySem.Spec PyProof.Rows L2

section
variable {X : Cx} {c : Mc} {pos apos : Pos}
/-- what is wanted of an exception: none comes -/
abbrev noE : XK := fun _ _ _ => False
theorem pass_no (σ : L2.St) : PassesAt (L2.CX X.prog X.w) X σ noE := fun _ _ _ _ _ _ x => by
  obtain ⟨_, _, _, _, _, _, _, _, _, _, _, _, z⟩ := x
  exact z.elim
theorem run_fnA {k : Nat} {f : Addr} {fd : FuncData} {ps : List Str} {sp : Sp} {A : Around} {pins : List (Addr × Obj)} {σ : L2.St} {H : Hp} {s : Shared} {Q : VK} {us : List Value} {vs : List V} (G : FnOk X.prog X.w X.K X.mg X.base (L2.CX X.prog X.w) k f fd ps sp) (room : Room k A) (fr : A.frames = X.A.frames)
    (hb : Binds X.K fd ps []) (I : Inv X pins σ H s) (r : Vals vs us) (h : sp vs H Q noE) : wpAny (model X.prog X.w) A (call (.ref f) us) (EP X pins σ Q) X.xe s := by
  have many : us.length = ps.length := by rw [← r.length]; exact G.len _ _ _ _ h
  have bnd := hb s us I.kIn (by rw [List.append_nil]; exact many)
  rw [List.append_nil] at bnd
  have e := I.env0
  have e0 : Env0 X.prog X.w X.K X.mg X.base A X.stack s H := ⟨by rw [fr]; exact e.frames, e.mod, e.bs, e.bsz, e.funs, e.frf, e.hok, e.bare⟩
  refine wpAny_call (codeAny_mono (G.run A X.stack s H ⟨us, []⟩ us vs Q noE room e0 bnd r h) fun res s2 hq => ?_)
  match res, hq with
  | .error e2, hq => exact pass_no σ pins H s e2 s2 I hq
  | .ok (.ret u), hq => exact I.after hq
  | .ok .next, hq => exact hq.elim
  | .ok .brk, hq => exact hq.elim
  | .ok .cont, hq => exact hq.elim
/-- a call that lets no error out -/
def callN (F : List Sl → FOut) (os : List Opd) : M Opd := fun ε => match callOs F os ε with
  | .exc _ _ => .stuck
  | r => r
theorem call_osN {K : PySem.W.Frag} {mg : Str → Option Value} {np : Nat} {F : List Sl → FOut} {ε0 ε1 : En} {σ : L2.St} {Hs H1 : Hp} {Q : VK} {os : List Opd} {vs : List V} (hnp : os.length = np) (S1 : SR K c ε1 σ H1) (r1 : ROs K c ε1 σ H1 os vs) (n1 : NewO Hs H1 os vs) (t1 : Step ε0 σ Hs ε1 σ H1)
    (h : PostE K c (callN F os ε1) ε0 σ Hs Q) : spF K mg np F vs H1 Q noE := by
  unfold callN at h
  have w : PostE K c.nox (callOs F os ε1) ε0 σ Hs Q := by
    cases e : callOs F os ε1 with
    | stuck => rw [e] at h; exact h
    | exc C ε' => rw [e] at h; exact h.elim
    | ok o ε' =>
      rw [e] at h
      exact fun v H' t S r n => h v H' t S.ofNox (by cases o <;> exact r) n
  obtain ⟨as, a1, a2, a3⟩ := call_os (mg := mg) hnp S1.nox (Paired.mapP r1 fun o v r => by cases o <;> exact r) n1 t1 w
  refine ⟨as, a1, a2, ?_⟩
  cases e : F as with
  | stuck => rw [e] at a3; exact a3
  | ok d as' => rw [e] at a3; exact a3
  | nw ob as' => rw [e] at a3; exact a3
  | exc C as' =>
    rw [e] at a3
    intro cls H' hc A
    obtain ⟨_, _, _, _, _, z⟩ := a3 cls H' hc A
    exact z
def isStrD : PD → Bool
  | .str _ => true
  | _ => false
/-- == of two values, the left one an instance -/
def gEqI (x : Str) (F : List Sl → FOut) : Opd → Opd → M Opd := fun o1 o2 ε => match o1, o2 with
  | .val d1, .val d2 => (match insX x ε (.val d1) with
    | some _ => if (insX x ε (.val d2)).isSome || isStrD d2 then callN F [.val d1, .val d2] ε else .stuck
    | none => .stuck)
  | _, _ => .stuck
theorem o_eqI {k : Nat} {f : Addr} {fd : FuncData} {F : List Sl → FOut} (p : PlF X.K X.mg) (m : Meth X.K p.C "__eq__" f) (G : FnOk X.prog X.w X.K X.mg X.base (L2.CX X.prog X.w) k f fd ["self", "other"] (spF X.K X.mg 2 F)) (hb : Binds X.K fd ["self", "other"] []) (room : Room k X.A) :
    OpR X (compareOp .Eq) (rM X.K c (gEqI "Play" F)) := by
  intro pins s σ0 H x y u v Q I rx ry ⟨ε, σ, o1, o2, S, r1, r2, w⟩
  unfold gEqI at w
  cases o1 with
  | own k => exact w.elim
  | new ob => exact w.elim
  | val d1 =>
    cases o2 with
    | own k => exact w.elim
    | new ob => exact w.elim
    | val d2 =>
      simp only at w
      cases e1 : insX "Play" ε (.val d1) with
      | none => rw [e1] at w; exact w.elim
      | some fs =>
        rw [e1] at w
        simp only at w
        split at w
        · rename_i hd
          obtain ⟨a, C, dx, vs, rfl, ha, nC, _, _⟩ := insX_at S r1 e1
          cases nmR_eq nC p.nm
          cases rx
          obtain ⟨mA, O, _⟩ := insAt_get I ha
          obtain ⟨od, J, _⟩ := O.look
          obtain ⟨fm, hF⟩ := I.fr
          have right : ∃ tb, PySem.W.Looks (model X.prog X.w) s.heap (typeOf v) tb ∧ PySem.W.notFirst X.K p.C tb = true := by
            rw [Bool.or_eq_true] at hd
            rcases hd with hd | hd
            · obtain ⟨gs, e2⟩ := Option.isSome_iff_exists.mp hd
              obtain ⟨b, D, dy, ws, rfl, hb2, nD, _, _⟩ := insX_at S r2 e2
              cases nmR_eq nD p.nm
              cases ry
              obtain ⟨mB, O2, _⟩ := insAt_get I hb2
              obtain ⟨od2, J2, _⟩ := O2.look
              exact ⟨_, J2.type, by unfold PySem.W.notFirst; rw [beq_self_eq_true]; rfl⟩
            · cases d2 with
              | str z =>
                cases r2
                obtain ⟨t, e⟩ := ry
                subst e
                refine ⟨.type "str", PySem.W.Looks.of_pure rfl, ?_⟩
                unfold PySem.W.notFirst
                have : PySem.W.subIn X.K (.type "str") (.ref p.C) = some false := by
                  show (PySem.fastBuiltinMro "str").map (·.contains (Value.ref p.C)) = some false
                  kernel_rfl
                rw [this]
                simp
              | _ => cases hd
          obtain ⟨tb, lk, nf⟩ := right
          refine PySem.W.cmp_K (op := .Eq) (tb := tb) room.units0 hF I.ok.mod.kin J lk nf m.at_ m.fn ?_
          have sp := call_osN (mg := X.mg) (np := 2) (Hs := H) (ε0 := ε) rfl S (.cons r1 (.cons r2 .nil)) ⟨fun b f => f.elim, fun b f => f.elim, trivial⟩ .refl w
          refine wpAny_mono (run_fnA (vs := [.ref a, y]) (us := [.ref a, v]) G room rfl hb I (.cons rfl (.cons ry .nil)) sp) (fun r s' q => ?_) fun _ _ z => z
          obtain ⟨z, H', I', rz, q'⟩ := q
          have fin : EP X pins σ0 Q r s' := ⟨z, H', I', rz, q'⟩
          cases r with
          | notImplemented => cases z <;> first | (obtain ⟨_, e⟩ := rz; cases e) | cases rz
          | _ => exact fin
        · exact w.elim
/-- isinstance(x, Play) -/
def mIsP (x : Str) (m : M Opd) : M Opd := fun ε => (m ε).bind fun o ε1 => match insX x ε1 o with
  | some _ => .ok (.val (.bool true)) ε1
  | none => match (rdO ε1 o).bind tyN with
    | some _ => .ok (.val (.bool false)) ε1
    | none => .stuck
theorem kit_not {K : PySem.W.Frag} {C : Addr} (ty : PySem.W.typeIn K (.ref C) = some (.type "type")) (isS : PySem.W.isClsIn K C = true) {d : PD} {n : String} (e : tyN d = some n) : PySem.W.kitOne K (.type n) (.ref C) = some false := by
  unfold PySem.W.kitOne
  rw [if_neg (by simp)]
  show (if ((PySem.W.clsIn K C).isSome && PySem.W.typeIn K (.ref C) == some (.type "type")) = true then PySem.W.subIn K (.type n) (.ref C) else none) = _
  rw [if_pos (by rw [show (PySem.W.clsIn K C).isSome = true from isS, ty]; rfl)]
  show (PySem.fastBuiltinMro n).map (·.contains (Value.ref C)) = some false
  cases d <;> cases e <;> kernel_rfl
theorem call_isP (p : PlF X.K X.mg) : CallR X (.builtin "isinstance") (fun xs H Q => ∃ (x : V) (b : Bool), xs = [x, .ref p.C] ∧ ((∃ a dx vs, x = .ref a ∧ InsAt H a p.C dx vs ∧ b = true) ∨ (∃ d n, Rd1 X.K H x d ∧ tyN d = some n ∧ b = false)) ∧ Q (.bl b) H) := by
  intro pins s σ H xs us Q I r h
  obtain ⟨x, b, rfl, k, q⟩ := h
  obtain ⟨u1, u2, rfl, r1, r2⟩ := vals2 r
  cases r2
  rcases k with ⟨a, dx, vs, rfl, ha, rfl⟩ | ⟨d, n, rd, e, rfl⟩
  · cases r1
    obtain ⟨mA, O, _⟩ := insAt_get I ha
    obtain ⟨od, J, _⟩ := O.look
    exact PySem.W.kia_one (PySem.W.kitx_own (p.cls.get _) p.cls.hd p.cl p.gs p.tk p.ob) I.kIn J (by unfold PySem.W.kitOne; rw [if_pos (beq_self_eq_true _)]) (fun z => nomatch z) fun tk => ⟨.bl true, H, I.tok tk, rfl, q⟩
  · obtain ⟨P, Z, pz, hx⟩ := kit_of I r1 (rd_ty rd e)
    exact PySem.W.kia_one Z I.kIn pz (kit_not p.ty p.isS e) hx fun tk => ⟨.bl false, H, I.tok tk, rfl, q⟩
end
end MM

/-! ML36: isinstance(x, Play), len, str of an instance; a new instance locked; texts of numbers, joined. -/
namespace MM
open PySem PySem.Spec PyProof.Rows L2

section
variable {X : Cx} {c : Mc} {pos p p2 apos : Pos}
theorem je_isP {a : Expr} {ma : M Opd} (P : PlF X.K X.mg) (hm : X.mg "isinstance" = none) (ha : JE X c a ma) (hg : Gl X "isinstance" := by rfl) (hg2 : Gl X "Play" := by rfl)
    (h1 : starEach [a, .Name "Play" p2] X.env = (false, eval a X.env) :: starEach [.Name "Play" p2] X.env := by rfl) (h2 : starEach [.Name "Play" p2] X.env = (false, eval (.Name "Play" p2) X.env) :: starEach [] X.env := by rfl)
    (hpl : (backTo pos (starEach [.Name "Play" p2] X.env)).any (·.1) = false := by rfl) : JE X c (.Call (.Name "isinstance" p) [a, .Name "Play" p2] [] pos) (mIsP "Play" ma) := by
  refine pe_imp (pe_callB (call_isP P) hg hm boot_isinstance (pa_cons ha (pa_cons (pe_glob hg2 P.mg (v := .ref P.C) rfl (by decide)) pa_nil h2) h1) (by decide) (by decide) h1 hpl) fun σ H Q ⟨ε, S, w⟩ => ?_
  refine (show ∀ {P}, tM X.K c ma σ H P → _ from fun {P} z => z) ?_
  unfold mIsP at w
  refine ⟨ε, S, ?_⟩
  cases e1 : ma ε with
  | stuck => rw [e1] at w; exact w
  | exc C ε' => rw [e1] at w; exact w
  | ok o ε1 =>
    rw [e1, Out.bind_ok] at w
    intro v H1 t1 S1 r1 n1
    cases e2 : insX "Play" ε1 o with
    | some fs =>
      rw [e2] at w
      obtain ⟨b, C, dx, vs, rfl, hb, nC, _, _⟩ := insX_at S1 r1 e2
      cases nmR_eq nC P.nm
      exact ⟨.ref b, true, rfl, .inl ⟨b, dx, vs, rfl, hb, rfl⟩, w _ H1 t1 S1 (.bl true) trivial⟩
    | none =>
      rw [e2] at w
      simp only at w
      cases e3 : rdO ε1 o with
      | none => rw [e3] at w; exact w.elim
      | some d =>
        rw [e3] at w
        simp only [Option.bind_some] at w
        cases e4 : tyN d with
        | none => rw [e4] at w; exact w.elim
        | some n =>
          rw [e4] at w
          exact ⟨v, false, rfl, .inr ⟨d, n, r1.rd S1 e3, e4, rfl⟩, w _ H1 t1 S1 (.bl false) trivial⟩

/-! ### len, str -/
def notNew : Opd → Bool
  | .new _ => false
  | _ => true
def gLenI (x : Str) (F : List Sl → FOut) : List Opd → M Opd := fun os ε => match os with
  | [o] => if notNew o && (insX x ε o).isSome then ((callN F [o] ε).bind fun r ε2 => match r with
      | .val (.int n) => if 0 ≤ n ∧ n < 1000000 then .ok (.val (.int n)) ε2 else .stuck
      | _ => .stuck) else .stuck
  | _ => .stuck
def gStrI (x : Str) (F : List Sl → FOut) : List Opd → M Opd := fun os ε => match os with
  | [o] => if notNew o && (insX x ε o).isSome then ((callN F [o] ε).bind fun r ε2 => match r with
      | .val (.str n) => .ok (.val (.str n)) ε2
      | _ => .stuck) else .stuck
  | _ => .stuck
theorem newO_one {H : Hp} {o : Opd} {v : V} (h : notNew o = true) : NewO H H [o] [v] := by
  cases o with
  | new ob => cases h
  | val d => exact ⟨fun b f => f.elim, trivial⟩
  | own k => exact ⟨fun b f => f.elim, trivial⟩
theorem post_bind {K : PySem.W.Frag} {c : Mc} {r : Out Opd} {g : Opd → M Opd} {ε0 : En} {σ : L2.St} {H : Hp} {Q Q' : VK} (h : PostE K c (r.bind g) ε0 σ H Q) (k : ∀ o ε1 v H1, Step ε0 σ H ε1 σ H1 → SR K c ε1 σ H1 → RO K c ε1 σ H1 o v → NewIn H H1 o v → PostE K c (g o ε1) ε0 σ H Q → Q' v H1) : PostE K c r ε0 σ H Q' := by
  cases r with
  | stuck => exact h
  | exc C ε' => exact h
  | ok o ε1 => exact fun v H1 t S r n => k o ε1 v H1 t S r n h
theorem c_lenI {k : Nat} {f : Addr} {fd : FuncData} {F : List Sl → FOut} (P : PlF X.K X.mg) (m : Meth X.K P.C "__len__" f) (G : FnOk X.prog X.w X.K X.mg X.base (L2.CX X.prog X.w) k f fd ["self"] (spF X.K X.mg 1 F)) (hb : Binds X.K fd ["self"] []) (room : Room (k + 1) X.A) :
    CallR X (.builtin "len") (cM X.K c (gLenI "Play" F)) := by
  intro pins s σ0 H xs us Q I rx ⟨ε, σ, os, S, ro, w⟩
  unfold gLenI at w
  cases ro with
  | nil => exact w.elim
  | cons r1 rt =>
    cases rt with
    | cons _ _ => exact w.elim
    | nil =>
      rename_i o x
      simp only at w
      split at w
      · rename_i ho
        rw [Bool.and_eq_true] at ho
        obtain ⟨fs, e1⟩ := Option.isSome_iff_exists.mp ho.2
        obtain ⟨a, C, dx, vs, rfl, ha, nC, _, _⟩ := insX_at S r1 e1
        cases nmR_eq nC P.nm
        cases rx with
        | cons ra rr =>
          cases rr
          cases ra
          obtain ⟨mA, O, _⟩ := insAt_get I ha
          obtain ⟨od, J, _⟩ := O.look
          obtain ⟨fm, hF⟩ := I.fr
          have sp := call_osN (mg := X.mg) (np := 1) (Hs := H) (ε0 := ε) (Q := fun v H' => ∃ n : Int, v = .int n ∧ 0 ≤ n ∧ n < 1000000 ∧ Q (.int n) H') rfl S (.cons r1 .nil) (newO_one ho.1) .refl
            (post_bind w fun o2 ε1 v H1 t1 S1 r2 n2 w2 => by
              split at w2
              · split at w2
                · rename_i hn
                  cases r2
                  exact ⟨_, rfl, hn.1, hn.2, w2 _ H1 t1 S1 (.int _) trivial⟩
                · exact w2.elim
              · exact w2.elim)
          refine PySem.W.len_K hF I.ok.mod.kin J m.at_ m.fn (wpAny_mono (run_fnA (A := X.A.in1) (vs := [.ref a]) (us := [.ref a]) G room.in1 rfl hb I (.cons rfl .nil) sp) (fun r s' q => ?_) fun _ _ z => z)
          obtain ⟨z, H', I', rz, n, ez, h0, h1, q'⟩ := q
          subst ez
          obtain ⟨t, e⟩ := rz
          subst e
          exact ⟨⟨h0, by omega⟩, .int n, H', I'.tok _, ⟨_, rfl⟩, q'⟩
      · exact w.elim
theorem c_strI {k : Nat} {f : Addr} {fd : FuncData} {F : List Sl → FOut} (P : PlF X.K X.mg) (m : Meth X.K P.C "__str__" f) (G : FnOk X.prog X.w X.K X.mg X.base (L2.CX X.prog X.w) k f fd ["self"] (spF X.K X.mg 1 F)) (hb : Binds X.K fd ["self"] []) (room : Room (k + 2) X.A) :
    CallR X (.type "str") (cM X.K c (gStrI "Play" F)) := by
  intro pins s σ0 H xs us Q I rx ⟨ε, σ, os, S, ro, w⟩
  unfold gStrI at w
  cases ro with
  | nil => exact w.elim
  | cons r1 rt =>
    cases rt with
    | cons _ _ => exact w.elim
    | nil =>
      rename_i o x
      simp only at w
      split at w
      · rename_i ho
        rw [Bool.and_eq_true] at ho
        obtain ⟨fs, e1⟩ := Option.isSome_iff_exists.mp ho.2
        obtain ⟨a, C, dx, vs, rfl, ha, nC, _, _⟩ := insX_at S r1 e1
        cases nmR_eq nC P.nm
        cases rx with
        | cons ra rr =>
          cases rr
          cases ra
          obtain ⟨mA, O, _⟩ := insAt_get I ha
          obtain ⟨od, J, _⟩ := O.look
          have sp := call_osN (mg := X.mg) (np := 1) (Hs := H) (ε0 := ε) (Q := fun v H' => ∃ n : Str, v = .str n ∧ Q (.str n) H') rfl S (.cons r1 .nil) (newO_one ho.1) .refl
            (post_bind w fun o2 ε1 v H1 t1 S1 r2 n2 w2 => by
              split at w2
              · cases r2
                exact ⟨_, rfl, w2 _ H1 t1 S1 (.str _) trivial⟩
              · exact w2.elim)
          refine PySem.W.kso_call (by have := room.in1.in1.un; omega) I.kIn J m.at_ m.fn (wpAny_mono (run_fnA (A := X.A.in1.in1) (vs := [.ref a]) (us := [.ref a]) G room.in1.in1 rfl hb I (.cons rfl .nil) sp) (fun r s' q => ?_) fun _ _ z => z)
          obtain ⟨z, H', I', rz, n, ez, q'⟩ := q
          subst ez
          obtain ⟨t, e⟩ := rz
          subst e
          exact ⟨.str n, H', I', ⟨_, rfl⟩, q'⟩
      · exact w.elim

/-! ### a new instance, locked for good -/
def mSinkI (m : M Opd) : M Opd := fun ε => (m ε).bind fun o ε1 => match o with
  | .new (.ins x fs) => .ok (.val (objD x (fs.map fun p => (p.1, p.2.pd)))) ε1
  | _ => .stuck
theorem je_sinkI {e : Expr} {m : M Opd} (h : JE X c e m) : JE X c e (mSinkI m) := by
  refine ⟨fun pins s σ H Q I ⟨ε, S, w⟩ => ?_⟩
  unfold mSinkI at w
  refine thn (h.run pins s σ H (fun v H1 => ∃ x fs ε1, Step ε σ H ε1 σ H1 ∧ SR X.K c ε1 σ H1 ∧ RO X.K c ε1 σ H1 (.new (.ins x fs)) v ∧ NewIn H H1 (.new (.ins x fs)) v ∧ PostE X.K c (.ok (.val (objD x (fs.map fun p => (p.1, p.2.pd)))) ε1) ε σ H Q) I ⟨ε, S, ?_⟩)
    fun u s1 ⟨v, H1, I1, rv, x, fs, ε1, t1, S1, r1, n1, p⟩ => ?_
  · cases e1 : m ε with
    | stuck => rw [e1] at w; exact w
    | exc C ε' => rw [e1] at w; exact w
    | ok o ε1 =>
      rw [e1, Out.bind_ok] at w
      intro v H1 t1 S1 r1 n1
      cases o with
      | val d => exact w.elim
      | own k => exact w.elim
      | new ob =>
        cases ob with
        | ins x fs => exact ⟨x, fs, ε1, t1, S1, r1, n1, w⟩
        | _ => exact w.elim
  · obtain ⟨Z, hZ⟩ : ∃ Z : Addr → Prop, Z = Ft H1 (.ins x fs) v := ⟨_, rfl⟩
    have trk : ∀ b, Z b → ∃ u, H1 b = some u ∧ Fz u = false ∧ Mut (some u) := fun b z => by rw [hZ] at z; exact r1.1.trk z
    have I2 := inv_lk I1 (fun b z => let ⟨u, a, _, b⟩ := trk b z; ⟨u, a, b⟩)
    have zn : ∀ b, Z b → c.H0 b = none ∧ ¬ Own ε1 σ H1 b := fun b z => by rw [hZ] at z; exact r1.2 b z
    obtain ⟨S2, w2⟩ := S1.keepW (H' := lkH Z s1.heap H1) (fun b u q z => by
      by_cases hz : Z b
      · obtain ⟨u', hu, fz, _⟩ := trk b hz
        rw [q] at hu; cases hu
        rcases z with z | z | z
        · exact absurd (zn b hz).1 z
        · rw [fz] at z; cases z
        · exact absurd z (zn b hz).2
      · rw [lkH_out hz]; exact q) fun b u q => by
      by_cases hz : Z b
      · obtain ⟨o, g⟩ := inv_get I1 q
        rw [lkH_in hz q g]; exact fun z => nomatch z
      · rw [lkH_out hz, q]; exact fun z => nomatch z
    have im : Im H1 (lkH Z s1.heap H1) := fun b o q z => by
      rw [lkH_out fun hz => by
        obtain ⟨u', hu, fz, _⟩ := trk b hz
        rw [q] at hu; cases hu; rw [fz] at z; cases z]
      exact q
    obtain ⟨a, C, dx, vs, ev, ha, nm, _, fr⟩ := r1.1
    have za : Z a := by rw [hZ, ev]; exact ⟨a, C, dx, vs, rfl, ha, .inl rfl⟩
    obtain ⟨o, g⟩ := inv_get I1 ha
    have rp : Rp X.K (lkH Z s1.heap H1) v (objD x (fs.map fun p => (p.1, p.2.pd))) := by
      rw [ev]
      refine .ins (lkH_in za ha g) nm (fr.lk im fun b xs hb hl => ?_)
      obtain ⟨o', g'⟩ := inv_get I1 hl
      exact ⟨o', lkH_in (by rw [hZ, ev]; exact ⟨a, C, dx, vs, rfl, ha, .inr hb⟩) hl g'⟩
    refine ⟨v, _, I2, rv, p v _ ⟨fun b o q n => ?_, fun b q => t1.ow b (w2 b q), fun b o q => ?_⟩ S2 rp trivial⟩
    · rw [lkH_out fun hz => by
        have := n1 b (by rw [hZ] at hz; exact hz)
        rw [q] at this; cases this]
      exact t1.kp b o q n
    · cases q2 : H1 b with
      | none => exact absurd q2 (t1.tr b o q)
      | some u =>
        by_cases hz : Z b
        · obtain ⟨o', g'⟩ := inv_get I1 q2
          rw [lkH_in hz q2 g']; exact fun z => nomatch z
        · rw [lkH_out hz, q2]; exact fun z => nomatch z

/-! ### texts -/
def fStrI : List PD → Option Opd
  | [.int n] => if n.natAbs < 1000000 then some (.val (.str (toString n))) else none
  | _ => none
theorem c_strInt : CallR X (.type "str") (cM X.K c (liftN fStrI)) := by
  refine liftN_call call_str_int fun xs ds o H Q L r e => ?_
  unfold fStrI at e
  split at e
  · split at e
    · rename_i n hn
      cases e
      cases r with
      | cons r1 rt =>
        cases rt
        cases r1.int
        refine ⟨noVal, fun p => ⟨_, rfl, ?_, p.scal (.str _)⟩⟩
        rcases Nat.eq_zero_or_pos n.natAbs with z | z
        · rw [z]; decide
        · exact (Nat.log2_lt (by omega)).mpr (Nat.lt_of_lt_of_le hn (by calc 1000000 ≤ 2 ^ 20 := by decide
                                                                          _ ≤ 2 ^ 1920 := Nat.pow_le_pow_right (by decide) (by decide)))
    · cases e
  · cases e
def strsD : List PD → Option (List Str)
  | [] => some []
  | .str x :: ds => (strsD ds).map (x :: ·)
  | _ => none
theorem strsD_ok {K : PySem.W.Frag} {H : Hp} : ∀ {vs : List V} {ds : List PD} {ys : List Str}, RpA K H vs ds → strsD ds = some ys → vs = ys.map V.str
  | _, _, ys, .nil, e => by cases e; rfl
  | v :: vs, d :: ds, ys, .cons r t, e => by
    cases d with
    | str x =>
      simp only [strsD] at e
      cases q : strsD ds with
      | none => rw [q] at e; cases e
      | some zs =>
        rw [q] at e
        cases e
        cases r
        rw [strsD_ok t q]; rfl
    | _ => cases e
def mJoin (a : Str) (m : M Opd) : M Opd := fun ε => (m ε).bind fun o ε1 => match rdO ε1 o with
  | some (.list ds) => match strsD ds with
    | some ys => if (ys.map (·.length)).sum + ys.length * a.length ≤ 16777216 then .ok (.val (.str (Txt.join a ys))) ε1 else .stuck
    | none => .stuck
  | _ => .stuck
theorem je_join {a : Str} {j : Nat} {e : Expr} {m : M Opd} (he : JE X c e m) (hs : starEach [e] X.env = [(false, eval e X.env)] := by rfl) (hbase : attributeBase (.Constant (.str a) j p) "join" X.env (eval (.Constant (.str a) j p) X.env) = eval (.Constant (.str a) j p) X.env := by rfl)
    (hline : (apos.endLine == pos.line) = true := by rfl) : JE X c (.Call (.Attribute (.Constant (.str a) j p) "join" apos) [e] [] pos) (mJoin a m) :=
  pe_imp (pe_join pe_str he hs hbase hline) fun σ H Q ⟨ε, S, w⟩ => by
    unfold mJoin at w
    refine ⟨⟨a, rfl⟩, ε, S, ?_⟩
    cases e1 : m ε with
    | stuck => rw [e1] at w; exact w
    | exc C ε' => rw [e1] at w; exact w
    | ok o ε1 =>
      rw [e1, Out.bind_ok] at w
      intro v H1 t1 S1 r1 n1
      cases e2 : rdO ε1 o with
      | none => rw [e2] at w; exact w.elim
      | some d =>
        rw [e2] at w
        cases d with
        | list ds =>
          simp only at w
          cases e3 : strsD ds with
          | none => rw [e3] at w; exact w.elim
          | some ys =>
            rw [e3] at w
            simp only at w
            split at w
            · rename_i hb
              obtain ⟨b, xs, rfl, hx, rx⟩ := (r1.rd S1 e2).lst
              have := strsD_ok rx e3
              subst this
              exact ⟨a, b, ys, rfl, rfl, .inl (rd_sqL hx), hb, w _ H1 t1 S1 (.str _) trivial⟩
            · exact w.elim
        | _ => exact w.elim
end
end MM

/-! ML37: a name's own list of own lists: appended to, its lists appended to, locked for good when it is handed over. -/
namespace MM
open PySem PySem.Spec PyProof.Rows L2
/-- the own list of own lists of a slot -/
def ownLL (ε : En) (i : Nat) : Option (List (List PD)) := match ε[i]? with
  | some (.ow (.ll dss)) => some dss
  | some (.ow (.l [])) => some []
  | _ => none
section
variable {K : PySem.W.Frag} {c : Mc} {ε : En} {σ : L2.St} {H H' : Hp} {i : Nat} {dss : List (List PD)}
theorem LlR.len : ∀ {bs : List Addr} {dss : List (List PD)}, LlR K H bs dss → bs.length = dss.length
  | [], [], _ => rfl
  | _ :: _, _ :: _, h => by rw [List.length_cons, List.length_cons, LlR.len h.2]
  | [], _ :: _, h => h.elim
  | _ :: _, [], h => h.elim
theorem LlR.snoc {b : Addr} {ds : List PD} (r : ∃ xs, H b = some (.lst xs) ∧ RpA K H xs ds) : ∀ {bs : List Addr} {dss : List (List PD)}, LlR K H bs dss → LlR K H (bs ++ [b]) (dss ++ [ds])
  | [], [], _ => ⟨r, trivial⟩
  | _ :: _, _ :: _, h => ⟨h.1, LlR.snoc r h.2⟩
  | [], _ :: _, h => h.elim
  | _ :: _, [], h => h.elim
theorem LlR.at' : ∀ {bs : List Addr} {dss : List (List PD)} {j : Nat} {ds : List PD}, LlR K H bs dss → dss[j]? = some ds → ∃ b xs, bs[j]? = some b ∧ H b = some (.lst xs) ∧ RpA K H xs ds
  | [], [], _, _, _, e => by cases e
  | b :: bs, d :: dss, 0, ds, h, e => by
    cases e
    obtain ⟨xs, h1, h2⟩ := h.1
    exact ⟨b, xs, rfl, h1, h2⟩
  | b :: bs, d :: dss, j + 1, ds, h, e => by
    obtain ⟨b', xs, h1, h2, h3⟩ := LlR.at' (j := j) h.2 e
    exact ⟨b', xs, h1, h2, h3⟩
  | [], _ :: _, _, _, h, _ => h.elim
  | _ :: _, [], _, _, h, _ => h.elim
theorem LlR.upd {b : Addr} {xs ys : List V} {es : List PD} (hb : H b = some (.lst xs)) (r : RpA K H ys es) : ∀ {bs : List Addr} {dss : List (List PD)} {j : Nat}, bs.Nodup → LlR K H bs dss → bs[j]? = some b → LlR K (L2.upd H b (.lst ys)) bs (dss.set j es)
  | [], [], _, _, _, e => by cases e
  | b0 :: bs, d :: dss, j, nd, h, e => by
    have im : Im H (L2.upd H b (.lst ys)) := fun a o q z => by rw [upd_ne (fun w => by subst w; rw [hb] at q; cases q; cases z)]; exact q
    cases j with
    | zero =>
      cases e
      refine ⟨⟨ys, upd_same, RpA.im im _ _ r⟩, h.2.keep im fun c u m q => by rw [upd_ne (fun w => by subst w; exact (List.nodup_cons.mp nd).1 m)]; exact q⟩
    | succ j =>
      obtain ⟨zs, h1, h2⟩ := h.1
      have ne : b0 ≠ b := fun w => by
        subst w
        exact (List.nodup_cons.mp nd).1 (List.mem_of_getElem? (show bs[j]? = some b0 from e))
      exact ⟨⟨zs, by rw [upd_ne ne]; exact h1, RpA.im im _ _ h2⟩, LlR.upd hb r (List.nodup_cons.mp nd).2 h.2 e⟩
  | [], _ :: _, _, _, h, _ => h.elim
  | _ :: _, [], _, _, h, _ => h.elim
theorem SR.atLL (S : SR K c ε σ H) (e : ownLL ε i = some dss) : ∃ (sl : Sl) (a : Addr) (bs : List Addr), ε[i]? = some sl ∧ (∃ ob, sl = .ow ob) ∧ σ[i]? = some (some (.ref a)) ∧ H a = some (.lst (bs.map V.ref)) ∧ (a :: bs).Nodup ∧ LlR K H bs dss ∧ ∀ b, SlF H sl (some (.ref a)) b ↔ b = a ∨ b ∈ bs := by
  unfold ownLL at e
  split at e
  · rename_i d h
    cases e
    obtain ⟨v, h1, ⟨a, bs, rfl, ha, nd, lr⟩, _⟩ := S.atO (.inl h)
    refine ⟨_, a, bs, h, ⟨_, rfl⟩, h1, ha, nd, lr, fun b => ⟨fun ⟨a', bs', e1, e2, q⟩ => ?_, fun q => ⟨a, bs, rfl, ha, q⟩⟩⟩
    cases e1
    rw [ha] at e2
    have e3 : bs.map V.ref = bs'.map V.ref := by injection e2 with e2; injection e2
    have e4 : bs = bs' := (List.map_inj_right (fun x y h => by cases h; rfl)).mp e3
    rw [e4]; exact q
  · rename_i h
    cases e
    obtain ⟨v, h1, ⟨a, xs, rfl, ha, ra⟩, _⟩ := S.atO (.inl h)
    cases ra
    exact ⟨_, a, [], h, ⟨_, rfl⟩, h1, ha, by simp, trivial, fun b => ⟨fun q => by cases q; exact .inl rfl, fun q => by
      rcases q with q | q
      · subst q; rfl
      · cases q⟩⟩
  · cases e
theorem SR.setLL {sl : Sl} {a : Addr} {bs bs' : List Addr} {dss' : List (List PD)} (S : SR K c ε σ H) (h : ε[i]? = some sl) (hob : ∃ ob, sl = .ow ob) (h1 : σ[i]? = some (some (.ref a))) (hf : ∀ b, SlF H sl (some (.ref a)) b ↔ b = a ∨ b ∈ bs)
    (hk : ∀ b u, H b = some u → b ≠ a → b ∉ bs → H' b = some u) (ht : ∀ b u, H b = some u → H' b ≠ none) (ha' : H' a = some (.lst (bs'.map V.ref))) (nd : (a :: bs').Nodup) (lr : LlR K H' bs' dss')
    (fn : ∀ b, b ∈ bs' → b ∈ bs ∨ (c.H0 b = none ∧ ¬ Own ε σ H b)) :
    SR K c (ε.set i (.ow (.ll dss'))) σ H' ∧ (∀ b o, H b = some o → ¬ Own ε σ H b → H' b = some o) ∧ ∀ b, Own (ε.set i (.ow (.ll dss'))) σ H' b → Own ε σ H b ∨ b ∈ bs' := by
  obtain ⟨ob, hob⟩ := hob
  have inj : ∀ {l m : List Addr}, l.map V.ref = m.map V.ref → l = m := fun {l m} e3 => (List.map_inj_right (fun x y h => by cases h; rfl)).mp e3
  have ft' : ∀ b, SlF H' (.ow (.ll dss')) (some (.ref a)) b ↔ b = a ∨ b ∈ bs' := fun b => ⟨fun ⟨a', bs'', e1, e2, q⟩ => by
    cases e1
    rw [ha'] at e2
    have e3 : bs'.map V.ref = bs''.map V.ref := by injection e2 with e2; injection e2
    rw [inj e3]; exact q, fun q => ⟨a, bs', rfl, ha', q⟩⟩
  obtain ⟨S', k', w'⟩ := S.chgG (H' := H') (sl' := .ow (.ll dss')) h h1 (fun b u q n => hk b u q (fun e => n ((hf b).mpr (.inl e))) fun e => n ((hf b).mpr (.inr e))) ht (show ObR K H' (.ll dss') (.ref a) from ⟨a, bs', rfl, ha', nd, lr⟩)
    (fun b q => by
      rcases (ft' b).mp q with e | e
      · exact .inl ((hf b).mpr (.inl e))
      · exact (fn b e).imp (fun e => (hf b).mpr (.inr e)) id) fun o w => by rw [hob] at w; cases w
  refine ⟨S', k', fun b w => (w' b w).elim .inl fun q => ?_⟩
  rcases (ft' b).mp q with e | e
  · exact .inl ⟨i, sl, _, h, h1, (hf b).mpr (.inl e)⟩
  · exact .inr e
end
section
variable {X : Cx} {c : Mc} {pos apos p1 : Pos}
/-- xs.append(a new list) -/
def mAppLL (i : Nat) (m : M Opd) : M Opd := fun ε => match ownLL ε i with
  | none => .stuck
  | some _ => (m ε).bind fun o ε1 => match o with
    | .new (.l ds) => match ownLL ε1 i with
      | some dss => if dss.length < big then .ok (.val .none) (ε1.set i (.ow (.ll (dss ++ [ds])))) else .stuck
      | none => .stuck
    | _ => .stuck
theorem je_appLL {i : Nat} {o e : Expr} {m : M Opd} (ho : PE X o (tVar i)) (he : JE X c e m) (hbase : attributeBase o "append" X.env (eval o X.env) = eval o X.env := by rfl)
    (hfew : ((backTo pos (starEach [e] X.env)).all (fun x => !x.1) && (backToKw pos (keywordEach [] X.env)).all (fun x => x.1.isSome) && decide ([e].length + ([] : List Keyword).length + (if ([] : List Keyword).isEmpty then 0 else 1) < 30)) = true := by rfl)
    (hline : (apos.endLine == pos.line) = true := by rfl) (hs : starEach [e] X.env = (false, eval e X.env) :: starEach [] X.env := by rfl) (hplain : (backTo pos (starEach [] X.env)).any (·.1) = false := by rfl) :
    JE X c (.Call (.Attribute o "append" apos) [e] [] pos) (mAppLL i m) :=
  pe_imp (pe_bm PySem.F.plainAttrs_list PySem.F.slot_list_append PySem.F.type_list_append mt_append ho (pa_cons he pa_nil hs) hbase hfew hline hs hplain) fun σ H Q ⟨ε, S, w⟩ => by
    unfold mAppLL at w
    cases e0 : ownLL ε i with
    | none => rw [e0] at w; exact w.elim
    | some dss0 =>
      rw [e0] at w
      simp only at w
      obtain ⟨sl0, a, bs0, _, _, h1, h2, _⟩ := S.atLL e0
      refine ⟨_, h1, .inl ⟨rfl, _, SqL.of h2⟩, ε, S, ?_⟩
      cases em : m ε with
      | stuck => rw [em] at w; exact w
      | exc C ε' => rw [em] at w; exact w
      | ok op ε1 =>
        rw [em, Out.bind_ok] at w
        intro v H1 t1 S1 r n
        cases op with
        | val d => exact w.elim
        | own k => exact w.elim
        | new ob =>
          cases ob with
          | l ds =>
            simp only at w
            cases e2 : ownLL ε1 i with
            | none => rw [e2] at w; exact w.elim
            | some dss =>
              rw [e2] at w
              simp only at w
              by_cases hl : dss.length < big
              · rw [if_pos hl] at w
                obtain ⟨sl, a', bs, g0, gob, g1, ga, gnd, glr, gf⟩ := S1.atLL e2
                have ea : some (some (V.ref a)) = some (some (V.ref a')) := h1.symm.trans g1
                cases ea
                obtain ⟨⟨b, ys, ev, hb, rb⟩, fb⟩ := r
                subst ev
                obtain ⟨b0, bno⟩ := fb b rfl
                have ownB : ∀ z, z = a ∨ z ∈ bs → Own ε1 σ H1 z := fun z q => ⟨i, sl, _, g0, g1, (gf z).mpr q⟩
                have nb : b ∉ bs := fun q => bno (ownB b (.inr q))
                have ne : b ≠ a := fun q => bno (ownB b (.inl q))
                have im : Im H1 (L2.upd H1 a (.lst (bs.map V.ref ++ [V.ref b]))) := fun z o q zz => by rw [upd_ne (fun w => by subst w; rw [ga] at q; cases q; cases zz)]; exact q
                obtain ⟨S2, k2, w2⟩ := S1.setLL (H' := L2.upd H1 a (.lst (bs.map V.ref ++ [V.ref b]))) (bs' := bs ++ [b]) (dss' := dss ++ [ds]) g0 gob g1 gf (fun z u q n1 _ => by rw [upd_ne n1]; exact q) (fun z u q => upd_nn q)
                  (by rw [upd_same, List.map_append]; rfl) (by
                    rw [List.nodup_cons] at gnd ⊢
                    refine ⟨fun q => ?_, List.nodup_append.mpr ⟨gnd.2, by simp, fun x hx y hy => by rw [List.mem_singleton.mp hy]; exact fun z => nb (z ▸ hx)⟩⟩
                    rcases List.mem_append.mp q with q | q
                    · exact gnd.1 q
                    · exact ne (List.mem_singleton.mp q).symm)
                  ((LlR.snoc ⟨ys, hb, rb⟩ glr).keep im fun z u q hz => by
                    rw [upd_ne (fun e => by
                      subst e
                      rcases List.mem_append.mp q with q | q
                      · exact (List.nodup_cons.mp gnd).1 q
                      · exact ne (List.mem_singleton.mp q).symm)]
                    exact hz)
                  (fun z q => by
                    rcases List.mem_append.mp q with q | q
                    · exact .inl q
                    · rw [List.mem_singleton.mp q]; exact .inr ⟨b0, bno⟩)
                refine ⟨a, _, _, rfl, rfl, ga, ?_, w _ _ ⟨fun z o q n2 => k2 z o (t1.kp z o q n2) (fun q2 => (t1.ow z q2).elim n2 fun e => by rw [q] at e; cases e), fun z q => ?_, fun z o q => ?_⟩ S2 .non trivial⟩
                · rw [List.length_map, glr.len]; exact Nat.lt_of_lt_of_le hl (big_line (Nat.le_refl _))
                · rcases w2 z q with e | e
                  · exact t1.ow z e
                  · rcases List.mem_append.mp e with e | e
                    · exact t1.ow z (ownB z (.inr e))
                    · rw [List.mem_singleton.mp e]; exact .inr (n b rfl)
                · cases q2 : H1 z with
                  | none => exact absurd q2 (t1.tr z o q)
                  | some u => exact upd_nn q2
              · rw [if_neg hl] at w; exact w.elim
          | _ => exact w.elim
/-- xs[e].append(y), y a name -/
def mAppAt (i : Nat) (mi : M PD) (j : Nat) : M Opd := fun ε => match ownLL ε i with
  | none => .stuck
  | some _ => (mi ε).bind fun k ε1 => match k, ownLL ε1 i, ε1[j]? with
    | .int k, some dss, some (.p d) => if 0 ≤ k then (match dss[k.toNat]? with
        | some ds => if ds.length < big then .ok (.val .none) (ε1.set i (.ow (.ll (dss.set k.toNat (ds ++ [d]))))) else .stuck
        | none => .stuck) else .stuck
    | _, _, _ => .stuck
theorem atI_nn {α : Type} {l : List α} {k : Int} {x : α} (h0 : 0 ≤ k) (h : l[k.toNat]? = some x) : atI l k = some x := atI_nat h0 h
theorem je_appAt {i j : Nat} {o x e : Expr} {mi : M PD} (ho : PE X o (tVar i)) (hi : JV X c x mi) (he : PE X e (tVar j)) (hp : PlainIx x := by exact fun _ _ => rfl)
    (hbase : attributeBase (.Subscript o x p1) "append" X.env (eval (.Subscript o x p1) X.env) = eval (.Subscript o x p1) X.env := by rfl)
    (hfew : ((backTo pos (starEach [e] X.env)).all (fun x => !x.1) && (backToKw pos (keywordEach [] X.env)).all (fun x => x.1.isSome) && decide ([e].length + ([] : List Keyword).length + (if ([] : List Keyword).isEmpty then 0 else 1) < 30)) = true := by rfl)
    (hline : (apos.endLine == pos.line) = true := by rfl) (hs : starEach [e] X.env = (false, eval e X.env) :: starEach [] X.env := by rfl) (hplain : (backTo pos (starEach [] X.env)).any (·.1) = false := by rfl) :
    JE X c (.Call (.Attribute (.Subscript o x p1) "append" apos) [e] [] pos) (mAppAt i mi j) :=
  pe_imp (pe_bm PySem.F.plainAttrs_list PySem.F.slot_list_append PySem.F.type_list_append mt_append (pe_ix ix_list ho hi hp) (pa_cons he pa_nil hs) hbase hfew hline hs hplain) fun σ H Q ⟨ε, S, w⟩ => by
    unfold mAppAt at w
    cases e0 : ownLL ε i with
    | none => rw [e0] at w; exact w.elim
    | some dss0 =>
      rw [e0] at w
      simp only at w
      obtain ⟨sl0, a, bs0, _, _, h1, h2, _⟩ := S.atLL e0
      refine ⟨_, h1, ε, S, ?_⟩
      cases em : mi ε with
      | stuck => rw [em] at w; exact w
      | exc C ε' => rw [em] at w; exact w
      | ok k ε1 =>
        rw [em, Out.bind_ok] at w
        intro v H1 t1 S1 r1
        split at w
        · rename_i k dss d e2 e3
          cases r1
          obtain ⟨sl, a', bs, g0, gob, g1, ga, gnd, glr, gf⟩ := S1.atLL e2
          have ea : some (some (V.ref a)) = some (some (V.ref a')) := h1.symm.trans g1
          cases ea
          by_cases hk : 0 ≤ k
          · rw [if_pos hk] at w
            cases e4 : dss[k.toNat]? with
            | none => rw [e4] at w; exact w.elim
            | some ds =>
              rw [e4] at w
              simp only at w
              by_cases hl : ds.length < big
              · rw [if_pos hl] at w
                obtain ⟨b, xs, hbk, hb, rb⟩ := glr.at' e4
                obtain ⟨u, hu, ru⟩ := S1.atP e3
                have mb : b ∈ bs := List.mem_of_getElem? hbk
                have ne : a ≠ b := fun z => (List.nodup_cons.mp gnd).1 (z ▸ mb)
                have own : Own ε1 σ H1 b := ⟨i, sl, _, g0, g1, (gf b).mpr (.inr mb)⟩
                obtain ⟨S2, k2, w2⟩ := S1.setLL (H' := L2.upd H1 b (.lst (xs ++ [u]))) (bs' := bs) (dss' := dss.set k.toNat (ds ++ [d])) g0 gob g1 gf (fun z y q _ n => by rw [upd_ne (fun e => by subst e; exact n mb)]; exact q) (fun z u q => upd_nn q)
                  (by rw [upd_ne ne]; exact ga) gnd (LlR.upd hb (rb.append (.cons ru .nil)) (List.nodup_cons.mp gnd).2 glr hbk) (fun z q => .inl q)
                refine ⟨a, bs.map V.ref, k, .ref b, rfl, rfl, SqL.of ga, atI_nn hk (by rw [List.getElem?_map, hbk]; rfl), .inl ⟨rfl, xs, SqL.of hb⟩, u, hu, b, xs, u, rfl, rfl, hb, ?_, w _ _ (t1.trans ⟨fun z o q n2 => k2 z o q n2, fun z q => ?_, fun z o q => upd_nn q⟩) S2 .non trivial⟩
                · rw [rb.length]; exact Nat.lt_of_lt_of_le hl (big_line (Nat.le_refl _))
                · rcases w2 z q with e | e
                  · exact .inl e
                  · exact .inl ⟨i, sl, _, g0, g1, (gf z).mpr (.inr e)⟩
              · rw [if_neg hl] at w; exact w.elim
          · rw [if_neg hk] at w; exact w.elim
        · exact w.elim
/-! ### a new list of new lists, locked for good -/
def mSinkLL (m : M Opd) : M Opd := fun ε => (m ε).bind fun o ε1 => match o with
  | .new (.ll dss) => .ok (.val (.list (dss.map .list))) ε1
  | _ => .stuck
theorem LlR.frz {K : PySem.W.Frag} {H Hf : Hp} (im : Im H Hf) : ∀ {bs : List Addr} {dss : List (List PD)}, LlR K H bs dss → (∀ b xs, b ∈ bs → H b = some (.lst xs) → ∃ o, Hf b = some (.frz o (.lst xs))) → RpA K Hf (bs.map V.ref) (dss.map .list)
  | [], [], _, _ => .nil
  | b :: bs, ds :: dss, ⟨⟨xs, h1, h2⟩, h3⟩, k => .cons (.lst (k b xs List.mem_cons_self h1) (RpA.im im _ _ h2)) (LlR.frz im h3 fun c ys m => k c ys (List.mem_cons_of_mem _ m))
  | [], _ :: _, h, _ => h.elim
  | _ :: _, [], h, _ => h.elim
theorem je_sinkLL {e : Expr} {m : M Opd} (h : JE X c e m) : JE X c e (mSinkLL m) := by
  refine ⟨fun pins s σ H Q I ⟨ε, S, w⟩ => ?_⟩
  unfold mSinkLL at w
  refine thn (h.run pins s σ H (fun v H1 => ∃ dss ε1, Step ε σ H ε1 σ H1 ∧ SR X.K c ε1 σ H1 ∧ RO X.K c ε1 σ H1 (.new (.ll dss)) v ∧ NewIn H H1 (.new (.ll dss)) v ∧ PostE X.K c (.ok (.val (.list (dss.map .list))) ε1) ε σ H Q) I ⟨ε, S, ?_⟩)
    fun u s1 ⟨v, H1, I1, rv, dss, ε1, t1, S1, r1, n1, p⟩ => ?_
  · cases e1 : m ε with
    | stuck => rw [e1] at w; exact w
    | exc C ε' => rw [e1] at w; exact w
    | ok o ε1 =>
      rw [e1, Out.bind_ok] at w
      intro v H1 t1 S1 r1 n1
      cases o with
      | val d => exact w.elim
      | own k => exact w.elim
      | new ob =>
        cases ob with
        | ll dss => exact ⟨dss, ε1, t1, S1, r1, n1, w⟩
        | _ => exact w.elim
  · obtain ⟨Z, hZ⟩ : ∃ Z : Addr → Prop, Z = Ft H1 (.ll dss) v := ⟨_, rfl⟩
    have trk : ∀ b, Z b → ∃ u, H1 b = some u ∧ Fz u = false ∧ Mut (some u) := fun b z => by rw [hZ] at z; exact r1.1.trk z
    have I2 := inv_lk I1 (fun b z => let ⟨u, a, _, b⟩ := trk b z; ⟨u, a, b⟩)
    have zn : ∀ b, Z b → c.H0 b = none ∧ ¬ Own ε1 σ H1 b := fun b z => by rw [hZ] at z; exact r1.2 b z
    obtain ⟨S2, w2⟩ := S1.keepW (H' := lkH Z s1.heap H1) (fun b u q z => by
      by_cases hz : Z b
      · obtain ⟨u', hu, fz, _⟩ := trk b hz
        rw [q] at hu; cases hu
        rcases z with z | z | z
        · exact absurd (zn b hz).1 z
        · rw [fz] at z; cases z
        · exact absurd z (zn b hz).2
      · rw [lkH_out hz]; exact q) fun b u q => by
      by_cases hz : Z b
      · obtain ⟨o, g⟩ := inv_get I1 q
        rw [lkH_in hz q g]; exact fun z => nomatch z
      · rw [lkH_out hz, q]; exact fun z => nomatch z
    have im : Im H1 (lkH Z s1.heap H1) := fun b o q z => by
      rw [lkH_out fun hz => by
        obtain ⟨u', hu, fz, _⟩ := trk b hz
        rw [q] at hu; cases hu; rw [fz] at z; cases z]
      exact q
    obtain ⟨a, bs, ev, ha, nd, lr⟩ := r1.1
    have za : Z a := by rw [hZ, ev]; exact ⟨a, bs, rfl, ha, .inl rfl⟩
    obtain ⟨o, g⟩ := inv_get I1 ha
    have rp : Rp X.K (lkH Z s1.heap H1) v (.list (dss.map .list)) := by
      rw [ev]
      refine .lst ⟨o, lkH_in za ha g⟩ (lr.frz im fun b xs hb hl => ?_)
      obtain ⟨o', g'⟩ := inv_get I1 hl
      exact ⟨o', lkH_in (by rw [hZ, ev]; exact ⟨a, bs, rfl, ha, .inr hb⟩) hl g'⟩
    refine ⟨v, _, I2, rv, p v _ ⟨fun b o q n => ?_, fun b q => t1.ow b (w2 b q), fun b o q => ?_⟩ S2 rp trivial⟩
    · rw [lkH_out fun hz => by
        have := n1 b (by rw [hZ] at hz; exact hz)
        rw [q] at this; cases this]
      exact t1.kp b o q n
    · cases q2 : H1 b with
      | none => exact absurd q2 (t1.tr b o q)
      | some u =>
        by_cases hz : Z b
        · obtain ⟨o', g'⟩ := inv_get I1 q2
          rw [lkH_in hz q2 g']; exact fun z => nomatch z
        · rw [lkH_out hz, q2]; exact fun z => nomatch z
end
end MM

namespace LK
open PySem PySem.Spec PyProof.Rows L2 MM
def top (i : Nat) : Stmt := PySem.Challenge.pw_askahead_k02_whole_ways.main.body.getD i (.Pass ⟨0, 0, 0, 0⟩)
abbrev s_is_whole : Stmt := top 10
abbrev N_is_whole : List Str := ["thing", "low", "high"]
theorem sc_is_whole : FnScope N_is_whole ["thing", "low", "high"] (defScope s_is_whole) := ⟨rfl, rfl, rfl, by decide +kernel, rfl, by decide +kernel, by decide +kernel⟩
abbrev s_are_beats : Stmt := top 11
abbrev N_are_beats : List Str := ["thing", "many", "one"]
theorem sc_are_beats : FnScope N_are_beats ["thing", "many"] (defScope s_are_beats) := ⟨rfl, rfl, rfl, by decide +kernel, rfl, by decide +kernel, by decide +kernel⟩
abbrev s_good_game : Stmt := top 12
abbrev N_good_game : List Str := ["thing"]
theorem sc_good_game : FnScope N_good_game ["thing"] (defScope s_good_game) := ⟨rfl, rfl, rfl, by decide +kernel, rfl, by decide +kernel, by decide +kernel⟩
abbrev s_need_game : Stmt := top 13
abbrev N_need_game : List Str := ["game"]
theorem sc_need_game : FnScope N_need_game ["game"] (defScope s_need_game) := ⟨rfl, rfl, rfl, by decide +kernel, rfl, by decide +kernel, by decide +kernel⟩
abbrev s_are_cuts : Stmt := top 14
abbrev N_are_cuts : List Str := ["things", "many", "thing", "one", "other"]
theorem sc_are_cuts : FnScope N_are_cuts ["things", "many", "thing"] (defScope s_are_cuts) := ⟨rfl, rfl, rfl, by decide +kernel, rfl, by decide +kernel, by decide +kernel⟩
abbrev s_due_of : Stmt := top 15
abbrev N_due_of : List Str := ["late", "put"]
theorem sc_due_of : FnScope N_due_of ["late", "put"] (defScope s_due_of) := ⟨rfl, rfl, rfl, by decide +kernel, rfl, by decide +kernel, by decide +kernel⟩
abbrev s_good_from : Stmt := top 16
abbrev N_good_from : List Str := ["game", "put", "thing", "later", "one"]
theorem sc_good_from : FnScope N_good_from ["game", "put", "thing"] (defScope s_good_from) := ⟨rfl, rfl, rfl, by decide +kernel, rfl, by decide +kernel, by decide +kernel⟩
abbrev s_good_plan : Stmt := top 17
abbrev N_good_plan : List Str := ["game", "thing"]
theorem sc_good_plan : FnScope N_good_plan ["game", "thing"] (defScope s_good_plan) := ⟨rfl, rfl, rfl, by decide +kernel, rfl, by decide +kernel, by decide +kernel⟩
abbrev s_is_plan : Stmt := top 18
abbrev N_is_plan : List Str := ["game", "thing"]
theorem sc_is_plan : FnScope N_is_plan ["game", "thing"] (defScope s_is_plan) := ⟨rfl, rfl, rfl, by decide +kernel, rfl, by decide +kernel, by decide +kernel⟩
abbrev s_need_plan : Stmt := top 19
abbrev N_need_plan : List Str := ["game", "plan"]
theorem sc_need_plan : FnScope N_need_plan ["game", "plan"] (defScope s_need_plan) := ⟨rfl, rfl, rfl, by decide +kernel, rfl, by decide +kernel, by decide +kernel⟩
abbrev s_need_thing : Stmt := top 20
abbrev N_need_thing : List Str := ["game", "thing"]
theorem sc_need_thing : FnScope N_need_thing ["game", "thing"] (defScope s_need_thing) := ⟨rfl, rfl, rfl, by decide +kernel, rfl, by decide +kernel, by decide +kernel⟩
abbrev s_answer_to : Stmt := top 22
abbrev N_answer_to : List Str := ["cuts", "thing", "cut"]
theorem sc_answer_to : FnScope N_answer_to ["cuts", "thing"] (defScope s_answer_to) := ⟨rfl, rfl, rfl, by decide +kernel, rfl, by decide +kernel, by decide +kernel⟩
abbrev s_way_of : Stmt := top 23
abbrev N_way_of : List Str := ["game", "plan", "thing", "put"]
theorem sc_way_of : FnScope N_way_of ["game", "plan", "thing"] (defScope s_way_of) := ⟨rfl, rfl, rfl, by decide +kernel, rfl, by decide +kernel, by decide +kernel⟩
abbrev s_answers_to : Stmt := top 24
abbrev N_answers_to : List Str := ["put", "thing", "cuts"]
theorem sc_answers_to : FnScope N_answers_to ["put", "thing"] (defScope s_answers_to) := ⟨rfl, rfl, rfl, by decide +kernel, rfl, by decide +kernel, by decide +kernel⟩
abbrev s_need_all : Stmt := top 25
abbrev N_need_all : List Str := ["game", "plan", "thing"]
theorem sc_need_all : FnScope N_need_all ["game", "plan", "thing"] (defScope s_need_all) := ⟨rfl, rfl, rfl, by decide +kernel, rfl, by decide +kernel, by decide +kernel⟩
abbrev s_way : Stmt := top 26
abbrev N_way : List Str := ["game", "plan", "thing"]
theorem sc_way : FnScope N_way ["game", "plan", "thing"] (defScope s_way) := ⟨rfl, rfl, rfl, by decide +kernel, rfl, by decide +kernel, by decide +kernel⟩
abbrev s_heard : Stmt := top 27
abbrev N_heard : List Str := ["game", "plan", "thing"]
theorem sc_heard : FnScope N_heard ["game", "plan", "thing"] (defScope s_heard) := ⟨rfl, rfl, rfl, by decide +kernel, rfl, by decide +kernel, by decide +kernel⟩
abbrev s_looks_of : Stmt := top 28
abbrev N_looks_of : List Str := ["game", "plan", "made", "thing", "put"]
theorem sc_looks_of : FnScope N_looks_of ["game", "plan"] (defScope s_looks_of) := ⟨rfl, rfl, rfl, by decide +kernel, rfl, by decide +kernel, by decide +kernel⟩
abbrev s_parts_of : Stmt := top 29
abbrev N_parts_of : List Str := ["game", "plan", "made", "thing", "look"]
theorem sc_parts_of : FnScope N_parts_of ["game", "plan"] (defScope s_parts_of) := ⟨rfl, rfl, rfl, by decide +kernel, rfl, by decide +kernel, by decide +kernel⟩
abbrev s_parts : Stmt := top 30
abbrev N_parts : List Str := ["game", "plan"]
theorem sc_parts : FnScope N_parts ["game", "plan"] (defScope s_parts) := ⟨rfl, rfl, rfl, by decide +kernel, rfl, by decide +kernel, by decide +kernel⟩
abbrev s_finds_all : Stmt := top 31
abbrev N_finds_all : List Str := ["game", "plan"]
theorem sc_finds_all : FnScope N_finds_all ["game", "plan"] (defScope s_finds_all) := ⟨rfl, rfl, rfl, by decide +kernel, rfl, by decide +kernel, by decide +kernel⟩
abbrev s_not_parted : Stmt := top 32
abbrev N_not_parted : List Str := ["game", "plan", "own"]
theorem sc_not_parted : FnScope N_not_parted ["game", "plan"] (defScope s_not_parted) := ⟨rfl, rfl, rfl, by decide +kernel, rfl, by decide +kernel, by decide +kernel⟩
abbrev s_narrowed : Stmt := top 33
abbrev N_narrowed : List Str := ["stretch", "cuts", "thing", "low", "high", "cut"]
theorem sc_narrowed : FnScope N_narrowed ["stretch", "cuts", "thing"] (defScope s_narrowed) := ⟨rfl, rfl, rfl, by decide +kernel, rfl, by decide +kernel, by decide +kernel⟩
abbrev s_idle : Stmt := top 34
abbrev N_idle : List Str := ["game", "plan", "thing", "made", "stretch", "beat", "cuts", "later"]
theorem sc_idle : FnScope N_idle ["game", "plan", "thing"] (defScope s_idle) := ⟨rfl, rfl, rfl, by decide +kernel, rfl, by decide +kernel, by decide +kernel⟩
abbrev s__law_cell_at : Stmt := top 36
abbrev N__law_cell_at : List Str := ["_law_script", "_law_k", "_law_spare", "_law_again"]
theorem sc__law_cell_at : FnScope N__law_cell_at ["_law_script", "_law_k"] (defScope s__law_cell_at) := ⟨rfl, rfl, rfl, by decide +kernel, rfl, by decide +kernel, by decide +kernel⟩
abbrev s__law_mixed : Stmt := top 37
abbrev N__law_mixed : List Str := ["_law_script", "_law_k", "_law_bound", "_law_spun"]
theorem sc__law_mixed : FnScope N__law_mixed ["_law_script", "_law_k", "_law_bound"] (defScope s__law_mixed) := ⟨rfl, rfl, rfl, by decide +kernel, rfl, by decide +kernel, by decide +kernel⟩
abbrev s__law_draw : Stmt := top 38
abbrev N__law_draw : List Str := ["_law_script", "_law_town", "_law_bound"]
theorem sc__law_draw : FnScope N__law_draw ["_law_script", "_law_town", "_law_bound"] (defScope s__law_draw) := ⟨rfl, rfl, rfl, by decide +kernel, rfl, by decide +kernel, by decide +kernel⟩
abbrev s__law_pick : Stmt := top 39
abbrev N__law_pick : List Str := ["_law_script", "_law_town", "_law_some"]
theorem sc__law_pick : FnScope N__law_pick ["_law_script", "_law_town", "_law_some"] (defScope s__law_pick) := ⟨rfl, rfl, rfl, by decide +kernel, rfl, by decide +kernel, by decide +kernel⟩
abbrev s__law_same_truth : Stmt := top 40
abbrev N__law_same_truth : List Str := ["_law_got", "_law_due_here"]
theorem sc__law_same_truth : FnScope N__law_same_truth ["_law_got", "_law_due_here"] (defScope s__law_same_truth) := ⟨rfl, rfl, rfl, by decide +kernel, rfl, by decide +kernel, by decide +kernel⟩
abbrev s__law_count : Stmt := top 41
abbrev N__law_count : List Str := ["_law_late", "_law_beats", "_law_rows", "_law_beat"]
theorem sc__law_count : FnScope N__law_count ["_law_late", "_law_beats"] (defScope s__law_count) := ⟨rfl, rfl, rfl, by decide +kernel, rfl, by decide +kernel, by decide +kernel⟩
abbrev s__law_some_beats : Stmt := top 42
abbrev N__law_some_beats : List Str := ["_law_script", "_law_town", "_law_most_there", "_law_made", "_law_beat"]
theorem sc__law_some_beats : FnScope N__law_some_beats ["_law_script", "_law_town", "_law_most_there"] (defScope s__law_some_beats) := ⟨rfl, rfl, rfl, by decide +kernel, rfl, by decide +kernel, by decide +kernel⟩
abbrev s__law_some_game : Stmt := top 43
abbrev N__law_some_game : List Str := ["_law_script", "_law_town", "_law_most_there", "_law_late", "_law_beats", "_law_top", "_law_some"]
theorem sc__law_some_game : FnScope N__law_some_game ["_law_script", "_law_town", "_law_most_there"] (defScope s__law_some_game) := ⟨rfl, rfl, rfl, by decide +kernel, rfl, by decide +kernel, by decide +kernel⟩
abbrev s__law_due : Stmt := top 44
abbrev N__law_due : List Str := ["_law_late", "_law_put"]
theorem sc__law_due : FnScope N__law_due ["_law_late", "_law_put"] (defScope s__law_due) := ⟨rfl, rfl, rfl, by decide +kernel, rfl, by decide +kernel, by decide +kernel⟩
abbrev s__law_reply : Stmt := top 45
abbrev N__law_reply : List Str := ["_law_cuts", "_law_thing", "_law_cut"]
theorem sc__law_reply : FnScope N__law_reply ["_law_cuts", "_law_thing"] (defScope s__law_reply) := ⟨rfl, rfl, rfl, by decide +kernel, rfl, by decide +kernel, by decide +kernel⟩
abbrev s__law_some_cuts : Stmt := top 46
abbrev N__law_some_cuts : List Str := ["_law_script", "_law_town", "_law_things", "_law_many", "_law_stretch", "_law_first", "_law_last", "_law_made", "_law_again", "_law_cut"]
theorem sc__law_some_cuts : FnScope N__law_some_cuts ["_law_script", "_law_town", "_law_things", "_law_many", "_law_stretch"] (defScope s__law_some_cuts) := ⟨rfl, rfl, rfl, by decide +kernel, rfl, by decide +kernel, by decide +kernel⟩
abbrev s__law_some_plan : Stmt := top 47
abbrev N__law_some_plan : List Str := ["_law_script", "_law_town", "_law_game", "_law_put", "_law_stretch", "_law_first", "_law_last", "_law_cuts", "_law_later", "_law_edges", "_law_plans", "_law_low", "_law_high", "_law_own"]
theorem sc__law_some_plan : FnScope N__law_some_plan ["_law_script", "_law_town", "_law_game", "_law_put", "_law_stretch"] (defScope s__law_some_plan) := ⟨rfl, rfl, rfl, by decide +kernel, rfl, by decide +kernel, by decide +kernel⟩
abbrev s__law_path : Stmt := top 48
abbrev N__law_path : List Str := ["_law_game", "_law_plan", "_law_thing", "_law_put", "_law_here", "_law_cuts"]
theorem sc__law_path : FnScope N__law_path ["_law_game", "_law_plan", "_law_thing"] (defScope s__law_path) := ⟨rfl, rfl, rfl, by decide +kernel, rfl, by decide +kernel, by decide +kernel⟩
abbrev s__law_classes : Stmt := top 49
abbrev N__law_classes : List Str := ["_law_game", "_law_plan", "_law_looks", "_law_made", "_law_thing", "_law_look"]
theorem sc__law_classes : FnScope N__law_classes ["_law_game", "_law_plan"] (defScope s__law_classes) := ⟨rfl, rfl, rfl, by decide +kernel, rfl, by decide +kernel, by decide +kernel⟩
abbrev s__law_idle : Stmt := top 50
abbrev N__law_idle : List Str := ["_law_looks", "_law_thing", "_law_made", "_law_beat", "_law_cuts", "_law_ahead", "_law_same", "_law_told", "_law_k", "_law_look", "_law_row"]
theorem sc__law_idle : FnScope N__law_idle ["_law_looks", "_law_thing"] (defScope s__law_idle) := ⟨rfl, rfl, rfl, by decide +kernel, rfl, by decide +kernel, by decide +kernel⟩
abbrev s_law : Stmt := top 51
abbrev N_law : List Str := ["_law_script", "_law_town", "_law_game", "_law_plan", "_law_lots", "_law_pairs", "_law_looks", "_law_again", "_law_thing", "_law_own"]
theorem sc_law : FnScope N_law ["_law_script"] (defScope s_law) := ⟨rfl, rfl, rfl, by decide +kernel, rfl, by decide +kernel, by decide +kernel⟩
/-- where the built-in names are not hidden, the numbers of the module -/
structure Bl (mg : Str → Option Value) : Prop where
  n_all : mg "all" = none
  n_bool : mg "bool" = none
  n_enumerate : mg "enumerate" = none
  n_int : mg "int" = none
  n_isinstance : mg "isinstance" = none
  n_len : mg "len" = none
  n_list : mg "list" = none
  n_max : mg "max" = none
  n_min : mg "min" = none
  n_range : mg "range" = none
  n_sorted : mg "sorted" = none
  n_str : mg "str" = none
  n_sum : mg "sum" = none
  n_tuple : mg "tuple" = none
  n_zip : mg "zip" = none
  c_THINGS : ∃ t, mg "THINGS" = some (.int 64 t)
  c_LATE : ∃ t, mg "LATE" = some (.int 5 t)
  c_BEATS : ∃ t, mg "BEATS" = some (.int 8 t)
  c_CUTS : ∃ t, mg "CUTS" = some (.int 3 t)
/-- a def as the top has left it -/
structure Df (K : PySem.W.Frag) (mg : Str → Option Value) (x : Str) (st : Stmt) (ps : List Str) (f : Addr) (fd : FuncData) : Prop where
  fn : Fun K x x st f fd
  mg : mg x = some (.ref f)
  nm : nmR K x f
  bd : Binds K fd ps []
structure Ds (K : PySem.W.Frag) (mg : Str → Option Value) where
  f_is_whole : Addr
  e_is_whole : FuncData
  d_is_whole : Df K mg "is_whole" s_is_whole ["thing", "low", "high"] f_is_whole e_is_whole
  f_are_beats : Addr
  e_are_beats : FuncData
  d_are_beats : Df K mg "are_beats" s_are_beats ["thing", "many"] f_are_beats e_are_beats
  f_good_game : Addr
  e_good_game : FuncData
  d_good_game : Df K mg "good_game" s_good_game ["thing"] f_good_game e_good_game
  f_need_game : Addr
  e_need_game : FuncData
  d_need_game : Df K mg "need_game" s_need_game ["game"] f_need_game e_need_game
  f_are_cuts : Addr
  e_are_cuts : FuncData
  d_are_cuts : Df K mg "are_cuts" s_are_cuts ["things", "many", "thing"] f_are_cuts e_are_cuts
  f_due_of : Addr
  e_due_of : FuncData
  d_due_of : Df K mg "due_of" s_due_of ["late", "put"] f_due_of e_due_of
  f_good_from : Addr
  e_good_from : FuncData
  d_good_from : Df K mg "good_from" s_good_from ["game", "put", "thing"] f_good_from e_good_from
  f_good_plan : Addr
  e_good_plan : FuncData
  d_good_plan : Df K mg "good_plan" s_good_plan ["game", "thing"] f_good_plan e_good_plan
  f_is_plan : Addr
  e_is_plan : FuncData
  d_is_plan : Df K mg "is_plan" s_is_plan ["game", "thing"] f_is_plan e_is_plan
  f_need_plan : Addr
  e_need_plan : FuncData
  d_need_plan : Df K mg "need_plan" s_need_plan ["game", "plan"] f_need_plan e_need_plan
  f_need_thing : Addr
  e_need_thing : FuncData
  d_need_thing : Df K mg "need_thing" s_need_thing ["game", "thing"] f_need_thing e_need_thing
  f_answer_to : Addr
  e_answer_to : FuncData
  d_answer_to : Df K mg "answer_to" s_answer_to ["cuts", "thing"] f_answer_to e_answer_to
  f_way_of : Addr
  e_way_of : FuncData
  d_way_of : Df K mg "way_of" s_way_of ["game", "plan", "thing"] f_way_of e_way_of
  f_answers_to : Addr
  e_answers_to : FuncData
  d_answers_to : Df K mg "answers_to" s_answers_to ["put", "thing"] f_answers_to e_answers_to
  f_need_all : Addr
  e_need_all : FuncData
  d_need_all : Df K mg "need_all" s_need_all ["game", "plan", "thing"] f_need_all e_need_all
  f_way : Addr
  e_way : FuncData
  d_way : Df K mg "way" s_way ["game", "plan", "thing"] f_way e_way
  f_heard : Addr
  e_heard : FuncData
  d_heard : Df K mg "heard" s_heard ["game", "plan", "thing"] f_heard e_heard
  f_looks_of : Addr
  e_looks_of : FuncData
  d_looks_of : Df K mg "looks_of" s_looks_of ["game", "plan"] f_looks_of e_looks_of
  f_parts_of : Addr
  e_parts_of : FuncData
  d_parts_of : Df K mg "parts_of" s_parts_of ["game", "plan"] f_parts_of e_parts_of
  f_parts : Addr
  e_parts : FuncData
  d_parts : Df K mg "parts" s_parts ["game", "plan"] f_parts e_parts
  f_finds_all : Addr
  e_finds_all : FuncData
  d_finds_all : Df K mg "finds_all" s_finds_all ["game", "plan"] f_finds_all e_finds_all
  f_not_parted : Addr
  e_not_parted : FuncData
  d_not_parted : Df K mg "not_parted" s_not_parted ["game", "plan"] f_not_parted e_not_parted
  f_narrowed : Addr
  e_narrowed : FuncData
  d_narrowed : Df K mg "narrowed" s_narrowed ["stretch", "cuts", "thing"] f_narrowed e_narrowed
  f_idle : Addr
  e_idle : FuncData
  d_idle : Df K mg "idle" s_idle ["game", "plan", "thing"] f_idle e_idle
  f__law_cell_at : Addr
  e__law_cell_at : FuncData
  d__law_cell_at : Df K mg "_law_cell_at" s__law_cell_at ["_law_script", "_law_k"] f__law_cell_at e__law_cell_at
  f__law_mixed : Addr
  e__law_mixed : FuncData
  d__law_mixed : Df K mg "_law_mixed" s__law_mixed ["_law_script", "_law_k", "_law_bound"] f__law_mixed e__law_mixed
  f__law_draw : Addr
  e__law_draw : FuncData
  d__law_draw : Df K mg "_law_draw" s__law_draw ["_law_script", "_law_town", "_law_bound"] f__law_draw e__law_draw
  f__law_pick : Addr
  e__law_pick : FuncData
  d__law_pick : Df K mg "_law_pick" s__law_pick ["_law_script", "_law_town", "_law_some"] f__law_pick e__law_pick
  f__law_same_truth : Addr
  e__law_same_truth : FuncData
  d__law_same_truth : Df K mg "_law_same_truth" s__law_same_truth ["_law_got", "_law_due_here"] f__law_same_truth e__law_same_truth
  f__law_count : Addr
  e__law_count : FuncData
  d__law_count : Df K mg "_law_count" s__law_count ["_law_late", "_law_beats"] f__law_count e__law_count
  f__law_some_beats : Addr
  e__law_some_beats : FuncData
  d__law_some_beats : Df K mg "_law_some_beats" s__law_some_beats ["_law_script", "_law_town", "_law_most_there"] f__law_some_beats e__law_some_beats
  f__law_some_game : Addr
  e__law_some_game : FuncData
  d__law_some_game : Df K mg "_law_some_game" s__law_some_game ["_law_script", "_law_town", "_law_most_there"] f__law_some_game e__law_some_game
  f__law_due : Addr
  e__law_due : FuncData
  d__law_due : Df K mg "_law_due" s__law_due ["_law_late", "_law_put"] f__law_due e__law_due
  f__law_reply : Addr
  e__law_reply : FuncData
  d__law_reply : Df K mg "_law_reply" s__law_reply ["_law_cuts", "_law_thing"] f__law_reply e__law_reply
  f__law_some_cuts : Addr
  e__law_some_cuts : FuncData
  d__law_some_cuts : Df K mg "_law_some_cuts" s__law_some_cuts ["_law_script", "_law_town", "_law_things", "_law_many", "_law_stretch"] f__law_some_cuts e__law_some_cuts
  f__law_some_plan : Addr
  e__law_some_plan : FuncData
  d__law_some_plan : Df K mg "_law_some_plan" s__law_some_plan ["_law_script", "_law_town", "_law_game", "_law_put", "_law_stretch"] f__law_some_plan e__law_some_plan
  f__law_path : Addr
  e__law_path : FuncData
  d__law_path : Df K mg "_law_path" s__law_path ["_law_game", "_law_plan", "_law_thing"] f__law_path e__law_path
  f__law_classes : Addr
  e__law_classes : FuncData
  d__law_classes : Df K mg "_law_classes" s__law_classes ["_law_game", "_law_plan"] f__law_classes e__law_classes
  f__law_idle : Addr
  e__law_idle : FuncData
  d__law_idle : Df K mg "_law_idle" s__law_idle ["_law_looks", "_law_thing"] f__law_idle e__law_idle
  f_law : Addr
  e_law : FuncData
  d_law : Df K mg "law" s_law ["_law_script"] f_law e_law
section
variable {P : Program} {w : World} {K : PySem.W.Frag} {mg : Str → Option Value} {base : Heap}
def M_is_whole : M Fl :=
  sRet (mVal (mAnd (mTru (mUn (lift1 (fIsi .int)) (mVar 0))) (mAnd (mTru (mNot (mTru (mUn (lift1 (fIsi .bool)) (mVar 0))))) (mChain (lift2 fLe) (lift2 fLe) (mVar 1) (mVar 0) (mVar 2)))))
def F_is_whole : List Sl → FOut := runF 3 3 M_is_whole
set_option maxHeartbeats 1000000 in
theorem ok_is_whole (B : Bl mg) (D : Ds K mg) : FnOk P w K mg base (L2.CX P w) 1 D.f_is_whole D.e_is_whole ["thing", "low", "high"] (spF K mg 3 F_is_whole) :=
  fn_ok D.d_is_whole.fn sc_is_whole fun cdv A outer s H E c hr tk pp => by
    have nd := sc_is_whole.nd
    exact jb_one (js_ret (jv_of (je_and (je_isi .int (je_var 0) rfl B.n_isinstance rfl B.n_int PyProof.Rows.boot_int) (je_and (je_not (je_isi .bool (je_var 0) rfl B.n_isinstance rfl B.n_bool PyProof.Rows.boot_bool)) (je_one (je_chain (o_le) (o_le) (je_var 1) (je_var 0) (je_var 2)))))))
abbrev V_are_beats_0 : M PD :=
  mVal (mCall (F_is_whole) (oCons (mSink (mVar 2)) (oCons (mC (.int 0)) (oCons (mSink (mC (.int 3))) (oNil)))))
def M_are_beats : M Fl :=
  sRet (mVal (mAnd (mTru (mUn (lift1 (fIsi .tuple)) (mVar 0))) (mAnd (mTru (mBin (lift2 fLe) (mCallB (liftN fLen) (oCons (mVar 0) (oNil))) (mVar 1))) (mCallB (liftN fAll) (oCons (mLc [2] (iVal (mVal (mVar 0))) (tName 2) (xYes) ((V_are_beats_0))) (oNil))))))
def F_are_beats : List Sl → FOut := runF 2 3 M_are_beats
set_option maxHeartbeats 1000000 in
theorem ok_are_beats (B : Bl mg) (D : Ds K mg) : FnOk P w K mg base (L2.CX P w) 2 D.f_are_beats D.e_are_beats ["thing", "many"] (spF K mg 2 F_are_beats) :=
  fn_ok D.d_are_beats.fn sc_are_beats fun cdv A outer s H E c hr tk pp => by
    have nd := sc_are_beats.nd
    exact jb_one (js_ret (jv_of (je_and (je_isi .tuple (je_var 0) rfl B.n_isinstance rfl B.n_tuple PyProof.Rows.boot_tuple) (je_and (je_cmp (o_le) (je_callB c_len rfl B.n_len PySem.boot_len (jo_cons (je_var 0) (jo_nil))) (je_var 1)) (je_one (je_callB (c_all rfl) rfl B.n_all PyProof.Rows.boot_all (jo_cons (je_lc (own := [("one", 2)]) rfl nd (ji_val (jv_of (je_var 0))) (blkOk_by (N := N_are_beats) (sc := (defScope s_are_beats)) (by decide +kernel)) (fun _ _ _ _ _ => jg_name (i := 2) nd rfl (by first | exact Or.inl rfl | exact Or.inr rfl)) (fun _ _ _ _ _ => jx_nil) (fun _ _ _ _ _ => jv_of (je_call (ok_is_whole B D) (hr.mono (by omega)) rfl D.d_is_whole.mg D.d_is_whole.fn.kp D.d_is_whole.bd tk_nox (jo_cons (je_sink (je_var 2)) (jo_cons (je_int) (jo_cons (je_sink (je_globX rfl B.c_CUTS)) (jo_nil)))) (lenIs_cons (lenIs_cons (lenIs_cons (lenIs_nil)))))) (by decide)) (jo_nil))))))))
def M_good_game : M Fl :=
  sSeq (sIf (bOr (bNot (mTru (mUn (lift1 (fIsi .tuple)) (mVar 0)))) (mTru (mBin (lift2 fNe) (mCallB (liftN fLen) (oCons (mVar 0) (oNil))) (mC (.int 3))))) (sRet (mVal (mC (.bool false)))) (sNil))
  (sRet (mVal (mAnd (mTru (mCall (F_is_whole) (oCons (mSink (mBin (lift2 fIx) (mVar 0) (mC (.int 0)))) (oCons (mC (.int 1)) (oCons (mSink (mC (.int 64))) (oNil)))))) (mAnd (mTru (mCall (F_is_whole) (oCons (mSink (mBin (lift2 fIx) (mVar 0) (mC (.int 1)))) (oCons (mC (.int 0)) (oCons (mSink (mC (.int 5))) (oNil)))))) (mCall (F_are_beats) (oCons (mSink (mBin (lift2 fIx) (mVar 0) (mC (.int 2)))) (oCons (mSink (mC (.int 8))) (oNil))))))))
def F_good_game : List Sl → FOut := runF 1 1 M_good_game
set_option maxHeartbeats 1000000 in
theorem ok_good_game (B : Bl mg) (D : Ds K mg) : FnOk P w K mg base (L2.CX P w) 3 D.f_good_game D.e_good_game ["thing"] (spF K mg 1 F_good_game) :=
  fn_ok D.d_good_game.fn sc_good_game fun cdv A outer s H E c hr tk pp => by
    have nd := sc_good_game.nd
    exact jb_cons (js_if (jt_w (jw_or (jt_not (jt_val (je_isi .tuple (je_var 0) rfl B.n_isinstance rfl B.n_tuple PyProof.Rows.boot_tuple))) (jw_or1 (jt_cmp (o_ne (hu64 hr)) (je_callB c_len rfl B.n_len PySem.boot_len (jo_cons (je_var 0) (jo_nil))) (je_int))))) (jb_one (js_ret (jv_of (je_bl)))) (jb_nil))
          (jb_one (js_ret (jv_of (je_and (je_call (ok_is_whole B D) (hr.mono (by omega)) rfl D.d_is_whole.mg D.d_is_whole.fn.kp D.d_is_whole.bd tk (jo_cons (je_sink (je_ix o_ix (je_var 0) (je_int))) (jo_cons (je_int) (jo_cons (je_sink (je_globX rfl B.c_THINGS)) (jo_nil)))) (lenIs_cons (lenIs_cons (lenIs_cons (lenIs_nil))))) (je_and (je_call (ok_is_whole B D) (hr.mono (by omega)) rfl D.d_is_whole.mg D.d_is_whole.fn.kp D.d_is_whole.bd tk (jo_cons (je_sink (je_ix o_ix (je_var 0) (je_int))) (jo_cons (je_int) (jo_cons (je_sink (je_globX rfl B.c_LATE)) (jo_nil)))) (lenIs_cons (lenIs_cons (lenIs_cons (lenIs_nil))))) (je_one (je_call (ok_are_beats B D) (hr.mono (by omega)) rfl D.d_are_beats.mg D.d_are_beats.fn.kp D.d_are_beats.bd tk (jo_cons (je_sink (je_ix o_ix (je_var 0) (je_int))) (jo_cons (je_sink (je_globX rfl B.c_BEATS)) (jo_nil))) (lenIs_cons (lenIs_cons (lenIs_nil))))))))))
def M_need_game : M Fl :=
  sIf (bNot (mTru (mCall (F_good_game) (oCons (mSink (mVar 0)) (oNil))))) (sNever) (sNil)
def F_need_game : List Sl → FOut := runF 1 1 M_need_game
set_option maxHeartbeats 1000000 in
theorem ok_need_game (B : Bl mg) (D : Ds K mg) : FnOk P w K mg base (L2.CX P w) 4 D.f_need_game D.e_need_game ["game"] (spF K mg 1 F_need_game) :=
  fn_ok D.d_need_game.fn sc_need_game fun cdv A outer s H E c hr tk pp => by
    have nd := sc_need_game.nd
    exact jb_one (js_if (jt_not (jt_val (je_call (ok_good_game B D) (hr.mono (by omega)) rfl D.d_good_game.mg D.d_good_game.fn.kp D.d_good_game.bd tk (jo_cons (je_sink (je_var 0)) (jo_nil)) (lenIs_cons (lenIs_nil))))) (jb_one (js_never)) (jb_nil))
abbrev V_are_cuts_0 : M PD :=
  mVal (mCall (F_is_whole) (oCons (mSink (mVar 3)) (oCons (mC (.int 1)) (oCons (mSink (mBin (lift2 fSub) (mVar 0) (mC (.int 1)))) (oNil)))))
abbrev V_are_cuts_1 : M PD :=
  mVal (mBin (lift2 fLt) (mVar 3) (mVar 4))
def M_are_cuts : M Fl :=
  sSeq (sIf (bOr (bNot (mTru (mUn (lift1 (fIsi .tuple)) (mVar 2)))) (bOr (mTru (mBin (lift2 fGt) (mCallB (liftN fLen) (oCons (mVar 2) (oNil))) (mVar 1))) (bNot (mTru (mCallB (liftN fAll) (oCons (mLc [3] (iVal (mVal (mVar 2))) (tName 3) (xYes) ((V_are_cuts_0))) (oNil))))))) (sRet (mVal (mC (.bool false)))) (sNil))
  (sRet (mVal (mCallB (liftN fAll) (oCons (mLc [3, 4] (iRow zipF (mCons (mVal (mVar 2)) (mCons (mVal (mSlice (liftS fSl) (mVar 2) (pSome (mC (.int 1))) (pNone))) (mNil)))) (tTupT [3, 4]) (xYes) ((V_are_cuts_1))) (oNil)))))
def F_are_cuts : List Sl → FOut := runF 3 5 M_are_cuts
set_option maxHeartbeats 1000000 in
theorem ok_are_cuts (B : Bl mg) (D : Ds K mg) : FnOk P w K mg base (L2.CX P w) 2 D.f_are_cuts D.e_are_cuts ["things", "many", "thing"] (spF K mg 3 F_are_cuts) :=
  fn_ok D.d_are_cuts.fn sc_are_cuts fun cdv A outer s H E c hr tk pp => by
    have nd := sc_are_cuts.nd
    exact jb_cons (js_if (jt_w (jw_or (jt_not (jt_val (je_isi .tuple (je_var 2) rfl B.n_isinstance rfl B.n_tuple PyProof.Rows.boot_tuple))) (jw_or (jt_cmp (o_gt) (je_callB c_len rfl B.n_len PySem.boot_len (jo_cons (je_var 2) (jo_nil))) (je_var 1)) (jw_or1 (jt_not (jt_val (je_callB (c_all rfl) rfl B.n_all PyProof.Rows.boot_all (jo_cons (je_lc (own := [("one", 3)]) rfl nd (ji_val (jv_of (je_var 2))) (blkOk_by (N := N_are_cuts) (sc := (defScope s_are_cuts)) (by decide +kernel)) (fun _ _ _ _ _ => jg_name (i := 3) nd rfl (by first | exact Or.inl rfl | exact Or.inr rfl)) (fun _ _ _ _ _ => jx_nil) (fun _ _ _ _ _ => jv_of (je_call (ok_is_whole B D) (hr.mono (by omega)) rfl D.d_is_whole.mg D.d_is_whole.fn.kp D.d_is_whole.bd tk_nox (jo_cons (je_sink (je_var 3)) (jo_cons (je_int) (jo_cons (je_sink (je_bin o_sub (je_var 0) (je_int))) (jo_nil)))) (lenIs_cons (lenIs_cons (lenIs_cons (lenIs_nil)))))) (by decide)) (jo_nil))))))))) (jb_one (js_ret (jv_of (je_bl)))) (jb_nil))
          (jb_one (js_ret (jv_of (je_callB (c_all rfl) rfl B.n_all PyProof.Rows.boot_all (jo_cons (je_lc (own := [("one", 3), ("other", 4)]) rfl nd (ji_zip rfl B.n_zip (ja_cons (jv_of (je_var 2)) (ja_cons (jv_of (je_slice o_sl (je_var 2) (jp_some (je_int)) (jp_none))) (ja_nil)))) (blkOk_by (N := N_are_cuts) (sc := (defScope s_are_cuts)) (by decide +kernel)) (fun _ _ _ _ _ => jg_tup rfl nd (JGs.cons (i := 3) rfl (by first | exact Or.inl rfl | exact Or.inr rfl) (by first | exact Or.inl rfl | exact Or.inr rfl) rfl (JGs.cons (i := 4) rfl (by first | exact Or.inl rfl | exact Or.inr rfl) (by first | exact Or.inl rfl | exact Or.inr rfl) rfl (JGs.nil)))) (fun _ _ _ _ _ => jx_nil) (fun _ _ _ _ _ => jv_of (je_cmp (o_lt) (je_var 3) (je_var 4))) (by decide)) (jo_nil))))))
def M_due_of : M Fl :=
  sRet (mVal (mIf (mTru (mBin (lift2 fGt) (mCallB (liftN fLen) (oCons (mVar 1) (oNil))) (mVar 0))) (mBin (lift2 fIx) (mVar 1) (mBin (lift2 fSub) (mBin (lift2 fSub) (mCallB (liftN fLen) (oCons (mVar 1) (oNil))) (mC (.int 1))) (mVar 0))) (mTup (mNil))))
def F_due_of : List Sl → FOut := runF 2 2 M_due_of
set_option maxHeartbeats 1000000 in
theorem ok_due_of (B : Bl mg) (D : Ds K mg) : FnOk P w K mg base (L2.CX P w) 1 D.f_due_of D.e_due_of ["late", "put"] (spF K mg 2 F_due_of) :=
  fn_ok D.d_due_of.fn sc_due_of fun cdv A outer s H E c hr tk pp => by
    have nd := sc_due_of.nd
    exact jb_one (js_ret (jv_of (je_if (jt_cmp (o_gt) (je_callB c_len rfl B.n_len PySem.boot_len (jo_cons (je_var 1) (jo_nil))) (je_var 0)) (je_ix o_ix (je_var 1) (je_bin o_sub (je_bin o_sub (je_callB c_len rfl B.n_len PySem.boot_len (jo_cons (je_var 1) (jo_nil))) (je_int)) (je_var 0))) (je_tup (ja_nil)))))
abbrev V_good_from_0 (G_good_from : List Sl → FOut) : M PD :=
  mVal (mCall G_good_from (oCons (mSink (mVar 0)) (oCons (mSink (mVar 3)) (oCons (mSink (mVar 4)) (oNil)))))
def M_good_from (G_good_from : List Sl → FOut) : M Fl :=
  sSeq (sIf (mTru (mBin (lift2 fEq) (mCallB (liftN fLen) (oCons (mVar 1) (oNil))) (mCallB (liftN fLen) (oCons (mBin (lift2 fIx) (mVar 0) (mC (.int 2))) (oNil))))) (sRet (mVal (mBin (lift2 fEq) (mVar 2) (mTup (mCons (mVal (mC (.str "end"))) (mNil)))))) (sNil))
  (sSeq (sIf (bOr (bNot (mTru (mUn (lift1 (fIsi .tuple)) (mVar 2)))) (bOr (mTru (mBin (lift2 fNe) (mCallB (liftN fLen) (oCons (mVar 2) (oNil))) (mC (.int 3)))) (bOr (bNot (mTru (mUn (lift1 (fIsi .str)) (mBin (lift2 fIx) (mVar 2) (mC (.int 0)))))) (mTru (mBin (lift2 fNe) (mBin (lift2 fIx) (mVar 2) (mC (.int 0))) (mC (.str "ask"))))))) (sRet (mVal (mC (.bool false)))) (sNil))
  (sSeq (sIf (bOr (bNot (mTru (mCall (F_are_cuts) (oCons (mSink (mBin (lift2 fIx) (mVar 0) (mC (.int 0)))) (oCons (mSink (mBin (lift2 fIx) (mBin (lift2 fIx) (mVar 0) (mC (.int 2))) (mCallB (liftN fLen) (oCons (mVar 1) (oNil))))) (oCons (mSink (mBin (lift2 fIx) (mVar 2) (mC (.int 1)))) (oNil))))))) (bNot (mTru (mUn (lift1 (fIsi .tuple)) (mBin (lift2 fIx) (mVar 2) (mC (.int 2))))))) (sRet (mVal (mC (.bool false)))) (sNil))
  (sSeq (sSet 3 (mSink (mBin (lift2 fAdd) (mVar 1) (mTup (mCons (mVal (mBin (lift2 fIx) (mVar 2) (mC (.int 1)))) (mNil))))))
  (sSeq (sIf (mTru (mBin (lift2 fNe) (mCallB (liftN fLen) (oCons (mBin (lift2 fIx) (mVar 2) (mC (.int 2))) (oNil))) (mBin (lift2 fAdd) (mCallB (liftN fLen) (oCons (mCall (F_due_of) (oCons (mSink (mBin (lift2 fIx) (mVar 0) (mC (.int 1)))) (oCons (mSink (mVar 3)) (oNil)))) (oNil))) (mC (.int 1))))) (sRet (mVal (mC (.bool false)))) (sNil))
  (sRet (mVal (mCallB (liftN fAll) (oCons (mLc [4] (iVal (mVal (mBin (lift2 fIx) (mVar 2) (mC (.int 2))))) (tName 4) (xYes) ((V_good_from_0 G_good_from))) (oNil)))))))))
def F_good_from : Nat → List Sl → FOut
  | 0 => fun _ => .stuck
  | n + 1 => runF 3 5 (M_good_from (F_good_from n))
set_option maxHeartbeats 2000000 in
theorem oks_good_from (B : Bl mg) (D : Ds K mg) : ∀ n : Nat, FnOk P w K mg base (L2.CX P w) (3 + n) D.f_good_from D.e_good_from ["game", "put", "thing"] (spF K mg 3 (F_good_from n))
  | 0 => fn_no
  | n + 1 => by
    obtain g_good_from := oks_good_from B D n
    exact (fn_ok (k := 3 + n) D.d_good_from.fn sc_good_from fun cdv A outer s H E c hr tk pp => by
      have nd := sc_good_from.nd
      exact jb_cons (js_if (jt_cmp (o_eq (hu64 hr)) (je_callB c_len rfl B.n_len PySem.boot_len (jo_cons (je_var 1) (jo_nil))) (je_callB c_len rfl B.n_len PySem.boot_len (jo_cons (je_ix o_ix (je_var 0) (je_int)) (jo_nil)))) (jb_one (js_ret (jv_of (je_cmp (o_eq (hu64 hr)) (je_var 2) (je_tup (ja_cons (jv_of (je_str)) (ja_nil))))))) (jb_nil))
          (jb_cons (js_if (jt_w (jw_or (jt_not (jt_val (je_isi .tuple (je_var 2) rfl B.n_isinstance rfl B.n_tuple PyProof.Rows.boot_tuple))) (jw_or (jt_cmp (o_ne (hu64 hr)) (je_callB c_len rfl B.n_len PySem.boot_len (jo_cons (je_var 2) (jo_nil))) (je_int)) (jw_or (jt_not (jt_val (je_isi .str (je_ix o_ix (je_var 2) (je_int)) rfl B.n_isinstance rfl B.n_str PyProof.Rows.boot_str))) (jw_or1 (jt_cmp (o_ne (hu64 hr)) (je_ix o_ix (je_var 2) (je_int)) (je_str))))))) (jb_one (js_ret (jv_of (je_bl)))) (jb_nil))
          (jb_cons (js_if (jt_w (jw_or (jt_not (jt_val (je_call (ok_are_cuts B D) (hr.mono (by omega)) rfl D.d_are_cuts.mg D.d_are_cuts.fn.kp D.d_are_cuts.bd tk (jo_cons (je_sink (je_ix o_ix (je_var 0) (je_int))) (jo_cons (je_sink (je_ix o_ix (je_ix o_ix (je_var 0) (je_int)) (je_callB c_len rfl B.n_len PySem.boot_len (jo_cons (je_var 1) (jo_nil))))) (jo_cons (je_sink (je_ix o_ix (je_var 2) (je_int))) (jo_nil)))) (lenIs_cons (lenIs_cons (lenIs_cons (lenIs_nil))))))) (jw_or1 (jt_not (jt_val (je_isi .tuple (je_ix o_ix (je_var 2) (je_int)) rfl B.n_isinstance rfl B.n_tuple PyProof.Rows.boot_tuple)))))) (jb_one (js_ret (jv_of (je_bl)))) (jb_nil))
          (jb_cons (js_set (i := 3) nd rfl (by first | exact Or.inl rfl | exact Or.inr rfl) (je_sink (je_bin o_add (je_var 1) (je_tup (ja_cons (jv_of (je_ix o_ix (je_var 2) (je_int))) (ja_nil))))))
          (jb_cons (js_if (jt_cmp (o_ne (hu64 hr)) (je_callB c_len rfl B.n_len PySem.boot_len (jo_cons (je_ix o_ix (je_var 2) (je_int)) (jo_nil))) (je_bin o_add (je_callB c_len rfl B.n_len PySem.boot_len (jo_cons (je_call (ok_due_of B D) (hr.mono (by omega)) rfl D.d_due_of.mg D.d_due_of.fn.kp D.d_due_of.bd tk (jo_cons (je_sink (je_ix o_ix (je_var 0) (je_int))) (jo_cons (je_sink (je_var 3)) (jo_nil))) (lenIs_cons (lenIs_cons (lenIs_nil)))) (jo_nil))) (je_int))) (jb_one (js_ret (jv_of (je_bl)))) (jb_nil))
          (jb_one (js_ret (jv_of (je_callB (c_all rfl) rfl B.n_all PyProof.Rows.boot_all (jo_cons (je_lc (own := [("one", 4)]) rfl nd (ji_val (jv_of (je_ix o_ix (je_var 2) (je_int)))) (blkOk_by (N := N_good_from) (sc := (defScope s_good_from)) (by decide +kernel)) (fun _ _ _ _ _ => jg_name (i := 4) nd rfl (by first | exact Or.inl rfl | exact Or.inr rfl)) (fun _ _ _ _ _ => jx_nil) (fun _ _ _ _ _ => jv_of (je_call g_good_from (hr.mono (by omega)) rfl D.d_good_from.mg D.d_good_from.fn.kp D.d_good_from.bd tk_nox (jo_cons (je_sink (je_var 0)) (jo_cons (je_sink (je_var 3)) (jo_cons (je_sink (je_var 4)) (jo_nil)))) (lenIs_cons (lenIs_cons (lenIs_cons (lenIs_nil)))))) (by decide)) (jo_nil)))))))))))
theorem ok_good_from (B : Bl mg) (D : Ds K mg) (n : Nat) : FnOk P w K mg base (L2.CX P w) (3 + n) D.f_good_from D.e_good_from ["game", "put", "thing"] (spF K mg 3 (F_good_from n)) := oks_good_from B D n
def M_good_plan : M Fl :=
  sRet (mVal (mCall (F_good_from 12) (oCons (mSink (mVar 0)) (oCons (mSink (mTup (mNil))) (oCons (mSink (mVar 1)) (oNil))))))
def F_good_plan : List Sl → FOut := runF 2 2 M_good_plan
set_option maxHeartbeats 1000000 in
theorem ok_good_plan (B : Bl mg) (D : Ds K mg) : FnOk P w K mg base (L2.CX P w) 16 D.f_good_plan D.e_good_plan ["game", "thing"] (spF K mg 2 F_good_plan) :=
  fn_ok D.d_good_plan.fn sc_good_plan fun cdv A outer s H E c hr tk pp => by
    have nd := sc_good_plan.nd
    exact jb_one (js_ret (jv_of (je_call (ok_good_from B D 12) (hr.mono (by omega)) rfl D.d_good_from.mg D.d_good_from.fn.kp D.d_good_from.bd tk (jo_cons (je_sink (je_var 0)) (jo_cons (je_sink (je_tup (ja_nil))) (jo_cons (je_sink (je_var 1)) (jo_nil)))) (lenIs_cons (lenIs_cons (lenIs_cons (lenIs_nil)))))))
def M_is_plan : M Fl :=
  sSeq (sDrop (mCall (F_need_game) (oCons (mSink (mVar 0)) (oNil))))
  (sRet (mVal (mCall (F_good_plan) (oCons (mSink (mVar 0)) (oCons (mSink (mVar 1)) (oNil))))))
def F_is_plan : List Sl → FOut := runF 2 2 M_is_plan
set_option maxHeartbeats 1000000 in
theorem ok_is_plan (B : Bl mg) (D : Ds K mg) : FnOk P w K mg base (L2.CX P w) 17 D.f_is_plan D.e_is_plan ["game", "thing"] (spF K mg 2 F_is_plan) :=
  fn_ok D.d_is_plan.fn sc_is_plan fun cdv A outer s H E c hr tk pp => by
    have nd := sc_is_plan.nd
    exact jb_cons (js_expr (je_call (ok_need_game B D) (hr.mono (by omega)) rfl D.d_need_game.mg D.d_need_game.fn.kp D.d_need_game.bd tk (jo_cons (je_sink (je_var 0)) (jo_nil)) (lenIs_cons (lenIs_nil))))
          (jb_one (js_ret (jv_of (je_call (ok_good_plan B D) (hr.mono (by omega)) rfl D.d_good_plan.mg D.d_good_plan.fn.kp D.d_good_plan.bd tk (jo_cons (je_sink (je_var 0)) (jo_cons (je_sink (je_var 1)) (jo_nil))) (lenIs_cons (lenIs_cons (lenIs_nil)))))))
def M_need_plan : M Fl :=
  sSeq (sDrop (mCall (F_need_game) (oCons (mSink (mVar 0)) (oNil))))
  (sIf (bNot (mTru (mCall (F_good_plan) (oCons (mSink (mVar 0)) (oCons (mSink (mVar 1)) (oNil)))))) (sNever) (sNil))
def F_need_plan : List Sl → FOut := runF 2 2 M_need_plan
set_option maxHeartbeats 1000000 in
theorem ok_need_plan (B : Bl mg) (D : Ds K mg) : FnOk P w K mg base (L2.CX P w) 17 D.f_need_plan D.e_need_plan ["game", "plan"] (spF K mg 2 F_need_plan) :=
  fn_ok D.d_need_plan.fn sc_need_plan fun cdv A outer s H E c hr tk pp => by
    have nd := sc_need_plan.nd
    exact jb_cons (js_expr (je_call (ok_need_game B D) (hr.mono (by omega)) rfl D.d_need_game.mg D.d_need_game.fn.kp D.d_need_game.bd tk (jo_cons (je_sink (je_var 0)) (jo_nil)) (lenIs_cons (lenIs_nil))))
          (jb_one (js_if (jt_not (jt_val (je_call (ok_good_plan B D) (hr.mono (by omega)) rfl D.d_good_plan.mg D.d_good_plan.fn.kp D.d_good_plan.bd tk (jo_cons (je_sink (je_var 0)) (jo_cons (je_sink (je_var 1)) (jo_nil))) (lenIs_cons (lenIs_cons (lenIs_nil)))))) (jb_one (js_never)) (jb_nil)))
def M_need_thing : M Fl :=
  sIf (bNot (mTru (mCall (F_is_whole) (oCons (mSink (mVar 1)) (oCons (mC (.int 0)) (oCons (mSink (mBin (lift2 fSub) (mBin (lift2 fIx) (mVar 0) (mC (.int 0))) (mC (.int 1)))) (oNil))))))) (sNever) (sNil)
def F_need_thing : List Sl → FOut := runF 2 2 M_need_thing
set_option maxHeartbeats 1000000 in
theorem ok_need_thing (B : Bl mg) (D : Ds K mg) : FnOk P w K mg base (L2.CX P w) 2 D.f_need_thing D.e_need_thing ["game", "thing"] (spF K mg 2 F_need_thing) :=
  fn_ok D.d_need_thing.fn sc_need_thing fun cdv A outer s H E c hr tk pp => by
    have nd := sc_need_thing.nd
    exact jb_one (js_if (jt_not (jt_val (je_call (ok_is_whole B D) (hr.mono (by omega)) rfl D.d_is_whole.mg D.d_is_whole.fn.kp D.d_is_whole.bd tk (jo_cons (je_sink (je_var 1)) (jo_cons (je_int) (jo_cons (je_sink (je_bin o_sub (je_ix o_ix (je_var 0) (je_int)) (je_int))) (jo_nil)))) (lenIs_cons (lenIs_cons (lenIs_cons (lenIs_nil))))))) (jb_one (js_never)) (jb_nil))
abbrev C_answer_to_0 : M Bool :=
  mTru (mBin (lift2 fLe) (mVar 2) (mVar 1))
abbrev V_answer_to_0 : M PD :=
  mVal (mVar 2)
def M_answer_to : M Fl :=
  sRet (mVal (mCallB (liftN fLen) (oCons (mLc [2] (iVal (mVal (mVar 0))) (tName 2) ((C_answer_to_0)) ((V_answer_to_0))) (oNil))))
def F_answer_to : List Sl → FOut := runF 2 3 M_answer_to
set_option maxHeartbeats 1000000 in
theorem ok_answer_to (B : Bl mg) (D : Ds K mg) : FnOk P w K mg base (L2.CX P w) 1 D.f_answer_to D.e_answer_to ["cuts", "thing"] (spF K mg 2 F_answer_to) :=
  fn_ok D.d_answer_to.fn sc_answer_to fun cdv A outer s H E c hr tk pp => by
    have nd := sc_answer_to.nd
    exact jb_one (js_ret (jv_of (je_callB c_len rfl B.n_len PySem.boot_len (jo_cons (je_lc (own := [("cut", 2)]) rfl nd (ji_val (jv_of (je_var 0))) (blkOk_by (N := N_answer_to) (sc := (defScope s_answer_to)) (by decide +kernel)) (fun _ _ _ _ _ => jg_name (i := 2) nd rfl (by first | exact Or.inl rfl | exact Or.inr rfl)) (fun _ _ _ _ _ => jx_one (jt_cmp (o_le) (je_var 2) (je_var 1))) (fun _ _ _ _ _ => jv_of (je_var 2)) (by decide)) (jo_nil)))))
abbrev T_way_of_0 : M Bool :=
  mTru (mBin (lift2 fEq) (mBin (lift2 fIx) (mVar 1) (mC (.int 0))) (mC (.str "ask")))
abbrev B_way_of_0 : M Fl :=
  sSeq (sSet 3 (mSink (mBin (lift2 fAdd) (mVar 3) (mTup (mCons (mVal (mBin (lift2 fIx) (mVar 1) (mC (.int 1)))) (mNil))))))
  (sSet 1 (mSink (mBin (lift2 fIx) (mBin (lift2 fIx) (mVar 1) (mC (.int 2))) (mCall (F_answer_to) (oCons (mSink (mCall (F_due_of) (oCons (mSink (mBin (lift2 fIx) (mVar 0) (mC (.int 1)))) (oCons (mSink (mVar 3)) (oNil))))) (oCons (mSink (mVar 2)) (oNil)))))))
def M_way_of : M Fl :=
  sSeq (sSet 3 (mSink (mTup (mNil))))
  (sSeq (sWh ((T_way_of_0)) ((B_way_of_0)) 10000)
  (sRet (mVal (mVar 3))))
def F_way_of : List Sl → FOut := runF 3 4 M_way_of
set_option maxHeartbeats 1000000 in
theorem ok_way_of (B : Bl mg) (D : Ds K mg) : FnOk P w K mg base (L2.CX P w) 2 D.f_way_of D.e_way_of ["game", "plan", "thing"] (spF K mg 3 F_way_of) :=
  fn_ok D.d_way_of.fn sc_way_of fun cdv A outer s H E c hr tk pp => by
    have nd := sc_way_of.nd
    exact jb_cons (js_set (i := 3) nd rfl (by first | exact Or.inl rfl | exact Or.inr rfl) (je_sink (je_tup (ja_nil))))
          (jb_cons (js_while 10000 pp (jt_cmp (o_eq (hu64 hr)) (je_ix o_ix (je_var 1) (je_int)) (je_str)) (jb_cons (js_set (i := 3) nd rfl (by first | exact Or.inl rfl | exact Or.inr rfl) (je_sink (je_bin o_add (je_var 3) (je_tup (ja_cons (jv_of (je_ix o_ix (je_var 1) (je_int))) (ja_nil))))))
          (jb_one (js_set (i := 1) nd rfl (by first | exact Or.inl rfl | exact Or.inr rfl) (je_sink (je_ix o_ix (je_ix o_ix (je_var 1) (je_int)) (je_call (ok_answer_to B D) (hr.mono (by omega)) rfl D.d_answer_to.mg D.d_answer_to.fn.kp D.d_answer_to.bd tk (jo_cons (je_sink (je_call (ok_due_of B D) (hr.mono (by omega)) rfl D.d_due_of.mg D.d_due_of.fn.kp D.d_due_of.bd tk (jo_cons (je_sink (je_ix o_ix (je_var 0) (je_int))) (jo_cons (je_sink (je_var 3)) (jo_nil))) (lenIs_cons (lenIs_cons (lenIs_nil))))) (jo_cons (je_sink (je_var 2)) (jo_nil))) (lenIs_cons (lenIs_cons (lenIs_nil))))))))))
          (jb_one (js_ret (jv_of (je_var 3)))))
abbrev C_answers_to_0 : M Bool :=
  mTru (mBin (lift2 fNe) (mVar 2) (mTup (mNil)))
abbrev V_answers_to_0 : M PD :=
  mVal (mCall (F_answer_to) (oCons (mSink (mVar 2)) (oCons (mSink (mVar 1)) (oNil))))
def M_answers_to : M Fl :=
  sRet (mVal (mCallB (liftN fTuple) (oCons (mLc [2] (iVal (mVal (mVar 0))) (tName 2) ((C_answers_to_0)) ((V_answers_to_0))) (oNil))))
def F_answers_to : List Sl → FOut := runF 2 3 M_answers_to
set_option maxHeartbeats 1000000 in
theorem ok_answers_to (B : Bl mg) (D : Ds K mg) : FnOk P w K mg base (L2.CX P w) 2 D.f_answers_to D.e_answers_to ["put", "thing"] (spF K mg 2 F_answers_to) :=
  fn_ok D.d_answers_to.fn sc_answers_to fun cdv A outer s H E c hr tk pp => by
    have nd := sc_answers_to.nd
    exact jb_one (js_ret (jv_of (je_callTy c_tuple rfl B.n_tuple PyProof.Rows.boot_tuple (jo_cons (je_lc (own := [("cuts", 2)]) rfl nd (ji_val (jv_of (je_var 0))) (blkOk_by (N := N_answers_to) (sc := (defScope s_answers_to)) (by decide +kernel)) (fun _ _ _ _ _ => jg_name (i := 2) nd rfl (by first | exact Or.inl rfl | exact Or.inr rfl)) (fun _ _ _ _ _ => jx_one (jt_cmp (o_ne (hu64 hr)) (je_var 2) (je_tup (ja_nil)))) (fun _ _ _ _ _ => jv_of (je_call (ok_answer_to B D) (hr.mono (by omega)) rfl D.d_answer_to.mg D.d_answer_to.fn.kp D.d_answer_to.bd tk_nox (jo_cons (je_sink (je_var 2)) (jo_cons (je_sink (je_var 1)) (jo_nil))) (lenIs_cons (lenIs_cons (lenIs_nil))))) (by decide)) (jo_nil)))))
def M_need_all : M Fl :=
  sSeq (sDrop (mCall (F_need_plan) (oCons (mSink (mVar 0)) (oCons (mSink (mVar 1)) (oNil)))))
  (sDrop (mCall (F_need_thing) (oCons (mSink (mVar 0)) (oCons (mSink (mVar 2)) (oNil)))))
def F_need_all : List Sl → FOut := runF 3 3 M_need_all
set_option maxHeartbeats 1000000 in
theorem ok_need_all (B : Bl mg) (D : Ds K mg) : FnOk P w K mg base (L2.CX P w) 18 D.f_need_all D.e_need_all ["game", "plan", "thing"] (spF K mg 3 F_need_all) :=
  fn_ok D.d_need_all.fn sc_need_all fun cdv A outer s H E c hr tk pp => by
    have nd := sc_need_all.nd
    exact jb_cons (js_expr (je_call (ok_need_plan B D) (hr.mono (by omega)) rfl D.d_need_plan.mg D.d_need_plan.fn.kp D.d_need_plan.bd tk (jo_cons (je_sink (je_var 0)) (jo_cons (je_sink (je_var 1)) (jo_nil))) (lenIs_cons (lenIs_cons (lenIs_nil)))))
          (jb_one (js_expr (je_call (ok_need_thing B D) (hr.mono (by omega)) rfl D.d_need_thing.mg D.d_need_thing.fn.kp D.d_need_thing.bd tk (jo_cons (je_sink (je_var 0)) (jo_cons (je_sink (je_var 2)) (jo_nil))) (lenIs_cons (lenIs_cons (lenIs_nil))))))
def M_way : M Fl :=
  sSeq (sDrop (mCall (F_need_all) (oCons (mSink (mVar 0)) (oCons (mSink (mVar 1)) (oCons (mSink (mVar 2)) (oNil))))))
  (sRet (mVal (mCall (F_way_of) (oCons (mSink (mVar 0)) (oCons (mSink (mVar 1)) (oCons (mSink (mVar 2)) (oNil)))))))
def F_way : List Sl → FOut := runF 3 3 M_way
set_option maxHeartbeats 1000000 in
theorem ok_way (B : Bl mg) (D : Ds K mg) : FnOk P w K mg base (L2.CX P w) 19 D.f_way D.e_way ["game", "plan", "thing"] (spF K mg 3 F_way) :=
  fn_ok D.d_way.fn sc_way fun cdv A outer s H E c hr tk pp => by
    have nd := sc_way.nd
    exact jb_cons (js_expr (je_call (ok_need_all B D) (hr.mono (by omega)) rfl D.d_need_all.mg D.d_need_all.fn.kp D.d_need_all.bd tk (jo_cons (je_sink (je_var 0)) (jo_cons (je_sink (je_var 1)) (jo_cons (je_sink (je_var 2)) (jo_nil)))) (lenIs_cons (lenIs_cons (lenIs_cons (lenIs_nil))))))
          (jb_one (js_ret (jv_of (je_call (ok_way_of B D) (hr.mono (by omega)) rfl D.d_way_of.mg D.d_way_of.fn.kp D.d_way_of.bd tk (jo_cons (je_sink (je_var 0)) (jo_cons (je_sink (je_var 1)) (jo_cons (je_sink (je_var 2)) (jo_nil)))) (lenIs_cons (lenIs_cons (lenIs_cons (lenIs_nil))))))))
def M_heard : M Fl :=
  sSeq (sDrop (mCall (F_need_all) (oCons (mSink (mVar 0)) (oCons (mSink (mVar 1)) (oCons (mSink (mVar 2)) (oNil))))))
  (sRet (mVal (mCall (F_answers_to) (oCons (mSink (mCall (F_way_of) (oCons (mSink (mVar 0)) (oCons (mSink (mVar 1)) (oCons (mSink (mVar 2)) (oNil)))))) (oCons (mSink (mVar 2)) (oNil))))))
def F_heard : List Sl → FOut := runF 3 3 M_heard
set_option maxHeartbeats 1000000 in
theorem ok_heard (B : Bl mg) (D : Ds K mg) : FnOk P w K mg base (L2.CX P w) 19 D.f_heard D.e_heard ["game", "plan", "thing"] (spF K mg 3 F_heard) :=
  fn_ok D.d_heard.fn sc_heard fun cdv A outer s H E c hr tk pp => by
    have nd := sc_heard.nd
    exact jb_cons (js_expr (je_call (ok_need_all B D) (hr.mono (by omega)) rfl D.d_need_all.mg D.d_need_all.fn.kp D.d_need_all.bd tk (jo_cons (je_sink (je_var 0)) (jo_cons (je_sink (je_var 1)) (jo_cons (je_sink (je_var 2)) (jo_nil)))) (lenIs_cons (lenIs_cons (lenIs_cons (lenIs_nil))))))
          (jb_one (js_ret (jv_of (je_call (ok_answers_to B D) (hr.mono (by omega)) rfl D.d_answers_to.mg D.d_answers_to.fn.kp D.d_answers_to.bd tk (jo_cons (je_sink (je_call (ok_way_of B D) (hr.mono (by omega)) rfl D.d_way_of.mg D.d_way_of.fn.kp D.d_way_of.bd tk (jo_cons (je_sink (je_var 0)) (jo_cons (je_sink (je_var 1)) (jo_cons (je_sink (je_var 2)) (jo_nil)))) (lenIs_cons (lenIs_cons (lenIs_cons (lenIs_nil)))))) (jo_cons (je_sink (je_var 2)) (jo_nil))) (lenIs_cons (lenIs_cons (lenIs_nil)))))))
abbrev B_looks_of_0 : M Fl :=
  sSeq (sSet 4 (mSink (mCall (F_way_of) (oCons (mSink (mVar 0)) (oCons (mSink (mVar 1)) (oCons (mSink (mVar 3)) (oNil)))))))
  (sDrop (mApp 2 (mVal (mTup (mCons (mVal (mVar 4)) (mCons (mVal (mCall (F_answers_to) (oCons (mSink (mVar 4)) (oCons (mSink (mVar 3)) (oNil))))) (mNil)))))))
def M_looks_of : M Fl :=
  sSeq (sSet 2 (mLst (mNil)))
  (sSeq (sFor (iRow rng1 (mCons (mVal (mBin (lift2 fIx) (mVar 0) (mC (.int 0)))) (mNil))) (tName 3) ((B_looks_of_0)))
  (sRet (mVal (mVar 2))))
def F_looks_of : List Sl → FOut := runF 2 5 M_looks_of
set_option maxHeartbeats 1000000 in
theorem ok_looks_of (B : Bl mg) (D : Ds K mg) : FnOk P w K mg base (L2.CX P w) 3 D.f_looks_of D.e_looks_of ["game", "plan"] (spF K mg 2 F_looks_of) :=
  fn_ok D.d_looks_of.fn sc_looks_of fun cdv A outer s H E c hr tk pp => by
    have nd := sc_looks_of.nd
    exact jb_cons (js_set (i := 2) nd rfl (by first | exact Or.inl rfl | exact Or.inr rfl) (je_lst (ja_nil)))
          (jb_cons (js_for pp rfl (ji_range1 rfl B.n_range (ja_cons (jv_of (je_ix o_ix (je_var 0) (je_int))) (ja_nil))) (jg_name (i := 3) nd rfl (by first | exact Or.inl rfl | exact Or.inr rfl)) (jb_cons (js_set (i := 4) nd rfl (by first | exact Or.inl rfl | exact Or.inr rfl) (je_sink (je_call (ok_way_of B D) (hr.mono (by omega)) rfl D.d_way_of.mg D.d_way_of.fn.kp D.d_way_of.bd tk (jo_cons (je_sink (je_var 0)) (jo_cons (je_sink (je_var 1)) (jo_cons (je_sink (je_var 3)) (jo_nil)))) (lenIs_cons (lenIs_cons (lenIs_cons (lenIs_nil)))))))
          (jb_one (js_expr (je_app (pv 2) (jv_of (je_tup (ja_cons (jv_of (je_var 4)) (ja_cons (jv_of (je_call (ok_answers_to B D) (hr.mono (by omega)) rfl D.d_answers_to.mg D.d_answers_to.fn.kp D.d_answers_to.bd tk (jo_cons (je_sink (je_var 4)) (jo_cons (je_sink (je_var 3)) (jo_nil))) (lenIs_cons (lenIs_cons (lenIs_nil))))) (ja_nil))))))))))
          (jb_one (js_ret (jv_of (je_var 2)))))
abbrev B_parts_of_0 : M Fl :=
  sNSet 2 (mVal (mVar 4)) (mVal (mBin (lift2 fAdd) (mNGet2 2 (mVal (mVar 4)) (mVal (mLst (mNil)))) (mLst (mCons (mVal (mVar 3)) (mNil)))))
abbrev V_parts_of_0 : M PD :=
  mVal (mNGet 2 (mVal (mVar 4)))
def M_parts_of : M Fl :=
  sSeq (sSet 2 (mNewN))
  (sSeq (sFor (iRow enumF (mCons (mVal (mCall (F_looks_of) (oCons (mSink (mVar 0)) (oCons (mSink (mVar 1)) (oNil))))) (mNil))) (tTupT [3, 4]) ((B_parts_of_0)))
  (sRet (mVal (mCallB (liftN fSorted) (oCons (mLc [4] (iKeyN (mVal (mVar 2))) (tName 4) (xYes) ((V_parts_of_0))) (oNil))))))
def F_parts_of : List Sl → FOut := runF 2 5 M_parts_of
set_option maxHeartbeats 1000000 in
theorem ok_parts_of (B : Bl mg) (D : Ds K mg) : FnOk P w K mg base (L2.CX P w) 4 D.f_parts_of D.e_parts_of ["game", "plan"] (spF K mg 2 F_parts_of) :=
  fn_ok D.d_parts_of.fn sc_parts_of fun cdv A outer s H E c hr tk pp => by
    have nd := sc_parts_of.nd
    exact jb_cons (js_set (i := 2) nd rfl (by first | exact Or.inl rfl | exact Or.inr rfl) (je_nnew))
          (jb_cons (js_for pp rfl (ji_enumL rfl B.n_enumerate (ja_cons (jv_of (je_call (ok_looks_of B D) (hr.mono (by omega)) rfl D.d_looks_of.mg D.d_looks_of.fn.kp D.d_looks_of.bd tk (jo_cons (je_sink (je_var 0)) (jo_cons (je_sink (je_var 1)) (jo_nil))) (lenIs_cons (lenIs_cons (lenIs_nil))))) (ja_nil))) (jg_tup rfl nd (JGs.cons (i := 3) rfl (by first | exact Or.inl rfl | exact Or.inr rfl) (by first | exact Or.inl rfl | exact Or.inr rfl) rfl (JGs.cons (i := 4) rfl (by first | exact Or.inl rfl | exact Or.inr rfl) (by first | exact Or.inl rfl | exact Or.inr rfl) rfl (JGs.nil)))) (jb_one (js_nset (hu64 hr) (pv 2) (jv_of (je_var 4)) (jv_of (je_bin o_add (je_nget2 (hu64 hr) (pv 2) (jv_of (je_var 4)) (jv_of (je_lst (ja_nil))) ⟨rfl, rfl, rfl, rfl⟩) (je_lst (ja_cons (jv_of (je_var 3)) (ja_nil))))))))
          (jb_one (js_ret (jv_of (je_callB (c_sorted hr) rfl B.n_sorted PyProof.Rows.boot_sorted (jo_cons (je_lc (own := [("look", 4)]) rfl nd (ji_keyN (jv_of (je_var 2))) (blkOk_by (N := N_parts_of) (sc := (defScope s_parts_of)) (by decide +kernel)) (fun _ _ _ _ _ => jg_name (i := 4) nd rfl (by first | exact Or.inl rfl | exact Or.inr rfl)) (fun _ _ _ _ _ => jx_nil) (fun _ _ _ _ _ => jv_of (je_nget (hu64 hr) (pv 2) (jv_of (je_var 4)) (fun _ _ => rfl))) (by decide)) (jo_nil)))))))
def M_parts : M Fl :=
  sSeq (sDrop (mCall (F_need_plan) (oCons (mSink (mVar 0)) (oCons (mSink (mVar 1)) (oNil)))))
  (sRet (mVal (mCall (F_parts_of) (oCons (mSink (mVar 0)) (oCons (mSink (mVar 1)) (oNil))))))
def F_parts : List Sl → FOut := runF 2 2 M_parts
set_option maxHeartbeats 1000000 in
theorem ok_parts (B : Bl mg) (D : Ds K mg) : FnOk P w K mg base (L2.CX P w) 18 D.f_parts D.e_parts ["game", "plan"] (spF K mg 2 F_parts) :=
  fn_ok D.d_parts.fn sc_parts fun cdv A outer s H E c hr tk pp => by
    have nd := sc_parts.nd
    exact jb_cons (js_expr (je_call (ok_need_plan B D) (hr.mono (by omega)) rfl D.d_need_plan.mg D.d_need_plan.fn.kp D.d_need_plan.bd tk (jo_cons (je_sink (je_var 0)) (jo_cons (je_sink (je_var 1)) (jo_nil))) (lenIs_cons (lenIs_cons (lenIs_nil)))))
          (jb_one (js_ret (jv_of (je_call (ok_parts_of B D) (hr.mono (by omega)) rfl D.d_parts_of.mg D.d_parts_of.fn.kp D.d_parts_of.bd tk (jo_cons (je_sink (je_var 0)) (jo_cons (je_sink (je_var 1)) (jo_nil))) (lenIs_cons (lenIs_cons (lenIs_nil)))))))
def M_finds_all : M Fl :=
  sSeq (sDrop (mCall (F_need_plan) (oCons (mSink (mVar 0)) (oCons (mSink (mVar 1)) (oNil)))))
  (sRet (mVal (mBin (lift2 fEq) (mCallB (liftN fLen) (oCons (mCall (F_parts_of) (oCons (mSink (mVar 0)) (oCons (mSink (mVar 1)) (oNil)))) (oNil))) (mBin (lift2 fIx) (mVar 0) (mC (.int 0))))))
def F_finds_all : List Sl → FOut := runF 2 2 M_finds_all
set_option maxHeartbeats 1000000 in
theorem ok_finds_all (B : Bl mg) (D : Ds K mg) : FnOk P w K mg base (L2.CX P w) 18 D.f_finds_all D.e_finds_all ["game", "plan"] (spF K mg 2 F_finds_all) :=
  fn_ok D.d_finds_all.fn sc_finds_all fun cdv A outer s H E c hr tk pp => by
    have nd := sc_finds_all.nd
    exact jb_cons (js_expr (je_call (ok_need_plan B D) (hr.mono (by omega)) rfl D.d_need_plan.mg D.d_need_plan.fn.kp D.d_need_plan.bd tk (jo_cons (je_sink (je_var 0)) (jo_cons (je_sink (je_var 1)) (jo_nil))) (lenIs_cons (lenIs_cons (lenIs_nil)))))
          (jb_one (js_ret (jv_of (je_cmp (o_eq (hu64 hr)) (je_callB c_len rfl B.n_len PySem.boot_len (jo_cons (je_call (ok_parts_of B D) (hr.mono (by omega)) rfl D.d_parts_of.mg D.d_parts_of.fn.kp D.d_parts_of.bd tk (jo_cons (je_sink (je_var 0)) (jo_cons (je_sink (je_var 1)) (jo_nil))) (lenIs_cons (lenIs_cons (lenIs_nil)))) (jo_nil))) (je_ix o_ix (je_var 0) (je_int))))))
abbrev B_not_parted_0 : M Fl :=
  sIf (mTru (mBin (lift2 fGt) (mCallB (liftN fLen) (oCons (mVar 2) (oNil))) (mC (.int 1)))) (sRet (mVal (mTup (mCons (mVal (mBin (lift2 fIx) (mVar 2) (mC (.int 0)))) (mCons (mVal (mBin (lift2 fIx) (mVar 2) (mC (.int 1)))) (mNil)))))) (sNil)
def M_not_parted : M Fl :=
  sSeq (sDrop (mCall (F_need_plan) (oCons (mSink (mVar 0)) (oCons (mSink (mVar 1)) (oNil)))))
  (sSeq (sFor (iVal (mVal (mCall (F_parts_of) (oCons (mSink (mVar 0)) (oCons (mSink (mVar 1)) (oNil)))))) (tName 2) ((B_not_parted_0)))
  (sRet (mVal (mC .none))))
def F_not_parted : List Sl → FOut := runF 2 3 M_not_parted
set_option maxHeartbeats 1000000 in
theorem ok_not_parted (B : Bl mg) (D : Ds K mg) : FnOk P w K mg base (L2.CX P w) 18 D.f_not_parted D.e_not_parted ["game", "plan"] (spF K mg 2 F_not_parted) :=
  fn_ok D.d_not_parted.fn sc_not_parted fun cdv A outer s H E c hr tk pp => by
    have nd := sc_not_parted.nd
    exact jb_cons (js_expr (je_call (ok_need_plan B D) (hr.mono (by omega)) rfl D.d_need_plan.mg D.d_need_plan.fn.kp D.d_need_plan.bd tk (jo_cons (je_sink (je_var 0)) (jo_cons (je_sink (je_var 1)) (jo_nil))) (lenIs_cons (lenIs_cons (lenIs_nil)))))
          (jb_cons (js_for pp rfl (ji_val (jv_of (je_call (ok_parts_of B D) (hr.mono (by omega)) rfl D.d_parts_of.mg D.d_parts_of.fn.kp D.d_parts_of.bd tk (jo_cons (je_sink (je_var 0)) (jo_cons (je_sink (je_var 1)) (jo_nil))) (lenIs_cons (lenIs_cons (lenIs_nil)))))) (jg_name (i := 2) nd rfl (by first | exact Or.inl rfl | exact Or.inr rfl)) (jb_one (js_if (jt_cmp (o_gt) (je_callB c_len rfl B.n_len PySem.boot_len (jo_cons (je_var 2) (jo_nil))) (je_int)) (jb_one (js_ret (jv_of (je_tup (ja_cons (jv_of (je_ix o_ix (je_var 2) (je_int))) (ja_cons (jv_of (je_ix o_ix (je_var 2) (je_int))) (ja_nil))))))) (jb_nil))))
          (jb_one (js_ret (jv_of (je_non)))))
abbrev B_narrowed_0 : M Fl :=
  sIf (mTru (mBin (lift2 fLt) (mVar 2) (mVar 5))) (sSet 4 (mSink (mCallB (liftN fMin2) (oCons (mVar 4) (oCons (mVar 5) (oNil)))))) (sSet 3 (mSink (mCallB (liftN fMax2) (oCons (mVar 3) (oCons (mVar 5) (oNil))))))
def M_narrowed : M Fl :=
  sSeq (sAsg (tTupT [3, 4]) (mVal (mVar 0)))
  (sSeq (sFor (iVal (mVal (mVar 1))) (tName 5) ((B_narrowed_0)))
  (sRet (mVal (mTup (mCons (mVal (mVar 3)) (mCons (mVal (mVar 4)) (mNil)))))))
def F_narrowed : List Sl → FOut := runF 3 6 M_narrowed
set_option maxHeartbeats 1000000 in
theorem ok_narrowed (B : Bl mg) (D : Ds K mg) : FnOk P w K mg base (L2.CX P w) 1 D.f_narrowed D.e_narrowed ["stretch", "cuts", "thing"] (spF K mg 3 F_narrowed) :=
  fn_ok D.d_narrowed.fn sc_narrowed fun cdv A outer s H E c hr tk pp => by
    have nd := sc_narrowed.nd
    exact jb_cons (js_asg (jv_of (je_var 0)) (jg_tup rfl nd (JGs.cons (i := 3) rfl (by first | exact Or.inl rfl | exact Or.inr rfl) (by first | exact Or.inl rfl | exact Or.inr rfl) rfl (JGs.cons (i := 4) rfl (by first | exact Or.inl rfl | exact Or.inr rfl) (by first | exact Or.inl rfl | exact Or.inr rfl) rfl (JGs.nil)))))
          (jb_cons (js_for pp rfl (ji_val (jv_of (je_var 1))) (jg_name (i := 5) nd rfl (by first | exact Or.inl rfl | exact Or.inr rfl)) (jb_one (js_if (jt_cmp (o_lt) (je_var 2) (je_var 5)) (jb_one (js_set (i := 4) nd rfl (by first | exact Or.inl rfl | exact Or.inr rfl) (je_sink (je_callB (c_min2 rfl) rfl B.n_min PyProof.Rows.boot_min (jo_cons (je_var 4) (jo_cons (je_var 5) (jo_nil))))))) (jb_one (js_set (i := 3) nd rfl (by first | exact Or.inl rfl | exact Or.inr rfl) (je_sink (je_callB (c_max2 rfl) rfl B.n_max PyProof.Rows.boot_max (jo_cons (je_var 3) (jo_cons (je_var 5) (jo_nil))))))))))
          (jb_one (js_ret (jv_of (je_tup (ja_cons (jv_of (je_var 3)) (ja_cons (jv_of (je_var 4)) (ja_nil))))))))
abbrev B_idle_0 : M Fl :=
  sSeq (sSet 7 (mSink (mCall (F_narrowed) (oCons (mSink (mVar 4)) (oCons (mSink (mVar 6)) (oCons (mSink (mVar 2)) (oNil)))))))
  (sSeq (sIf (mTru (mBin (lift2 fEq) (mVar 7) (mVar 4))) (sDrop (mApp 3 (mVal (mVar 5)))) (sNil))
  (sSet 4 (mSink (mVar 7))))
def M_idle : M Fl :=
  sSeq (sDrop (mCall (F_need_all) (oCons (mSink (mVar 0)) (oCons (mSink (mVar 1)) (oCons (mSink (mVar 2)) (oNil))))))
  (sSeq (sPar [3, 4] (oCons (mLst (mNil)) (oCons (mSink (mTup (mCons (mVal (mC (.int 0))) (mCons (mVal (mBin (lift2 fIx) (mVar 0) (mC (.int 0)))) (mNil))))) (oNil))))
  (sSeq (sFor (iRow enumFT (mCons (mVal (mCall (F_way_of) (oCons (mSink (mVar 0)) (oCons (mSink (mVar 1)) (oCons (mSink (mVar 2)) (oNil)))))) (mNil))) (tTupT [5, 6]) ((B_idle_0)))
  (sRet (mVal (mVar 3)))))
def F_idle : List Sl → FOut := runF 3 8 M_idle
set_option maxHeartbeats 1000000 in
theorem ok_idle (B : Bl mg) (D : Ds K mg) : FnOk P w K mg base (L2.CX P w) 19 D.f_idle D.e_idle ["game", "plan", "thing"] (spF K mg 3 F_idle) :=
  fn_ok D.d_idle.fn sc_idle fun cdv A outer s H E c hr tk pp => by
    have nd := sc_idle.nd
    exact jb_cons (js_expr (je_call (ok_need_all B D) (hr.mono (by omega)) rfl D.d_need_all.mg D.d_need_all.fn.kp D.d_need_all.bd tk (jo_cons (je_sink (je_var 0)) (jo_cons (je_sink (je_var 1)) (jo_cons (je_sink (je_var 2)) (jo_nil)))) (lenIs_cons (lenIs_cons (lenIs_cons (lenIs_nil))))))
          (jb_cons (js_par2 (i := 3) (j := 4) rfl nd rfl rfl (by decide) rfl rfl (jo_cons (je_lst (ja_nil)) (jo_cons (je_sink (je_tup (ja_cons (jv_of (je_int)) (ja_cons (jv_of (je_ix o_ix (je_var 0) (je_int))) (ja_nil))))) (jo_nil))))
          (jb_cons (js_for pp rfl (ji_enumT rfl B.n_enumerate (ja_cons (jv_of (je_call (ok_way_of B D) (hr.mono (by omega)) rfl D.d_way_of.mg D.d_way_of.fn.kp D.d_way_of.bd tk (jo_cons (je_sink (je_var 0)) (jo_cons (je_sink (je_var 1)) (jo_cons (je_sink (je_var 2)) (jo_nil)))) (lenIs_cons (lenIs_cons (lenIs_cons (lenIs_nil)))))) (ja_nil))) (jg_tup rfl nd (JGs.cons (i := 5) rfl (by first | exact Or.inl rfl | exact Or.inr rfl) (by first | exact Or.inl rfl | exact Or.inr rfl) rfl (JGs.cons (i := 6) rfl (by first | exact Or.inl rfl | exact Or.inr rfl) (by first | exact Or.inl rfl | exact Or.inr rfl) rfl (JGs.nil)))) (jb_cons (js_set (i := 7) nd rfl (by first | exact Or.inl rfl | exact Or.inr rfl) (je_sink (je_call (ok_narrowed B D) (hr.mono (by omega)) rfl D.d_narrowed.mg D.d_narrowed.fn.kp D.d_narrowed.bd tk (jo_cons (je_sink (je_var 4)) (jo_cons (je_sink (je_var 6)) (jo_cons (je_sink (je_var 2)) (jo_nil)))) (lenIs_cons (lenIs_cons (lenIs_cons (lenIs_nil)))))))
          (jb_cons (js_if (jt_cmp (o_eq (hu64 hr)) (je_var 7) (je_var 4)) (jb_one (js_expr (je_app (pv 3) (jv_of (je_var 5))))) (jb_nil))
          (jb_one (js_set (i := 4) nd rfl (by first | exact Or.inl rfl | exact Or.inr rfl) (je_sink (je_var 7)))))))
          (jb_one (js_ret (jv_of (je_var 3))))))
abbrev B__law_cell_at_0 : M Fl :=
  sSet 2 (mSink (mBin (lift2 fDiv) (mVar 2) (mC (.int 1000003))))
def M__law_cell_at : M Fl :=
  sSeq (sIf (mTru (mBin (lift2 fLt) (mVar 1) (mCallB (liftN fLenS) (oCons (mVar 0) (oNil))))) (sRet (mVal (mBin (lift2 fIxS) (mVar 0) (mVar 1)))) (sNil))
  (sSeq (sIf (mTru (mBin (lift2 fEqS) (mVar 0) (mLst (mNil)))) (sRet (mVal (mC (.int 0)))) (sNil))
  (sSeq (sSet 2 (mSink (mBin (lift2 fIxS) (mVar 0) (mBin (lift2 fMod) (mVar 1) (mCallB (liftN fLenS) (oCons (mVar 0) (oNil)))))))
  (sSeq (sFor (iRow rng1 (mCons (mVal (mCallB (liftN fMin2) (oCons (mBin (lift2 fDiv) (mVar 1) (mCallB (liftN fLenS) (oCons (mVar 0) (oNil)))) (oCons (mC (.int 60)) (oNil))))) (mNil))) (tName 3) ((B__law_cell_at_0)))
  (sRet (mVal (mBin (lift2 fAdd) (mBin (lift2 fAdd) (mBin (lift2 fMul) (mBin (lift2 fIxS) (mVar 0) (mBin (lift2 fMod) (mVar 1) (mCallB (liftN fLenS) (oCons (mVar 0) (oNil))))) (mC (.int 31))) (mVar 1)) (mBin (lift2 fMul) (mVar 2) (mC (.int 101)))))))))
def F__law_cell_at : List Sl → FOut := runF 2 4 M__law_cell_at
set_option maxHeartbeats 1000000 in
theorem ok__law_cell_at (B : Bl mg) (D : Ds K mg) : FnOk P w K mg base (L2.CX P w) 1 D.f__law_cell_at D.e__law_cell_at ["_law_script", "_law_k"] (spF K mg 2 F__law_cell_at) :=
  fn_ok D.d__law_cell_at.fn sc__law_cell_at fun cdv A outer s H E c hr tk pp => by
    have nd := sc__law_cell_at.nd
    exact jb_cons (js_if (jt_cmp (o_lt) (je_var 1) (je_callB c_lenS rfl B.n_len PySem.boot_len (jo_cons (je_var 0) (jo_nil)))) (jb_one (js_ret (jv_of (je_ix o_ixS (je_var 0) (je_var 1))))) (jb_nil))
          (jb_cons (js_if (jt_cmp (o_eqS (hu64 hr)) (je_var 0) (je_lst (ja_nil))) (jb_one (js_ret (jv_of (je_int)))) (jb_nil))
          (jb_cons (js_set (i := 2) nd rfl (by first | exact Or.inl rfl | exact Or.inr rfl) (je_sink (je_ix o_ixS (je_var 0) (je_bin o_mod (je_var 1) (je_callB c_lenS rfl B.n_len PySem.boot_len (jo_cons (je_var 0) (jo_nil)))))))
          (jb_cons (js_for pp rfl (ji_range1 rfl B.n_range (ja_cons (jv_of (je_callB (c_min2 rfl) rfl B.n_min PyProof.Rows.boot_min (jo_cons (je_bin o_div (je_var 1) (je_callB c_lenS rfl B.n_len PySem.boot_len (jo_cons (je_var 0) (jo_nil)))) (jo_cons (je_int) (jo_nil))))) (ja_nil))) (jg_name (i := 3) nd rfl (by first | exact Or.inl rfl | exact Or.inr rfl)) (jb_one (js_set (i := 2) nd rfl (by first | exact Or.inl rfl | exact Or.inr rfl) (je_sink (je_bin o_div (je_var 2) (je_int))))))
          (jb_one (js_ret (jv_of (je_bin o_add (je_bin o_add (je_bin o_mul (je_ix o_ixS (je_var 0) (je_bin o_mod (je_var 1) (je_callB c_lenS rfl B.n_len PySem.boot_len (jo_cons (je_var 0) (jo_nil))))) (je_int)) (je_var 1)) (je_bin o_mul (je_var 2) (je_int)))))))))
def M__law_mixed : M Fl :=
  sSeq (sSet 3 (mSink (mBin (lift2 fMod) (mBin (lift2 fAdd) (mBin (lift2 fAdd) (mBin (lift2 fMul) (mCall (F__law_cell_at) (oCons (mSink (mVar 0)) (oCons (mSink (mVar 1)) (oNil)))) (mC (.int 1103515245))) (mBin (lift2 fMul) (mC (.int 7919)) (mVar 1))) (mC (.int 12345))) (mC (.int 2147483647)))))
  (sRet (mVal (mBin (lift2 fMod) (mBin (lift2 fMod) (mBin (lift2 fMod) (mBin (lift2 fPow) (mVar 3) (mC (.int 5))) (mC (.int 2147483647))) (mC (.int 999983))) (mVar 2))))
def F__law_mixed : List Sl → FOut := runF 3 4 M__law_mixed
set_option maxHeartbeats 1000000 in
theorem ok__law_mixed (B : Bl mg) (D : Ds K mg) : FnOk P w K mg base (L2.CX P w) 2 D.f__law_mixed D.e__law_mixed ["_law_script", "_law_k", "_law_bound"] (spF K mg 3 F__law_mixed) :=
  fn_ok D.d__law_mixed.fn sc__law_mixed fun cdv A outer s H E c hr tk pp => by
    have nd := sc__law_mixed.nd
    exact jb_cons (js_set (i := 3) nd rfl (by first | exact Or.inl rfl | exact Or.inr rfl) (je_sink (je_bin o_mod (je_bin o_add (je_bin o_add (je_bin o_mul (je_call (ok__law_cell_at B D) (hr.mono (by omega)) rfl D.d__law_cell_at.mg D.d__law_cell_at.fn.kp D.d__law_cell_at.bd tk (jo_cons (je_sink (je_var 0)) (jo_cons (je_sink (je_var 1)) (jo_nil))) (lenIs_cons (lenIs_cons (lenIs_nil)))) (je_int)) (je_bin o_mul (je_int) (je_var 1))) (je_int)) (je_int))))
          (jb_one (js_ret (jv_of (je_bin o_mod (je_bin o_mod (je_bin o_mod (je_bin o_pow (je_var 3) (je_int)) (je_int)) (je_int)) (je_var 2)))))
def M__law_draw : M Fl :=
  sSeq (sDrop (mApp 1 (mVal (mC (.int 0)))))
  (sRet (mVal (mCall (F__law_mixed) (oCons (mSink (mVar 0)) (oCons (mSink (mCallB (liftN fLen) (oCons (mVar 1) (oNil)))) (oCons (mSink (mVar 2)) (oNil)))))))
def F__law_draw : List Sl → FOut := runF 3 3 M__law_draw
set_option maxHeartbeats 1000000 in
theorem ok__law_draw (B : Bl mg) (D : Ds K mg) : FnOk P w K mg base (L2.CX P w) 3 D.f__law_draw D.e__law_draw ["_law_script", "_law_town", "_law_bound"] (spF K mg 3 F__law_draw) :=
  fn_ok D.d__law_draw.fn sc__law_draw fun cdv A outer s H E c hr tk pp => by
    have nd := sc__law_draw.nd
    exact jb_cons (js_expr (je_app (pv 1) (jv_of (je_int))))
          (jb_one (js_ret (jv_of (je_call (ok__law_mixed B D) (hr.mono (by omega)) rfl D.d__law_mixed.mg D.d__law_mixed.fn.kp D.d__law_mixed.bd tk (jo_cons (je_sink (je_var 0)) (jo_cons (je_sink (je_callB c_len rfl B.n_len PySem.boot_len (jo_cons (je_var 1) (jo_nil)))) (jo_cons (je_sink (je_var 2)) (jo_nil)))) (lenIs_cons (lenIs_cons (lenIs_cons (lenIs_nil))))))))
def M__law_pick : M Fl :=
  sRet (mVal (mBin (lift2 fIx) (mVar 2) (mCall (F__law_draw) (oCons (mSink (mVar 0)) (oCons (mVar 1) (oCons (mSink (mCallB (liftN fLen) (oCons (mVar 2) (oNil)))) (oNil)))))))
def F__law_pick : List Sl → FOut := runF 3 3 M__law_pick
set_option maxHeartbeats 1000000 in
theorem ok__law_pick (B : Bl mg) (D : Ds K mg) : FnOk P w K mg base (L2.CX P w) 4 D.f__law_pick D.e__law_pick ["_law_script", "_law_town", "_law_some"] (spF K mg 3 F__law_pick) :=
  fn_ok D.d__law_pick.fn sc__law_pick fun cdv A outer s H E c hr tk pp => by
    have nd := sc__law_pick.nd
    exact jb_one (js_ret (jv_of (je_ix o_ix (je_var 2) (je_call (ok__law_draw B D) (hr.mono (by omega)) rfl D.d__law_draw.mg D.d__law_draw.fn.kp D.d__law_draw.bd tk (jo_cons (je_sink (je_var 0)) (jo_cons (je_var 1) (jo_cons (je_sink (je_callB c_len rfl B.n_len PySem.boot_len (jo_cons (je_var 2) (jo_nil)))) (jo_nil)))) (lenIs_cons (lenIs_cons (lenIs_cons (lenIs_nil))))))))
def M__law_same_truth : M Fl :=
  sRet (mVal (mAnd (mTru (mUn (lift1 (fIsi .bool)) (mVar 0))) (mBin (lift2 fEq) (mVar 0) (mVar 1))))
def F__law_same_truth : List Sl → FOut := runF 2 2 M__law_same_truth
set_option maxHeartbeats 1000000 in
theorem ok__law_same_truth (B : Bl mg) (D : Ds K mg) : FnOk P w K mg base (L2.CX P w) 1 D.f__law_same_truth D.e__law_same_truth ["_law_got", "_law_due_here"] (spF K mg 2 F__law_same_truth) :=
  fn_ok D.d__law_same_truth.fn sc__law_same_truth fun cdv A outer s H E c hr tk pp => by
    have nd := sc__law_same_truth.nd
    exact jb_one (js_ret (jv_of (je_and (je_isi .bool (je_var 0) rfl B.n_isinstance rfl B.n_bool PyProof.Rows.boot_bool) (je_one (je_cmp (o_eq (hu64 hr)) (je_var 0) (je_var 1))))))
abbrev B__law_count_0 : M Fl :=
  sSetIx 2 (mVar 3) (mVal (mBin (lift2 fAdd) (mBin (lift2 fIx) (mVar 2) (mBin (lift2 fAdd) (mVar 3) (mC (.int 1)))) (mBin (lift2 fMul) (mBin (lift2 fIx) (mVar 1) (mVar 3)) (mBin (lift2 fIx) (mVar 2) (mBin (lift2 fAdd) (mBin (lift2 fAdd) (mVar 3) (mC (.int 1))) (mVar 0))))))
def M__law_count : M Fl :=
  sSeq (sSet 2 (mRep (mLst (mCons (mVal (mC (.int 1))) (mNil))) (mBin (lift2 fAdd) (mBin (lift2 fAdd) (mCallB (liftN fLen) (oCons (mVar 1) (oNil))) (mVar 0)) (mC (.int 2)))))
  (sSeq (sFor (iVal (mVal (mUn (lift1 fRev) (mListRg (rg1 (mCallB (liftN fLen) (oCons (mVar 1) (oNil)))))))) (tName 3) ((B__law_count_0)))
  (sRet (mVal (mBin (lift2 fIx) (mVar 2) (mC (.int 0))))))
def F__law_count : List Sl → FOut := runF 2 4 M__law_count
set_option maxHeartbeats 1000000 in
theorem ok__law_count (B : Bl mg) (D : Ds K mg) : FnOk P w K mg base (L2.CX P w) 1 D.f__law_count D.e__law_count ["_law_late", "_law_beats"] (spF K mg 2 F__law_count) :=
  fn_ok D.d__law_count.fn sc__law_count fun cdv A outer s H E c hr tk pp => by
    have nd := sc__law_count.nd
    exact jb_cons (js_set (i := 2) nd rfl (by first | exact Or.inl rfl | exact Or.inr rfl) (je_rep (je_lst (ja_cons (jv_of (je_int)) (ja_nil))) (je_bin o_add (je_bin o_add (je_callB c_len rfl B.n_len PySem.boot_len (jo_cons (je_var 1) (jo_nil))) (je_var 0)) (je_int))))
          (jb_cons (js_for pp rfl (ji_val (jv_of (je_revL (je_listRg rfl rfl B.n_list (prm_1 rfl B.n_range (je_callB c_len rfl B.n_len PySem.boot_len (jo_cons (je_var 1) (jo_nil)))))))) (jg_name (i := 3) nd rfl (by first | exact Or.inl rfl | exact Or.inr rfl)) (jb_one (js_setIx (pv 2) (je_var 3) (jv_of (je_bin o_add (je_ix o_ix (je_var 2) (je_bin o_add (je_var 3) (je_int))) (je_bin o_mul (je_ix o_ix (je_var 1) (je_var 3)) (je_ix o_ix (je_var 2) (je_bin o_add (je_bin o_add (je_var 3) (je_int)) (je_var 0)))))))))
          (jb_one (js_ret (jv_of (je_ix o_ix (je_var 2) (je_int))))))
abbrev B__law_some_beats_0 : M Fl :=
  sDrop (mApp 3 (mVal (mBin (lift2 fIx) (mLst (mCons (mVal (mC (.int 1))) (mCons (mVal (mC (.int 1))) (mCons (mVal (mC (.int 1))) (mCons (mVal (mC (.int 2))) (mCons (mVal (mC (.int 0))) (mCons (mVal (mCall (F__law_draw) (oCons (mSink (mVar 0)) (oCons (mVar 1) (oCons (mC (.int 4)) (oNil)))))) (mNil)))))))) (mCall (F__law_draw) (oCons (mSink (mVar 0)) (oCons (mVar 1) (oCons (mC (.int 6)) (oNil))))))))
def M__law_some_beats : M Fl :=
  sSeq (sSet 3 (mLst (mNil)))
  (sSeq (sFor (iRow rng1 (mCons (mVal (mCall (F__law_draw) (oCons (mSink (mVar 0)) (oCons (mVar 1) (oCons (mSink (mBin (lift2 fAdd) (mVar 2) (mC (.int 1)))) (oNil)))))) (mNil))) (tName 4) ((B__law_some_beats_0)))
  (sRet (mVal (mCallB (liftN fTuple) (oCons (mVar 3) (oNil))))))
def F__law_some_beats : List Sl → FOut := runF 3 5 M__law_some_beats
set_option maxHeartbeats 1000000 in
theorem ok__law_some_beats (B : Bl mg) (D : Ds K mg) : FnOk P w K mg base (L2.CX P w) 4 D.f__law_some_beats D.e__law_some_beats ["_law_script", "_law_town", "_law_most_there"] (spF K mg 3 F__law_some_beats) :=
  fn_ok D.d__law_some_beats.fn sc__law_some_beats fun cdv A outer s H E c hr tk pp => by
    have nd := sc__law_some_beats.nd
    exact jb_cons (js_set (i := 3) nd rfl (by first | exact Or.inl rfl | exact Or.inr rfl) (je_lst (ja_nil)))
          (jb_cons (js_for pp rfl (ji_range1 rfl B.n_range (ja_cons (jv_of (je_call (ok__law_draw B D) (hr.mono (by omega)) rfl D.d__law_draw.mg D.d__law_draw.fn.kp D.d__law_draw.bd tk (jo_cons (je_sink (je_var 0)) (jo_cons (je_var 1) (jo_cons (je_sink (je_bin o_add (je_var 2) (je_int))) (jo_nil)))) (lenIs_cons (lenIs_cons (lenIs_cons (lenIs_nil)))))) (ja_nil))) (jg_name (i := 4) nd rfl (by first | exact Or.inl rfl | exact Or.inr rfl)) (jb_one (js_expr (je_app (pv 3) (jv_of (je_ix o_ix (je_lst (ja_cons (jv_of (je_int)) (ja_cons (jv_of (je_int)) (ja_cons (jv_of (je_int)) (ja_cons (jv_of (je_int)) (ja_cons (jv_of (je_int)) (ja_cons (jv_of (je_call (ok__law_draw B D) (hr.mono (by omega)) rfl D.d__law_draw.mg D.d__law_draw.fn.kp D.d__law_draw.bd tk (jo_cons (je_sink (je_var 0)) (jo_cons (je_var 1) (jo_cons (je_int) (jo_nil)))) (lenIs_cons (lenIs_cons (lenIs_cons (lenIs_nil)))))) (ja_nil)))))))) (je_call (ok__law_draw B D) (hr.mono (by omega)) rfl D.d__law_draw.mg D.d__law_draw.fn.kp D.d__law_draw.bd tk (jo_cons (je_sink (je_var 0)) (jo_cons (je_var 1) (jo_cons (je_int) (jo_nil)))) (lenIs_cons (lenIs_cons (lenIs_cons (lenIs_nil)))))))))))
          (jb_one (js_ret (jv_of (je_callTy c_tuple rfl B.n_tuple PyProof.Rows.boot_tuple (jo_cons (je_var 3) (jo_nil)))))))
def M__law_some_game : M Fl :=
  sSeq (sPar [3, 4] (oCons (mSink (mCall (F__law_draw) (oCons (mSink (mVar 0)) (oCons (mVar 1) (oCons (mC (.int 6)) (oNil)))))) (oCons (mSink (mCall (F__law_some_beats) (oCons (mSink (mVar 0)) (oCons (mVar 1) (oCons (mSink (mVar 2)) (oNil)))))) (oNil))))
  (sSeq (sSet 5 (mSink (mCall (F__law_count) (oCons (mSink (mVar 3)) (oCons (mSink (mVar 4)) (oNil))))))
  (sSeq (sSet 6 (mSink (mLst (mCons (mVal (mVar 5)) (mCons (mVal (mVar 5)) (mCons (mVal (mBin (lift2 fAdd) (mVar 5) (mC (.int 1)))) (mCons (mVal (mBin (lift2 fAdd) (mC (.int 1)) (mCall (F__law_draw) (oCons (mSink (mVar 0)) (oCons (mVar 1) (oCons (mSink (mVar 5)) (oNil))))))) (mCons (mVal (mBin (lift2 fAdd) (mC (.int 1)) (mCall (F__law_draw) (oCons (mSink (mVar 0)) (oCons (mVar 1) (oCons (mC (.int 64)) (oNil))))))) (mNil)))))))))
  (sRet (mVal (mTup (mCons (mVal (mCallB (liftN fMin2) (oCons (mC (.int 64)) (oCons (mCall (F__law_pick) (oCons (mSink (mVar 0)) (oCons (mVar 1) (oCons (mSink (mVar 6)) (oNil))))) (oNil))))) (mCons (mVal (mVar 3)) (mCons (mVal (mVar 4)) (mNil)))))))))
def F__law_some_game : List Sl → FOut := runF 3 7 M__law_some_game
set_option maxHeartbeats 1000000 in
theorem ok__law_some_game (B : Bl mg) (D : Ds K mg) : FnOk P w K mg base (L2.CX P w) 5 D.f__law_some_game D.e__law_some_game ["_law_script", "_law_town", "_law_most_there"] (spF K mg 3 F__law_some_game) :=
  fn_ok D.d__law_some_game.fn sc__law_some_game fun cdv A outer s H E c hr tk pp => by
    have nd := sc__law_some_game.nd
    exact jb_cons (js_par2 (i := 3) (j := 4) rfl nd rfl rfl (by decide) rfl rfl (jo_cons (je_sink (je_call (ok__law_draw B D) (hr.mono (by omega)) rfl D.d__law_draw.mg D.d__law_draw.fn.kp D.d__law_draw.bd tk (jo_cons (je_sink (je_var 0)) (jo_cons (je_var 1) (jo_cons (je_int) (jo_nil)))) (lenIs_cons (lenIs_cons (lenIs_cons (lenIs_nil)))))) (jo_cons (je_sink (je_call (ok__law_some_beats B D) (hr.mono (by omega)) rfl D.d__law_some_beats.mg D.d__law_some_beats.fn.kp D.d__law_some_beats.bd tk (jo_cons (je_sink (je_var 0)) (jo_cons (je_var 1) (jo_cons (je_sink (je_var 2)) (jo_nil)))) (lenIs_cons (lenIs_cons (lenIs_cons (lenIs_nil)))))) (jo_nil))))
          (jb_cons (js_set (i := 5) nd rfl (by first | exact Or.inl rfl | exact Or.inr rfl) (je_sink (je_call (ok__law_count B D) (hr.mono (by omega)) rfl D.d__law_count.mg D.d__law_count.fn.kp D.d__law_count.bd tk (jo_cons (je_sink (je_var 3)) (jo_cons (je_sink (je_var 4)) (jo_nil))) (lenIs_cons (lenIs_cons (lenIs_nil))))))
          (jb_cons (js_set (i := 6) nd rfl (by first | exact Or.inl rfl | exact Or.inr rfl) (je_sink (je_lst (ja_cons (jv_of (je_var 5)) (ja_cons (jv_of (je_var 5)) (ja_cons (jv_of (je_bin o_add (je_var 5) (je_int))) (ja_cons (jv_of (je_bin o_add (je_int) (je_call (ok__law_draw B D) (hr.mono (by omega)) rfl D.d__law_draw.mg D.d__law_draw.fn.kp D.d__law_draw.bd tk (jo_cons (je_sink (je_var 0)) (jo_cons (je_var 1) (jo_cons (je_sink (je_var 5)) (jo_nil)))) (lenIs_cons (lenIs_cons (lenIs_cons (lenIs_nil))))))) (ja_cons (jv_of (je_bin o_add (je_int) (je_call (ok__law_draw B D) (hr.mono (by omega)) rfl D.d__law_draw.mg D.d__law_draw.fn.kp D.d__law_draw.bd tk (jo_cons (je_sink (je_var 0)) (jo_cons (je_var 1) (jo_cons (je_int) (jo_nil)))) (lenIs_cons (lenIs_cons (lenIs_cons (lenIs_nil))))))) (ja_nil)))))))))
          (jb_one (js_ret (jv_of (je_tup (ja_cons (jv_of (je_callB (c_min2 rfl) rfl B.n_min PyProof.Rows.boot_min (jo_cons (je_int) (jo_cons (je_call (ok__law_pick B D) (hr.mono (by omega)) rfl D.d__law_pick.mg D.d__law_pick.fn.kp D.d__law_pick.bd tk (jo_cons (je_sink (je_var 0)) (jo_cons (je_var 1) (jo_cons (je_sink (je_var 6)) (jo_nil)))) (lenIs_cons (lenIs_cons (lenIs_cons (lenIs_nil))))) (jo_nil))))) (ja_cons (jv_of (je_var 3)) (ja_cons (jv_of (je_var 4)) (ja_nil))))))))))
def M__law_due : M Fl :=
  sRet (mVal (mIf (mTru (mBin (lift2 fGt) (mCallB (liftN fLen) (oCons (mVar 1) (oNil))) (mVar 0))) (mBin (lift2 fIx) (mVar 1) (mBin (lift2 fSub) (mBin (lift2 fSub) (mCallB (liftN fLen) (oCons (mVar 1) (oNil))) (mC (.int 1))) (mVar 0))) (mTup (mNil))))
def F__law_due : List Sl → FOut := runF 2 2 M__law_due
set_option maxHeartbeats 1000000 in
theorem ok__law_due (B : Bl mg) (D : Ds K mg) : FnOk P w K mg base (L2.CX P w) 1 D.f__law_due D.e__law_due ["_law_late", "_law_put"] (spF K mg 2 F__law_due) :=
  fn_ok D.d__law_due.fn sc__law_due fun cdv A outer s H E c hr tk pp => by
    have nd := sc__law_due.nd
    exact jb_one (js_ret (jv_of (je_if (jt_cmp (o_gt) (je_callB c_len rfl B.n_len PySem.boot_len (jo_cons (je_var 1) (jo_nil))) (je_var 0)) (je_ix o_ix (je_var 1) (je_bin o_sub (je_bin o_sub (je_callB c_len rfl B.n_len PySem.boot_len (jo_cons (je_var 1) (jo_nil))) (je_int)) (je_var 0))) (je_tup (ja_nil)))))
abbrev V__law_reply_0 : M PD :=
  mVal (mCallB (liftN fInt) (oCons (mBin (lift2 fLe) (mVar 2) (mVar 1)) (oNil)))
def M__law_reply : M Fl :=
  sRet (mVal (mCallB (liftN fSum) (oCons (mLc [2] (iVal (mVal (mVar 0))) (tName 2) (xYes) ((V__law_reply_0))) (oNil))))
def F__law_reply : List Sl → FOut := runF 2 3 M__law_reply
set_option maxHeartbeats 1000000 in
theorem ok__law_reply (B : Bl mg) (D : Ds K mg) : FnOk P w K mg base (L2.CX P w) 1 D.f__law_reply D.e__law_reply ["_law_cuts", "_law_thing"] (spF K mg 2 F__law_reply) :=
  fn_ok D.d__law_reply.fn sc__law_reply fun cdv A outer s H E c hr tk pp => by
    have nd := sc__law_reply.nd
    exact jb_one (js_ret (jv_of (je_callB (c_sum rfl) rfl B.n_sum PyProof.Rows.boot_sum (jo_cons (je_lc (own := [("_law_cut", 2)]) rfl nd (ji_val (jv_of (je_var 0))) (blkOk_by (N := N__law_reply) (sc := (defScope s__law_reply)) (by decide +kernel)) (fun _ _ _ _ _ => jg_name (i := 2) nd rfl (by first | exact Or.inl rfl | exact Or.inr rfl)) (fun _ _ _ _ _ => jx_nil) (fun _ _ _ _ _ => jv_of (je_callTy c_int rfl B.n_int PyProof.Rows.boot_int (jo_cons (je_cmp (o_le) (je_var 2) (je_var 1)) (jo_nil)))) (by decide)) (jo_nil)))))
abbrev B__law_some_cuts_0 : M Fl :=
  sSeq (sSet 9 (mSink (mCall (F__law_draw) (oCons (mSink (mVar 0)) (oCons (mVar 1) (oCons (mSink (mVar 2)) (oNil)))))))
  (sSeq (sIf (bAnd (mTru (mBin (lift2 fGt) (mBin (lift2 fSub) (mVar 6) (mVar 5)) (mC (.int 1)))) (mTru (mBin (lift2 fGt) (mCall (F__law_draw) (oCons (mSink (mVar 0)) (oCons (mVar 1) (oCons (mC (.int 4)) (oNil))))) (mC (.int 0))))) (sSet 9 (mSink (mBin (lift2 fAdd) (mBin (lift2 fAdd) (mVar 5) (mC (.int 1))) (mCall (F__law_draw) (oCons (mSink (mVar 0)) (oCons (mVar 1) (oCons (mSink (mBin (lift2 fSub) (mBin (lift2 fSub) (mVar 6) (mVar 5)) (mC (.int 1)))) (oNil)))))))) (sNil))
  (sIf (bAnd (mTru (mBin (lift2 fGt) (mVar 9) (mC (.int 0)))) (mTru (mBin (lift2 fNotIn) (mVar 9) (mVar 7)))) (sDrop (mApp 7 (mVal (mVar 9)))) (sNil)))
def M__law_some_cuts : M Fl :=
  sSeq (sAsg (tTupT [5, 6]) (mVal (mVar 4)))
  (sSeq (sSet 7 (mLst (mNil)))
  (sSeq (sFor (iRow rng1 (mCons (mVal (mVar 3)) (mNil))) (tName 8) ((B__law_some_cuts_0)))
  (sRet (mVal (mCallB (liftN fTuple) (oCons (mCallB (liftN fSorted) (oCons (mVar 7) (oNil))) (oNil)))))))
def F__law_some_cuts : List Sl → FOut := runF 5 10 M__law_some_cuts
set_option maxHeartbeats 1000000 in
theorem ok__law_some_cuts (B : Bl mg) (D : Ds K mg) : FnOk P w K mg base (L2.CX P w) 4 D.f__law_some_cuts D.e__law_some_cuts ["_law_script", "_law_town", "_law_things", "_law_many", "_law_stretch"] (spF K mg 5 F__law_some_cuts) :=
  fn_ok D.d__law_some_cuts.fn sc__law_some_cuts fun cdv A outer s H E c hr tk pp => by
    have nd := sc__law_some_cuts.nd
    exact jb_cons (js_asg (jv_of (je_var 4)) (jg_tup rfl nd (JGs.cons (i := 5) rfl (by first | exact Or.inl rfl | exact Or.inr rfl) (by first | exact Or.inl rfl | exact Or.inr rfl) rfl (JGs.cons (i := 6) rfl (by first | exact Or.inl rfl | exact Or.inr rfl) (by first | exact Or.inl rfl | exact Or.inr rfl) rfl (JGs.nil)))))
          (jb_cons (js_set (i := 7) nd rfl (by first | exact Or.inl rfl | exact Or.inr rfl) (je_lst (ja_nil)))
          (jb_cons (js_for pp rfl (ji_range1 rfl B.n_range (ja_cons (jv_of (je_var 3)) (ja_nil))) (jg_name (i := 8) nd rfl (by first | exact Or.inl rfl | exact Or.inr rfl)) (jb_cons (js_set (i := 9) nd rfl (by first | exact Or.inl rfl | exact Or.inr rfl) (je_sink (je_call (ok__law_draw B D) (hr.mono (by omega)) rfl D.d__law_draw.mg D.d__law_draw.fn.kp D.d__law_draw.bd tk (jo_cons (je_sink (je_var 0)) (jo_cons (je_var 1) (jo_cons (je_sink (je_var 2)) (jo_nil)))) (lenIs_cons (lenIs_cons (lenIs_cons (lenIs_nil)))))))
          (jb_cons (js_if (jt_w (jw_and (jt_cmp (o_gt) (je_bin o_sub (je_var 6) (je_var 5)) (je_int)) (jw_and1 (jt_cmp (o_gt) (je_call (ok__law_draw B D) (hr.mono (by omega)) rfl D.d__law_draw.mg D.d__law_draw.fn.kp D.d__law_draw.bd tk (jo_cons (je_sink (je_var 0)) (jo_cons (je_var 1) (jo_cons (je_int) (jo_nil)))) (lenIs_cons (lenIs_cons (lenIs_cons (lenIs_nil))))) (je_int))))) (jb_one (js_set (i := 9) nd rfl (by first | exact Or.inl rfl | exact Or.inr rfl) (je_sink (je_bin o_add (je_bin o_add (je_var 5) (je_int)) (je_call (ok__law_draw B D) (hr.mono (by omega)) rfl D.d__law_draw.mg D.d__law_draw.fn.kp D.d__law_draw.bd tk (jo_cons (je_sink (je_var 0)) (jo_cons (je_var 1) (jo_cons (je_sink (je_bin o_sub (je_bin o_sub (je_var 6) (je_var 5)) (je_int))) (jo_nil)))) (lenIs_cons (lenIs_cons (lenIs_cons (lenIs_nil))))))))) (jb_nil))
          (jb_one (js_if (jt_w (jw_and (jt_cmp (o_gt) (je_var 9) (je_int)) (jw_and1 (jt_cmp (o_notin (hu65 hr)) (je_var 9) (je_var 7))))) (jb_one (js_expr (je_app (pv 7) (jv_of (je_var 9))))) (jb_nil))))))
          (jb_one (js_ret (jv_of (je_callTy c_tuple rfl B.n_tuple PyProof.Rows.boot_tuple (jo_cons (je_callB (c_sorted hr) rfl B.n_sorted PyProof.Rows.boot_sorted (jo_cons (je_var 7) (jo_nil))) (jo_nil))))))))
abbrev B__law_some_plan_0 (G__law_some_plan : List Sl → FOut) : M Fl :=
  sSeq (sSet 13 (mSink (mTup (mCons (mVal (mCallB (liftN fMax2) (oCons (mVar 5) (oCons (mVar 11) (oNil))))) (mCons (mVal (mCallB (liftN fMin2) (oCons (mVar 6) (oCons (mVar 12) (oNil))))) (mNil))))))
  (sDrop (mApp 10 (mVal (mCall G__law_some_plan (oCons (mSink (mVar 0)) (oCons (mVar 1) (oCons (mSink (mVar 2)) (oCons (mSink (mVar 8)) (oCons (mSink (mIf (mTru (mBin (lift2 fLt) (mBin (lift2 fIx) (mVar 13) (mC (.int 0))) (mBin (lift2 fIx) (mVar 13) (mC (.int 1))))) (mVar 13) (mTup (mCons (mVal (mVar 5)) (mCons (mVal (mBin (lift2 fAdd) (mVar 5) (mC (.int 1)))) (mNil)))))) (oNil))))))))))
def M__law_some_plan (G__law_some_plan : List Sl → FOut) : M Fl :=
  sSeq (sIf (mTru (mBin (lift2 fEq) (mCallB (liftN fLen) (oCons (mVar 3) (oNil))) (mCallB (liftN fLen) (oCons (mBin (lift2 fIx) (mVar 2) (mC (.int 2))) (oNil))))) (sRet (mVal (mTup (mCons (mVal (mC (.str "end"))) (mNil))))) (sNil))
  (sSeq (sAsg (tTupT [5, 6]) (mVal (mVar 4)))
  (sSeq (sSet 7 (mSink (mCall (F__law_some_cuts) (oCons (mSink (mVar 0)) (oCons (mVar 1) (oCons (mSink (mBin (lift2 fIx) (mVar 2) (mC (.int 0)))) (oCons (mSink (mBin (lift2 fIx) (mBin (lift2 fIx) (mVar 2) (mC (.int 2))) (mCallB (liftN fLen) (oCons (mVar 3) (oNil))))) (oCons (mSink (mVar 4)) (oNil)))))))))
  (sSeq (sSet 8 (mSink (mBin (lift2 fAdd) (mVar 3) (mTup (mCons (mVal (mVar 7)) (mNil))))))
  (sSeq (sPar [9, 10] (oCons (mSink (mBin (lift2 fAdd) (mBin (lift2 fAdd) (mTup (mCons (mVal (mC (.int 0))) (mNil))) (mCall (F__law_due) (oCons (mSink (mBin (lift2 fIx) (mVar 2) (mC (.int 1)))) (oCons (mSink (mVar 8)) (oNil))))) (mTup (mCons (mVal (mBin (lift2 fIx) (mVar 2) (mC (.int 0)))) (mNil))))) (oCons (mLst (mNil)) (oNil))))
  (sSeq (sFor (iRow zipF (mCons (mVal (mVar 9)) (mCons (mVal (mSlice (liftS fSl) (mVar 9) (pSome (mC (.int 1))) (pNone))) (mNil)))) (tTupT [11, 12]) ((B__law_some_plan_0 G__law_some_plan)))
  (sRet (mVal (mTup (mCons (mVal (mC (.str "ask"))) (mCons (mVal (mVar 7)) (mCons (mVal (mCallB (liftN fTuple) (oCons (mVar 10) (oNil)))) (mNil))))))))))))
def F__law_some_plan : Nat → List Sl → FOut
  | 0 => fun _ => .stuck
  | n + 1 => runF 5 14 (M__law_some_plan (F__law_some_plan n))
set_option maxHeartbeats 2000000 in
theorem oks__law_some_plan (B : Bl mg) (D : Ds K mg) : ∀ n : Nat, FnOk P w K mg base (L2.CX P w) (5 + n) D.f__law_some_plan D.e__law_some_plan ["_law_script", "_law_town", "_law_game", "_law_put", "_law_stretch"] (spF K mg 5 (F__law_some_plan n))
  | 0 => fn_no
  | n + 1 => by
    obtain g__law_some_plan := oks__law_some_plan B D n
    exact (fn_ok (k := 5 + n) D.d__law_some_plan.fn sc__law_some_plan fun cdv A outer s H E c hr tk pp => by
      have nd := sc__law_some_plan.nd
      exact jb_cons (js_if (jt_cmp (o_eq (hu64 hr)) (je_callB c_len rfl B.n_len PySem.boot_len (jo_cons (je_var 3) (jo_nil))) (je_callB c_len rfl B.n_len PySem.boot_len (jo_cons (je_ix o_ix (je_var 2) (je_int)) (jo_nil)))) (jb_one (js_ret (jv_of (je_tup (ja_cons (jv_of (je_str)) (ja_nil)))))) (jb_nil))
          (jb_cons (js_asg (jv_of (je_var 4)) (jg_tup rfl nd (JGs.cons (i := 5) rfl (by first | exact Or.inl rfl | exact Or.inr rfl) (by first | exact Or.inl rfl | exact Or.inr rfl) rfl (JGs.cons (i := 6) rfl (by first | exact Or.inl rfl | exact Or.inr rfl) (by first | exact Or.inl rfl | exact Or.inr rfl) rfl (JGs.nil)))))
          (jb_cons (js_set (i := 7) nd rfl (by first | exact Or.inl rfl | exact Or.inr rfl) (je_sink (je_call (ok__law_some_cuts B D) (hr.mono (by omega)) rfl D.d__law_some_cuts.mg D.d__law_some_cuts.fn.kp D.d__law_some_cuts.bd tk (jo_cons (je_sink (je_var 0)) (jo_cons (je_var 1) (jo_cons (je_sink (je_ix o_ix (je_var 2) (je_int))) (jo_cons (je_sink (je_ix o_ix (je_ix o_ix (je_var 2) (je_int)) (je_callB c_len rfl B.n_len PySem.boot_len (jo_cons (je_var 3) (jo_nil))))) (jo_cons (je_sink (je_var 4)) (jo_nil)))))) (lenIs_cons (lenIs_cons (lenIs_cons (lenIs_cons (lenIs_cons (lenIs_nil)))))))))
          (jb_cons (js_set (i := 8) nd rfl (by first | exact Or.inl rfl | exact Or.inr rfl) (je_sink (je_bin o_add (je_var 3) (je_tup (ja_cons (jv_of (je_var 7)) (ja_nil))))))
          (jb_cons (js_par2 (i := 9) (j := 10) rfl nd rfl rfl (by decide) rfl rfl (jo_cons (je_sink (je_bin o_add (je_bin o_add (je_tup (ja_cons (jv_of (je_int)) (ja_nil))) (je_call (ok__law_due B D) (hr.mono (by omega)) rfl D.d__law_due.mg D.d__law_due.fn.kp D.d__law_due.bd tk (jo_cons (je_sink (je_ix o_ix (je_var 2) (je_int))) (jo_cons (je_sink (je_var 8)) (jo_nil))) (lenIs_cons (lenIs_cons (lenIs_nil))))) (je_tup (ja_cons (jv_of (je_ix o_ix (je_var 2) (je_int))) (ja_nil))))) (jo_cons (je_lst (ja_nil)) (jo_nil))))
          (jb_cons (js_for pp rfl (ji_zip rfl B.n_zip (ja_cons (jv_of (je_var 9)) (ja_cons (jv_of (je_slice o_sl (je_var 9) (jp_some (je_int)) (jp_none))) (ja_nil)))) (jg_tup rfl nd (JGs.cons (i := 11) rfl (by first | exact Or.inl rfl | exact Or.inr rfl) (by first | exact Or.inl rfl | exact Or.inr rfl) rfl (JGs.cons (i := 12) rfl (by first | exact Or.inl rfl | exact Or.inr rfl) (by first | exact Or.inl rfl | exact Or.inr rfl) rfl (JGs.nil)))) (jb_cons (js_set (i := 13) nd rfl (by first | exact Or.inl rfl | exact Or.inr rfl) (je_sink (je_tup (ja_cons (jv_of (je_callB (c_max2 rfl) rfl B.n_max PyProof.Rows.boot_max (jo_cons (je_var 5) (jo_cons (je_var 11) (jo_nil))))) (ja_cons (jv_of (je_callB (c_min2 rfl) rfl B.n_min PyProof.Rows.boot_min (jo_cons (je_var 6) (jo_cons (je_var 12) (jo_nil))))) (ja_nil))))))
          (jb_one (js_expr (je_app (pv 10) (jv_of (je_call g__law_some_plan (hr.mono (by omega)) rfl D.d__law_some_plan.mg D.d__law_some_plan.fn.kp D.d__law_some_plan.bd tk (jo_cons (je_sink (je_var 0)) (jo_cons (je_var 1) (jo_cons (je_sink (je_var 2)) (jo_cons (je_sink (je_var 8)) (jo_cons (je_sink (je_if (jt_cmp (o_lt) (je_ix o_ix (je_var 13) (je_int)) (je_ix o_ix (je_var 13) (je_int))) (je_var 13) (je_tup (ja_cons (jv_of (je_var 5)) (ja_cons (jv_of (je_bin o_add (je_var 5) (je_int))) (ja_nil)))))) (jo_nil)))))) (lenIs_cons (lenIs_cons (lenIs_cons (lenIs_cons (lenIs_cons (lenIs_nil)))))))))))))
          (jb_one (js_ret (jv_of (je_tup (ja_cons (jv_of (je_str)) (ja_cons (jv_of (je_var 7)) (ja_cons (jv_of (je_callTy c_tuple rfl B.n_tuple PyProof.Rows.boot_tuple (jo_cons (je_var 10) (jo_nil)))) (ja_nil))))))))))))))
theorem ok__law_some_plan (B : Bl mg) (D : Ds K mg) (n : Nat) : FnOk P w K mg base (L2.CX P w) (5 + n) D.f__law_some_plan D.e__law_some_plan ["_law_script", "_law_town", "_law_game", "_law_put", "_law_stretch"] (spF K mg 5 (F__law_some_plan n)) := oks__law_some_plan B D n
abbrev T__law_path_0 : M Bool :=
  mTru (mBin (lift2 fEq) (mBin (lift2 fIx) (mVar 4) (mC (.int 0))) (mC (.str "ask")))
abbrev B__law_path_0 : M Fl :=
  sSeq (sSet 3 (mSink (mBin (lift2 fAdd) (mVar 3) (mTup (mCons (mVal (mBin (lift2 fIx) (mVar 4) (mC (.int 1)))) (mNil))))))
  (sSet 4 (mSink (mBin (lift2 fIx) (mBin (lift2 fIx) (mVar 4) (mC (.int 2))) (mCall (F__law_reply) (oCons (mSink (mCall (F__law_due) (oCons (mSink (mBin (lift2 fIx) (mVar 0) (mC (.int 1)))) (oCons (mSink (mVar 3)) (oNil))))) (oCons (mSink (mVar 2)) (oNil)))))))
abbrev C__law_path_0 : M Bool :=
  mTru (mBin (lift2 fNe) (mVar 5) (mTup (mNil)))
abbrev V__law_path_0 : M PD :=
  mVal (mCall (F__law_reply) (oCons (mSink (mVar 5)) (oCons (mSink (mVar 2)) (oNil))))
def M__law_path : M Fl :=
  sSeq (sPar [3, 4] (oCons (mSink (mTup (mNil))) (oCons (mSink (mVar 1)) (oNil))))
  (sSeq (sWh ((T__law_path_0)) ((B__law_path_0)) 10000)
  (sRet (mVal (mTup (mCons (mVal (mVar 3)) (mCons (mVal (mCallB (liftN fTuple) (oCons (mLc [5] (iVal (mVal (mVar 3))) (tName 5) ((C__law_path_0)) ((V__law_path_0))) (oNil)))) (mNil)))))))
def F__law_path : List Sl → FOut := runF 3 6 M__law_path
set_option maxHeartbeats 1000000 in
theorem ok__law_path (B : Bl mg) (D : Ds K mg) : FnOk P w K mg base (L2.CX P w) 2 D.f__law_path D.e__law_path ["_law_game", "_law_plan", "_law_thing"] (spF K mg 3 F__law_path) :=
  fn_ok D.d__law_path.fn sc__law_path fun cdv A outer s H E c hr tk pp => by
    have nd := sc__law_path.nd
    exact jb_cons (js_par2 (i := 3) (j := 4) rfl nd rfl rfl (by decide) rfl rfl (jo_cons (je_sink (je_tup (ja_nil))) (jo_cons (je_sink (je_var 1)) (jo_nil))))
          (jb_cons (js_while 10000 pp (jt_cmp (o_eq (hu64 hr)) (je_ix o_ix (je_var 4) (je_int)) (je_str)) (jb_cons (js_set (i := 3) nd rfl (by first | exact Or.inl rfl | exact Or.inr rfl) (je_sink (je_bin o_add (je_var 3) (je_tup (ja_cons (jv_of (je_ix o_ix (je_var 4) (je_int))) (ja_nil))))))
          (jb_one (js_set (i := 4) nd rfl (by first | exact Or.inl rfl | exact Or.inr rfl) (je_sink (je_ix o_ix (je_ix o_ix (je_var 4) (je_int)) (je_call (ok__law_reply B D) (hr.mono (by omega)) rfl D.d__law_reply.mg D.d__law_reply.fn.kp D.d__law_reply.bd tk (jo_cons (je_sink (je_call (ok__law_due B D) (hr.mono (by omega)) rfl D.d__law_due.mg D.d__law_due.fn.kp D.d__law_due.bd tk (jo_cons (je_sink (je_ix o_ix (je_var 0) (je_int))) (jo_cons (je_sink (je_var 3)) (jo_nil))) (lenIs_cons (lenIs_cons (lenIs_nil))))) (jo_cons (je_sink (je_var 2)) (jo_nil))) (lenIs_cons (lenIs_cons (lenIs_nil))))))))))
          (jb_one (js_ret (jv_of (je_tup (ja_cons (jv_of (je_var 3)) (ja_cons (jv_of (je_callTy c_tuple rfl B.n_tuple PyProof.Rows.boot_tuple (jo_cons (je_lc (own := [("_law_cuts", 5)]) rfl nd (ji_val (jv_of (je_var 3))) (blkOk_by (N := N__law_path) (sc := (defScope s__law_path)) (by decide +kernel)) (fun _ _ _ _ _ => jg_name (i := 5) nd rfl (by first | exact Or.inl rfl | exact Or.inr rfl)) (fun _ _ _ _ _ => jx_one (jt_cmp (o_ne (hu64 hr)) (je_var 5) (je_tup (ja_nil)))) (fun _ _ _ _ _ => jv_of (je_call (ok__law_reply B D) (hr.mono (by omega)) rfl D.d__law_reply.mg D.d__law_reply.fn.kp D.d__law_reply.bd tk_nox (jo_cons (je_sink (je_var 5)) (jo_cons (je_sink (je_var 2)) (jo_nil))) (lenIs_cons (lenIs_cons (lenIs_nil))))) (by decide)) (jo_nil)))) (ja_nil))))))))
abbrev B__law_classes_0 : M Fl :=
  sSeq (sSet 5 (mSink (mCall (F__law_path) (oCons (mSink (mVar 0)) (oCons (mSink (mVar 1)) (oCons (mSink (mVar 4)) (oNil)))))))
  (sIf (mTru (mBin (lift2 fIn) (mVar 5) (mVar 2))) (sDrop (mAppAt 3 (mVal (mOwn1 2 (mVal (mVar 5)) gFind)) 4)) (sSeq (sDrop (mApp 2 (mVal (mVar 5))))
  (sDrop (mAppLL 3 (mLst (mCons (mVal (mVar 4)) (mNil)))))))
def M__law_classes : M Fl :=
  sSeq (sPar [2, 3] (oCons (mLst (mNil)) (oCons (mLst (mNil)) (oNil))))
  (sSeq (sFor (iRow rng1 (mCons (mVal (mBin (lift2 fIx) (mVar 0) (mC (.int 0)))) (mNil))) (tName 4) ((B__law_classes_0)))
  (sRetO (mVar 3)))
def F__law_classes : List Sl → FOut := runF 2 6 M__law_classes
set_option maxHeartbeats 1000000 in
theorem ok__law_classes (B : Bl mg) (D : Ds K mg) : FnOk P w K mg base (L2.CX P w) 3 D.f__law_classes D.e__law_classes ["_law_game", "_law_plan"] (spF K mg 2 F__law_classes) :=
  fn_ok D.d__law_classes.fn sc__law_classes fun cdv A outer s H E c hr tk pp => by
    have nd := sc__law_classes.nd
    exact jb_cons (js_par2 (i := 2) (j := 3) rfl nd rfl rfl (by decide) rfl rfl (jo_cons (je_lst (ja_nil)) (jo_cons (je_lst (ja_nil)) (jo_nil))))
          (jb_cons (js_for pp rfl (ji_range1 rfl B.n_range (ja_cons (jv_of (je_ix o_ix (je_var 0) (je_int))) (ja_nil))) (jg_name (i := 4) nd rfl (by first | exact Or.inl rfl | exact Or.inr rfl)) (jb_cons (js_set (i := 5) nd rfl (by first | exact Or.inl rfl | exact Or.inr rfl) (je_sink (je_call (ok__law_path B D) (hr.mono (by omega)) rfl D.d__law_path.mg D.d__law_path.fn.kp D.d__law_path.bd tk (jo_cons (je_sink (je_var 0)) (jo_cons (je_sink (je_var 1)) (jo_cons (je_sink (je_var 4)) (jo_nil)))) (lenIs_cons (lenIs_cons (lenIs_cons (lenIs_nil)))))))
          (jb_one (js_if (jt_cmp (o_in (hu65 hr)) (je_var 5) (je_var 2)) (jb_one (js_expr (je_appAt (pv 3) (jv_of (je_find (hu65 hr) (pv 2) (jv_of (je_var 5)))) (pv 4)))) (jb_cons (js_expr (je_app (pv 2) (jv_of (je_var 5))))
          (jb_one (js_expr (je_appLL (pv 3) (je_lst (ja_cons (jv_of (je_var 4)) (ja_nil)))))))))))
          (jb_one (js_retO (je_var 3))))
abbrev C__law_idle_0 : M Bool :=
  mTru (mBin (lift2 fEq) (mSlice (liftS fSl) (mBin (lift2 fIx) (mVar 9) (mC (.int 0))) (pNone) (pSome (mVar 3))) (mVar 5))
abbrev V__law_idle_0 : M PD :=
  mVal (mVar 8)
abbrev V__law_idle_1 : M PD :=
  mVal (mCall (F__law_reply) (oCons (mSink (mVar 10)) (oCons (mSink (mVar 1)) (oNil))))
abbrev V__law_idle_2 : M PD :=
  mVal (mCall (F__law_reply) (oCons (mSink (mVar 10)) (oCons (mSink (mVar 8)) (oNil))))
abbrev C__law_idle_1 : M Bool :=
  mTru (mBin (lift2 fEq) (mLc [10] (iVal (mVal (mVar 5))) (tName 10) (xYes) ((V__law_idle_2))) (mVar 7))
abbrev V__law_idle_3 : M PD :=
  mVal (mVar 8)
abbrev C__law_idle_2 : M Bool :=
  mTru (mBin (lift2 fNe) (mCall (F__law_reply) (oCons (mSink (mVar 4)) (oCons (mSink (mVar 8)) (oNil)))) (mCall (F__law_reply) (oCons (mSink (mVar 4)) (oCons (mSink (mVar 1)) (oNil)))))
abbrev V__law_idle_4 : M PD :=
  mVal (mVar 8)
abbrev B__law_idle_0 : M Fl :=
  sSeq (sSet 5 (mSink (mSlice (liftS fSl) (mBin (lift2 fIx) (mBin (lift2 fIx) (mVar 0) (mVar 1)) (mC (.int 0))) (pNone) (pSome (mVar 3)))))
  (sSeq (sSet 6 (mLc [8, 9] (iRow enumF (mCons (mVal (mVar 0)) (mNil))) (tTupT [8, 9]) ((C__law_idle_0)) ((V__law_idle_0))))
  (sSeq (sSet 7 (mSink (mLc [10] (iVal (mVal (mVar 5))) (tName 10) (xYes) ((V__law_idle_1)))))
  (sSeq (sSet 6 (mLc [8] (iVal (mVal (mVar 6))) (tName 8) ((C__law_idle_1)) ((V__law_idle_3))))
  (sIf (mTru (mBin (lift2 fEq) (mLc [8] (iVal (mVal (mVar 6))) (tName 8) ((C__law_idle_2)) ((V__law_idle_4))) (mLst (mNil)))) (sDrop (mApp 2 (mVal (mVar 3)))) (sNil)))))
def M__law_idle : M Fl :=
  sSeq (sSet 2 (mLst (mNil)))
  (sSeq (sFor (iRow enumFT (mCons (mVal (mBin (lift2 fIx) (mBin (lift2 fIx) (mVar 0) (mVar 1)) (mC (.int 0)))) (mNil))) (tTupT [3, 4]) ((B__law_idle_0)))
  (sRet (mVal (mVar 2))))
def F__law_idle : List Sl → FOut := runF 2 11 M__law_idle
set_option maxHeartbeats 1000000 in
theorem ok__law_idle (B : Bl mg) (D : Ds K mg) : FnOk P w K mg base (L2.CX P w) 2 D.f__law_idle D.e__law_idle ["_law_looks", "_law_thing"] (spF K mg 2 F__law_idle) :=
  fn_ok D.d__law_idle.fn sc__law_idle fun cdv A outer s H E c hr tk pp => by
    have nd := sc__law_idle.nd
    exact jb_cons (js_set (i := 2) nd rfl (by first | exact Or.inl rfl | exact Or.inr rfl) (je_lst (ja_nil)))
          (jb_cons (js_for pp rfl (ji_enumT rfl B.n_enumerate (ja_cons (jv_of (je_ix o_ix (je_ix o_ix (je_var 0) (je_var 1)) (je_int))) (ja_nil))) (jg_tup rfl nd (JGs.cons (i := 3) rfl (by first | exact Or.inl rfl | exact Or.inr rfl) (by first | exact Or.inl rfl | exact Or.inr rfl) rfl (JGs.cons (i := 4) rfl (by first | exact Or.inl rfl | exact Or.inr rfl) (by first | exact Or.inl rfl | exact Or.inr rfl) rfl (JGs.nil)))) (jb_cons (js_set (i := 5) nd rfl (by first | exact Or.inl rfl | exact Or.inr rfl) (je_sink (je_slice o_sl (je_ix o_ix (je_ix o_ix (je_var 0) (je_var 1)) (je_int)) (jp_none) (jp_some (je_var 3)))))
          (jb_cons (js_setLc (i := 6) (own := [("_law_k", 8), ("_law_look", 9)]) rfl nd rfl rfl (sw_true rfl rfl rfl (by decide +kernel)) (ji_enumL rfl B.n_enumerate (ja_cons (jv_of (je_var 0)) (ja_nil))) (blkOk_by (N := N__law_idle) (sc := (defScope s__law_idle)) (by decide +kernel)) (fun _ _ _ _ _ => jg_tup rfl nd (JGs.cons (i := 8) rfl (by first | exact Or.inl rfl | exact Or.inr rfl) (by first | exact Or.inl rfl | exact Or.inr rfl) rfl (JGs.cons (i := 9) rfl (by first | exact Or.inl rfl | exact Or.inr rfl) (by first | exact Or.inl rfl | exact Or.inr rfl) rfl (JGs.nil)))) (fun _ _ _ _ _ => jx_one (jt_cmp (o_eq (hu64 hr)) (je_slice o_sl (je_ix o_ix (je_var 9) (je_int)) (jp_none) (jp_some (je_var 3))) (je_var 5))) (fun _ _ _ _ _ => jv_of (je_var 8)) (by decide))
          (jb_cons (js_set (i := 7) nd rfl (by first | exact Or.inl rfl | exact Or.inr rfl) (je_sink (je_lc (own := [("_law_row", 10)]) rfl nd (ji_val (jv_of (je_var 5))) (blkOk_by (N := N__law_idle) (sc := (defScope s__law_idle)) (by decide +kernel)) (fun _ _ _ _ _ => jg_name (i := 10) nd rfl (by first | exact Or.inl rfl | exact Or.inr rfl)) (fun _ _ _ _ _ => jx_nil) (fun _ _ _ _ _ => jv_of (je_call (ok__law_reply B D) (hr.mono (by omega)) rfl D.d__law_reply.mg D.d__law_reply.fn.kp D.d__law_reply.bd tk_nox (jo_cons (je_sink (je_var 10)) (jo_cons (je_sink (je_var 1)) (jo_nil))) (lenIs_cons (lenIs_cons (lenIs_nil))))) (by decide))))
          (jb_cons (js_setLc (i := 6) (own := [("_law_k", 8)]) rfl nd rfl rfl (sw_true rfl rfl rfl (by decide +kernel)) (ji_val (jv_of (je_var 6))) (blkOk_by (N := N__law_idle) (sc := (defScope s__law_idle)) (by decide +kernel)) (fun _ _ _ _ _ => jg_name (i := 8) nd rfl (by first | exact Or.inl rfl | exact Or.inr rfl)) (fun _ _ _ _ _ => jx_one (jt_cmp (o_eq (hu64 hr)) (je_lc (own := [("_law_row", 10)]) rfl nd (ji_val (jv_of (je_var 5))) (blkOk_by (N := N__law_idle) (sc := _) (by kernel_rfl)) (fun _ _ _ _ _ => jg_name (i := 10) nd rfl (by first | exact Or.inl rfl | exact Or.inr rfl)) (fun _ _ _ _ _ => jx_nil) (fun _ _ _ _ _ => jv_of (je_call (ok__law_reply B D) (hr.mono (by omega)) rfl D.d__law_reply.mg D.d__law_reply.fn.kp D.d__law_reply.bd tk_nox (jo_cons (je_sink (je_var 10)) (jo_cons (je_sink (je_var 8)) (jo_nil))) (lenIs_cons (lenIs_cons (lenIs_nil))))) (by decide)) (je_var 7))) (fun _ _ _ _ _ => jv_of (je_var 8)) (by decide))
          (jb_one (js_if (jt_cmp (o_eq (hu64 hr)) (je_lc (own := [("_law_k", 8)]) rfl nd (ji_val (jv_of (je_var 6))) (blkOk_by (N := N__law_idle) (sc := (defScope s__law_idle)) (by decide +kernel)) (fun _ _ _ _ _ => jg_name (i := 8) nd rfl (by first | exact Or.inl rfl | exact Or.inr rfl)) (fun _ _ _ _ _ => jx_one (jt_cmp (o_ne (hu64 hr)) (je_call (ok__law_reply B D) (hr.mono (by omega)) rfl D.d__law_reply.mg D.d__law_reply.fn.kp D.d__law_reply.bd tk_nox (jo_cons (je_sink (je_var 4)) (jo_cons (je_sink (je_var 8)) (jo_nil))) (lenIs_cons (lenIs_cons (lenIs_nil)))) (je_call (ok__law_reply B D) (hr.mono (by omega)) rfl D.d__law_reply.mg D.d__law_reply.fn.kp D.d__law_reply.bd tk_nox (jo_cons (je_sink (je_var 4)) (jo_cons (je_sink (je_var 1)) (jo_nil))) (lenIs_cons (lenIs_cons (lenIs_nil)))))) (fun _ _ _ _ _ => jv_of (je_var 8)) (by decide)) (je_lst (ja_nil))) (jb_one (js_expr (je_app (pv 2) (jv_of (je_var 3))))) (jb_nil))))))))
          (jb_one (js_ret (jv_of (je_var 2)))))
abbrev C_law_0 : M Bool :=
  mTru (mBin (lift2 fGt) (mCallB (liftN fLen) (oCons (mVar 9) (oNil))) (mC (.int 1)))
abbrev V_law_0 : M PD :=
  mVal (mCallB (liftN fTuple) (oCons (mSlice (liftS fSl) (mVar 9) (pNone) (pSome (mC (.int 2)))) (oNil)))
abbrev V_law_1 : M PD :=
  mVal (mCall (F__law_path) (oCons (mSink (mVar 2)) (oCons (mSink (mVar 3)) (oCons (mSink (mVar 8)) (oNil)))))
abbrev B_law_0 : M Fl :=
  sSeq (sSet 8 (mSink (mCall (F__law_draw) (oCons (mSink (mVar 0)) (oCons (mVar 1) (oCons (mSink (mBin (lift2 fIx) (mVar 2) (mC (.int 0)))) (oNil)))))))
  (sSeq (sIf (bOr (mTru (mBin (lift2 fNe) (mCall (F_way) (oCons (mSink (mVar 2)) (oCons (mSink (mVar 3)) (oCons (mSink (mVar 8)) (oNil))))) (mBin (lift2 fIx) (mBin (lift2 fIx) (mVar 6) (mVar 8)) (mC (.int 0))))) (mTru (mBin (lift2 fNe) (mCall (F_heard) (oCons (mSink (mVar 2)) (oCons (mSink (mVar 3)) (oCons (mSink (mVar 8)) (oNil))))) (mBin (lift2 fIx) (mBin (lift2 fIx) (mVar 6) (mVar 8)) (mC (.int 1)))))) (sRet (mVal (mC (.bool false)))) (sNil))
  (sIf (mTru (mBin (lift2 fNe) (mCall (F_idle) (oCons (mSink (mVar 2)) (oCons (mSink (mVar 3)) (oCons (mSink (mVar 8)) (oNil))))) (mCall (F__law_idle) (oCons (mSink (mVar 6)) (oCons (mSink (mVar 8)) (oNil)))))) (sRet (mVal (mC (.bool false)))) (sNil)))
def M_law : M Fl :=
  sSeq (sSet 1 (mLst (mNil)))
  (sSeq (sSet 2 (mSink (mCall (F__law_some_game) (oCons (mSink (mVar 0)) (oCons (mVar 1) (oCons (mC (.int 6)) (oNil)))))))
  (sSeq (sSet 3 (mSink (mCall (F__law_some_plan 12) (oCons (mSink (mVar 0)) (oCons (mVar 1) (oCons (mSink (mVar 2)) (oCons (mSink (mTup (mNil))) (oCons (mSink (mTup (mCons (mVal (mC (.int 0))) (mCons (mVal (mBin (lift2 fIx) (mVar 2) (mC (.int 0)))) (mNil))))) (oNil)))))))))
  (sSeq (sIf (mTru (mBin (lift2 fIsN) (mCall (F_is_plan) (oCons (mSink (mVar 2)) (oCons (mSink (mVar 3)) (oNil)))) (mC (.bool true)))) (sRet (mVal (mC (.bool false)))) (sNil))
  (sSeq (sSet 4 (mSinkLL (mCall (F__law_classes) (oCons (mSink (mVar 2)) (oCons (mSink (mVar 3)) (oNil))))))
  (sSeq (sIf (bOr (mTru (mBin (lift2 fNe) (mCall (F_parts) (oCons (mSink (mVar 2)) (oCons (mSink (mVar 3)) (oNil)))) (mVar 4))) (bNot (mTru (mCall (F__law_same_truth) (oCons (mSink (mCall (F_finds_all) (oCons (mSink (mVar 2)) (oCons (mSink (mVar 3)) (oNil))))) (oCons (mSink (mBin (lift2 fEq) (mCallB (liftN fLen) (oCons (mVar 4) (oNil))) (mBin (lift2 fIx) (mVar 2) (mC (.int 0))))) (oNil))))))) (sRet (mVal (mC (.bool false)))) (sNil))
  (sSeq (sSet 5 (mSink (mCallB (liftN fSorted) (oCons (mLc [9] (iVal (mVal (mVar 4))) (tName 9) ((C_law_0)) ((V_law_0))) (oNil)))))
  (sSeq (sIf (mTru (mBin (lift2 fNe) (mCall (F_not_parted) (oCons (mSink (mVar 2)) (oCons (mSink (mVar 3)) (oNil)))) (mIf (mTru (mBin (lift2 fNe) (mVar 5) (mLst (mNil)))) (mBin (lift2 fIx) (mVar 5) (mC (.int 0))) (mC .none)))) (sRet (mVal (mC (.bool false)))) (sNil))
  (sSeq (sSet 6 (mLc [8] (iRow rng1 (mCons (mVal (mBin (lift2 fIx) (mVar 2) (mC (.int 0)))) (mNil))) (tName 8) (xYes) ((V_law_1))))
  (sSeq (sFor (iRow rng1 (mCons (mVal (mC (.int 4))) (mNil))) (tName 7) ((B_law_0)))
  (sRet (mVal (mC (.bool true)))))))))))))
def F_law : List Sl → FOut := runF 1 10 M_law
set_option maxHeartbeats 1000000 in
theorem ok_law (B : Bl mg) (D : Ds K mg) : FnOk P w K mg base (L2.CX P w) 20 D.f_law D.e_law ["_law_script"] (spF K mg 1 F_law) :=
  fn_ok D.d_law.fn sc_law fun cdv A outer s H E c hr tk pp => by
    have nd := sc_law.nd
    exact jb_cons (js_set (i := 1) nd rfl (by first | exact Or.inl rfl | exact Or.inr rfl) (je_lst (ja_nil)))
          (jb_cons (js_set (i := 2) nd rfl (by first | exact Or.inl rfl | exact Or.inr rfl) (je_sink (je_call (ok__law_some_game B D) (hr.mono (by omega)) rfl D.d__law_some_game.mg D.d__law_some_game.fn.kp D.d__law_some_game.bd tk (jo_cons (je_sink (je_var 0)) (jo_cons (je_var 1) (jo_cons (je_int) (jo_nil)))) (lenIs_cons (lenIs_cons (lenIs_cons (lenIs_nil)))))))
          (jb_cons (js_set (i := 3) nd rfl (by first | exact Or.inl rfl | exact Or.inr rfl) (je_sink (je_call (ok__law_some_plan B D 12) (hr.mono (by omega)) rfl D.d__law_some_plan.mg D.d__law_some_plan.fn.kp D.d__law_some_plan.bd tk (jo_cons (je_sink (je_var 0)) (jo_cons (je_var 1) (jo_cons (je_sink (je_var 2)) (jo_cons (je_sink (je_tup (ja_nil))) (jo_cons (je_sink (je_tup (ja_cons (jv_of (je_int)) (ja_cons (jv_of (je_ix o_ix (je_var 2) (je_int))) (ja_nil))))) (jo_nil)))))) (lenIs_cons (lenIs_cons (lenIs_cons (lenIs_cons (lenIs_cons (lenIs_nil)))))))))
          (jb_cons (js_if (jt_cmp (o_isn) (je_call (ok_is_plan B D) (hr.mono (by omega)) rfl D.d_is_plan.mg D.d_is_plan.fn.kp D.d_is_plan.bd tk (jo_cons (je_sink (je_var 2)) (jo_cons (je_sink (je_var 3)) (jo_nil))) (lenIs_cons (lenIs_cons (lenIs_nil)))) (je_bl)) (jb_one (js_ret (jv_of (je_bl)))) (jb_nil))
          (jb_cons (js_set (i := 4) nd rfl (by first | exact Or.inl rfl | exact Or.inr rfl) (je_sinkLL (je_call (ok__law_classes B D) (hr.mono (by omega)) rfl D.d__law_classes.mg D.d__law_classes.fn.kp D.d__law_classes.bd tk (jo_cons (je_sink (je_var 2)) (jo_cons (je_sink (je_var 3)) (jo_nil))) (lenIs_cons (lenIs_cons (lenIs_nil))))))
          (jb_cons (js_if (jt_w (jw_or (jt_cmp (o_ne (hu64 hr)) (je_call (ok_parts B D) (hr.mono (by omega)) rfl D.d_parts.mg D.d_parts.fn.kp D.d_parts.bd tk (jo_cons (je_sink (je_var 2)) (jo_cons (je_sink (je_var 3)) (jo_nil))) (lenIs_cons (lenIs_cons (lenIs_nil)))) (je_var 4)) (jw_or1 (jt_not (jt_val (je_call (ok__law_same_truth B D) (hr.mono (by omega)) rfl D.d__law_same_truth.mg D.d__law_same_truth.fn.kp D.d__law_same_truth.bd tk (jo_cons (je_sink (je_call (ok_finds_all B D) (hr.mono (by omega)) rfl D.d_finds_all.mg D.d_finds_all.fn.kp D.d_finds_all.bd tk (jo_cons (je_sink (je_var 2)) (jo_cons (je_sink (je_var 3)) (jo_nil))) (lenIs_cons (lenIs_cons (lenIs_nil))))) (jo_cons (je_sink (je_cmp (o_eq (hu64 hr)) (je_callB c_len rfl B.n_len PySem.boot_len (jo_cons (je_var 4) (jo_nil))) (je_ix o_ix (je_var 2) (je_int)))) (jo_nil))) (lenIs_cons (lenIs_cons (lenIs_nil))))))))) (jb_one (js_ret (jv_of (je_bl)))) (jb_nil))
          (jb_cons (js_set (i := 5) nd rfl (by first | exact Or.inl rfl | exact Or.inr rfl) (je_sink (je_callB (c_sorted hr) rfl B.n_sorted PyProof.Rows.boot_sorted (jo_cons (je_lc (own := [("_law_own", 9)]) rfl nd (ji_val (jv_of (je_var 4))) (blkOk_by (N := N_law) (sc := (defScope s_law)) (by decide +kernel)) (fun _ _ _ _ _ => jg_name (i := 9) nd rfl (by first | exact Or.inl rfl | exact Or.inr rfl)) (fun _ _ _ _ _ => jx_one (jt_cmp (o_gt) (je_callB c_len rfl B.n_len PySem.boot_len (jo_cons (je_var 9) (jo_nil))) (je_int))) (fun _ _ _ _ _ => jv_of (je_callTy c_tuple rfl B.n_tuple PyProof.Rows.boot_tuple (jo_cons (je_slice o_sl (je_var 9) (jp_none) (jp_some (je_int))) (jo_nil)))) (by decide)) (jo_nil)))))
          (jb_cons (js_if (jt_cmp (o_ne (hu64 hr)) (je_call (ok_not_parted B D) (hr.mono (by omega)) rfl D.d_not_parted.mg D.d_not_parted.fn.kp D.d_not_parted.bd tk (jo_cons (je_sink (je_var 2)) (jo_cons (je_sink (je_var 3)) (jo_nil))) (lenIs_cons (lenIs_cons (lenIs_nil)))) (je_if (jt_cmp (o_ne (hu64 hr)) (je_var 5) (je_lst (ja_nil))) (je_ix o_ix (je_var 5) (je_int)) (je_non))) (jb_one (js_ret (jv_of (je_bl)))) (jb_nil))
          (jb_cons (js_setLc (i := 6) (own := [("_law_thing", 8)]) rfl nd rfl rfl (sw_true rfl rfl rfl (by decide +kernel)) (ji_range1 rfl B.n_range (ja_cons (jv_of (je_ix o_ix (je_var 2) (je_int))) (ja_nil))) (blkOk_by (N := N_law) (sc := (defScope s_law)) (by decide +kernel)) (fun _ _ _ _ _ => jg_name (i := 8) nd rfl (by first | exact Or.inl rfl | exact Or.inr rfl)) (fun _ _ _ _ _ => jx_nil) (fun _ _ _ _ _ => jv_of (je_call (ok__law_path B D) (hr.mono (by omega)) rfl D.d__law_path.mg D.d__law_path.fn.kp D.d__law_path.bd tk_nox (jo_cons (je_sink (je_var 2)) (jo_cons (je_sink (je_var 3)) (jo_cons (je_sink (je_var 8)) (jo_nil)))) (lenIs_cons (lenIs_cons (lenIs_cons (lenIs_nil)))))) (by decide))
          (jb_cons (js_for pp rfl (ji_range1 rfl B.n_range (ja_cons (jv_of (je_int)) (ja_nil))) (jg_name (i := 7) nd rfl (by first | exact Or.inl rfl | exact Or.inr rfl)) (jb_cons (js_set (i := 8) nd rfl (by first | exact Or.inl rfl | exact Or.inr rfl) (je_sink (je_call (ok__law_draw B D) (hr.mono (by omega)) rfl D.d__law_draw.mg D.d__law_draw.fn.kp D.d__law_draw.bd tk (jo_cons (je_sink (je_var 0)) (jo_cons (je_var 1) (jo_cons (je_sink (je_ix o_ix (je_var 2) (je_int))) (jo_nil)))) (lenIs_cons (lenIs_cons (lenIs_cons (lenIs_nil)))))))
          (jb_cons (js_if (jt_w (jw_or (jt_cmp (o_ne (hu64 hr)) (je_call (ok_way B D) (hr.mono (by omega)) rfl D.d_way.mg D.d_way.fn.kp D.d_way.bd tk (jo_cons (je_sink (je_var 2)) (jo_cons (je_sink (je_var 3)) (jo_cons (je_sink (je_var 8)) (jo_nil)))) (lenIs_cons (lenIs_cons (lenIs_cons (lenIs_nil))))) (je_ix o_ix (je_ix o_ix (je_var 6) (je_var 8)) (je_int))) (jw_or1 (jt_cmp (o_ne (hu64 hr)) (je_call (ok_heard B D) (hr.mono (by omega)) rfl D.d_heard.mg D.d_heard.fn.kp D.d_heard.bd tk (jo_cons (je_sink (je_var 2)) (jo_cons (je_sink (je_var 3)) (jo_cons (je_sink (je_var 8)) (jo_nil)))) (lenIs_cons (lenIs_cons (lenIs_cons (lenIs_nil))))) (je_ix o_ix (je_ix o_ix (je_var 6) (je_var 8)) (je_int)))))) (jb_one (js_ret (jv_of (je_bl)))) (jb_nil))
          (jb_one (js_if (jt_cmp (o_ne (hu64 hr)) (je_call (ok_idle B D) (hr.mono (by omega)) rfl D.d_idle.mg D.d_idle.fn.kp D.d_idle.bd tk (jo_cons (je_sink (je_var 2)) (jo_cons (je_sink (je_var 3)) (jo_cons (je_sink (je_var 8)) (jo_nil)))) (lenIs_cons (lenIs_cons (lenIs_cons (lenIs_nil))))) (je_call (ok__law_idle B D) (hr.mono (by omega)) rfl D.d__law_idle.mg D.d__law_idle.fn.kp D.d__law_idle.bd tk (jo_cons (je_sink (je_var 6)) (jo_cons (je_sink (je_var 8)) (jo_nil))) (lenIs_cons (lenIs_cons (lenIs_nil))))) (jb_one (js_ret (jv_of (je_bl)))) (jb_nil))))))
          (jb_one (js_ret (jv_of (je_bl)))))))))))))
end
end LK

namespace LK
open PySem PySem.Spec PyProof.Rows L2 MM
/-! ### the drawn numbers -/
theorem cell_ok (ns : List Int) (hn : ns.length ≤ 63) (k : Nat) (hk : k ≤ 900000) : ∃ z : Int, F__law_cell_at [.p (scrD ns), .p (.int k)] = .ok (.int z) [.p (scrD ns), .p (.int k)] := by
  by_cases h : k < ns.length
  · have e : atI ns (k : Int) = some ns[k] := atI_nat (by omega) (by simp [h])
    exact ⟨ns[k], by simp [F__law_cell_at, runF, M__law_cell_at, h, e]⟩
  · by_cases h2 : ns = []
    · subst h2
      have h0 : ¬ ((k : Int) < 0) := by omega
      exact ⟨0, by simp [F__law_cell_at, runF, M__law_cell_at, h0]⟩
    · have hl : 0 < ns.length := List.length_pos_iff.mpr h2
      have h3 : (0 : Int) < ns.length := by omega
      have h4 : ns.length < 1073741824 := by omega
      have h4' : (ns.length : Int) < 1073741824 := by omega
      have he : ns.isEmpty = false := by cases ns <;> first | exact absurd rfl h2 | rfl
      have hm : ((k : Int) % ns.length).toNat < ns.length := by
        have := Int.emod_lt_of_pos (k : Int) h3
        have := Int.emod_nonneg (k : Int) (Int.ne_of_gt h3)
        omega
      have e : atI ns ((k : Int) % ns.length) = some (ns[((k : Int) % ns.length).toNat]) := atI_nat (Int.emod_nonneg _ (Int.ne_of_gt h3)) (by simp [hm])
      have hmid : midI (if 60 < (k : Int) / ns.length then 60 else (k : Int) / ns.length) = true := by
        have : 0 ≤ (k : Int) / ns.length := Int.ediv_nonneg (by omega) (by omega)
        apply midI_of <;> split <;> omega
      obtain ⟨ε', hf, z, s3, h5, h6⟩ := forL_inv (t := tName 3) (mb := sSet 2 (mSink (mBin (lift2 fDiv) (mVar 2) (mC (.int 1000003)))))
        (fun _ ε => ∃ (z : Int) (s3 : Sl), (s3 = .no ∨ ∃ d, s3 = .p d) ∧ ε = [.p (scrD ns), .p (.int k), .p (.int z), s3])
        (fun x xs ε ⟨z, s3, h5, h6⟩ => by
          subst h6
          refine ⟨[.p (scrD ns), .p (.int k), .p (.int z), .p x], [.p (scrD ns), .p (.int k), .p (.int (z / 1000003)), .p x], ?_, by simp, _, _, .inr ⟨x, rfl⟩, rfl⟩
          rcases h5 with e | ⟨d, e⟩ <;> subst e <;> simp)
        (rngD 0 1 (if 60 < (k : Int) / ns.length then 60 else (k : Int) / ns.length).toNat) [.p (scrD ns), .p (.int k), .p (.int (ns[((k : Int) % ns.length).toNat])), .no] ⟨_, _, .inl rfl, rfl⟩
      subst h6
      exact ⟨_, by simp [F__law_cell_at, runF, M__law_cell_at, h, he, hl, h3, h4, h4', e, hmid, hf, smallI]; rfl⟩
theorem mixed_ok (ns : List Int) (hn : ns.length ≤ 63) (k : Nat) (hk : k ≤ 900000) (b : Int) (hb : 0 < b) : ∃ r : Int, (0 ≤ r ∧ r < b) ∧ F__law_mixed [.p (scrD ns), .p (.int k), .p (.int b)] = .ok (.int r) [.p (scrD ns), .p (.int k), .p (.int b)] := by
  obtain ⟨z, hz⟩ := cell_ok ns hn k hk
  have hs : smallI ((z * 1103515245 + 7919 * k + 12345) % 2147483647) = true := by
    have := Int.emod_nonneg (z * 1103515245 + 7919 * k + 12345) (by decide : (2147483647 : Int) ≠ 0)
    have := Int.emod_lt_of_pos (z * 1103515245 + 7919 * k + 12345) (by decide : (0 : Int) < 2147483647)
    exact smallI_of (by omega) (by omega)
  have s1 : smallI 1103515245 = true := by decide
  have s2 : smallI 7919 = true := by decide
  exact ⟨_, ⟨Int.emod_nonneg _ (Int.ne_of_gt hb), Int.emod_lt_of_pos _ hb⟩, by simp [F__law_mixed, runF, M__law_mixed, hz, hs, s1, s2, hb]; rfl⟩
def tw (n : Nat) : List PD := List.replicate n (.int 0)
theorem tw_len (n : Nat) : (tw n).length = n := by simp [tw]
theorem tw_app (n : Nat) : tw n ++ [.int 0] = tw (n + 1) := by simp [tw, List.replicate_succ']
theorem tw_zero : tw 0 = [] := rfl
def drF (r : FOut) : Int := match r with
  | .ok (.int r) _ => r
  | _ => 0
def dr (ns : List Int) (n : Nat) (b : Int) : Int := drF (F__law_draw [.p (scrD ns), .io (.l (tw n)), .p (.int b)])
theorem draw_all (ns : List Int) (hn : ns.length ≤ 63) (n : Nat) (h : n < 900000) (b : Int) (hb : 0 < b) : ∃ r : Int, (0 ≤ r ∧ r < b) ∧ F__law_draw [.p (scrD ns), .io (.l (tw n)), .p (.int b)] = .ok (.int r) [.p (scrD ns), .io (.l (tw (n + 1))), .p (.int b)] := by
  obtain ⟨r, h1, h2⟩ := mixed_ok ns hn (n + 1) (by omega) b hb
  have hbig : n < 1000000 := by omega
  have h2' : F__law_mixed [.p (scrD ns), .p (.int ((n : Int) + 1)), .p (.int b)] = .ok (.int r) [.p (scrD ns), .p (.int ((n : Int) + 1)), .p (.int b)] := by
    simpa using h2
  exact ⟨r, h1, by simp [F__law_draw, runF, M__law_draw, tw_len, tw_app, hbig, h2']⟩
theorem draw_ok (ns : List Int) (hn : ns.length ≤ 63) (n : Nat) (h : n < 900000) (b : Int) (hb : 0 < b) : F__law_draw [.p (scrD ns), .io (.l (tw n)), .p (.int b)] = .ok (.int (dr ns n b)) [.p (scrD ns), .io (.l (tw (n + 1))), .p (.int b)] := by
  obtain ⟨r, _, e⟩ := draw_all ns hn n h b hb
  have : dr ns n b = r := by unfold dr; rw [e]; rfl
  rw [this, e]
theorem dr_in (ns : List Int) (hn : ns.length ≤ 63) (n : Nat) (h : n < 900000) (b : Int) (hb : 0 < b) : 0 ≤ dr ns n b ∧ dr ns n b < b := by
  obtain ⟨r, h1, e⟩ := draw_all ns hn n h b hb
  have : dr ns n b = r := by unfold dr; rw [e]; rfl
  rw [this]; exact h1

/-! ### the number of games, row by row -/
def rows (late : Nat) : List Int → List Int
  | [] => [1]
  | b :: bs => ((rows late bs).headD 1 + b * (rows late bs).getD late 1) :: rows late bs
def cnt (late : Nat) (bs : List Int) : Int := (rows late bs).headD 1
theorem rows_len (late : Nat) : ∀ bs : List Int, (rows late bs).length = bs.length + 1
  | [] => rfl
  | b :: bs => by simp [rows, rows_len late bs]
theorem cnt_cons (late : Nat) (b : Int) (bs : List Int) : cnt late (b :: bs) = cnt late bs + b * (rows late bs).getD late 1 := rfl
theorem rows_drop (late : Nat) : ∀ (bs : List Int) (k : Nat), (rows late bs).getD k 1 = cnt late (bs.drop k)
  | [], 0 => rfl
  | [], k + 1 => by simp [rows, cnt]
  | b :: bs, 0 => by simp [rows, cnt]
  | b :: bs, k + 1 => by simpa [rows] using rows_drop late bs k
theorem cnt_step (late : Nat) (b : Int) (bs : List Int) : cnt late (b :: bs) = cnt late bs + b * cnt late (bs.drop late) := by rw [cnt_cons, rows_drop]
theorem rows_head (late : Nat) (bs : List Int) : (rows late bs)[0]? = some (cnt late bs) := by cases bs <;> rfl
def kn (late : Nat) (bs : List Int) (m i : Nat) : List Int := List.replicate i 1 ++ (rows late (bs.drop i) ++ List.replicate m 1)
section
variable {late m i : Nat} {bs : List Int}
theorem kn_len (h : i ≤ bs.length) : (kn late bs m i).length = bs.length + 1 + m := by
  simp only [kn, List.length_append, List.length_replicate, rows_len, List.length_drop]
  omega
theorem kn_get1 : atI (iD (kn late bs m (i + 1))) ((i : Int) + 1) = some (.int (cnt late (bs.drop (i + 1)))) := by
  refine atI_nat (by omega) ?_
  have e : ((i : Int) + 1).toNat = i + 1 := by omega
  rw [e, iD_at, kn, List.getElem?_append_right (by simp), List.length_replicate, Nat.sub_self, List.getElem?_append_left (by rw [rows_len]; omega), rows_head]
  rfl
theorem kn_get2 (h : i < bs.length) (hm : late ≤ m) : atI (iD (kn late bs m (i + 1))) ((i : Int) + 1 + (late : Int)) = some (.int (cnt late ((bs.drop (i + 1)).drop late))) := by
  refine atI_nat (by omega) ?_
  have e : ((i : Int) + 1 + (late : Int)).toNat = i + 1 + late := by omega
  rw [e, iD_at, kn, List.getElem?_append_right (by simp), List.length_replicate, show i + 1 + late - (i + 1) = late by omega, ← rows_drop]
  by_cases hl : late < (rows late (bs.drop (i + 1))).length
  · rw [List.getElem?_append_left hl, List.getD_eq_getElem?_getD, List.getElem?_eq_getElem hl]
    rfl
  · rw [List.getElem?_append_right (by omega), List.getElem?_replicate, if_pos (by rw [rows_len] at hl ⊢; omega), List.getD_eq_getElem?_getD, List.getElem?_eq_none (by omega)]
    rfl
theorem kn_set (h : i < bs.length) : (iD (kn late bs m (i + 1))).set i (.int (cnt late (bs.drop (i + 1)) + bs[i] * cnt late ((bs.drop (i + 1)).drop late))) = iD (kn late bs m i) := by
  have e : bs.drop i = bs[i] :: bs.drop (i + 1) := by rw [List.drop_eq_getElem_cons h]
  rw [iD_set]
  congr 1
  rw [kn, kn, e, rows, List.replicate_succ', List.append_assoc, List.set_append_right _ _ (by simp), List.length_replicate, Nat.sub_self]
  have r := rows_drop late (bs.drop (i + 1)) late
  rw [r]
  rfl
theorem kn_top : kn late bs m bs.length = List.replicate (bs.length + 1 + m) 1 := by
  simp only [kn, List.drop_length, rows]
  rw [show ([1] : List Int) = List.replicate 1 1 from rfl, List.replicate_append_replicate, List.replicate_append_replicate]
  congr 1
  omega
theorem kn_zero : (iD (kn late bs m 0)).length = bs.length + 1 + m ∧ atI (iD (kn late bs m 0)) 0 = some (.int (cnt late bs)) := by
  refine ⟨by rw [iD_len, kn_len (Nat.zero_le _)], atI_nat (by decide) ?_⟩
  show (iD (kn late bs m 0))[0]? = _
  rw [iD_at, kn]
  simp only [List.replicate_zero, List.nil_append, List.drop_zero]
  rw [List.getElem?_append_left (by rw [rows_len]; omega), rows_head]
  rfl
end
theorem rngD_succ (lo c : Int) (n : Nat) : rngD lo c (n + 1) = .int lo :: rngD (lo + c) c n := by
  unfold rngD
  rw [List.range_succ_eq_map, List.map_cons, List.map_map]
  congr 1
  · simp
  · apply List.map_congr_left
    intro x _
    simp only [Function.comp_apply, PyData.int.injEq]
    have : ((Nat.succ x : Nat) : Int) = (x : Int) + 1 := rfl
    rw [this, Int.add_mul]
    omega
theorem rngD_last (lo c : Int) (n : Nat) : rngD lo c (n + 1) = rngD lo c n ++ [.int (lo + n * c)] := by
  unfold rngD
  rw [List.range_succ, List.map_append]
  rfl
theorem rngD_rev (n : Nat) : (rngD 0 1 n).reverse = rngD ((n : Int) - 1) (-1) n := by
  induction n with
  | zero => rfl
  | succ n ih =>
    rw [rngD_last, List.reverse_append, ih, rngD_succ]
    simp only [List.reverse_cons, List.reverse_nil, List.nil_append, List.singleton_append, List.cons.injEq, PyData.int.injEq]
    refine ⟨by omega, ?_⟩
    congr 1
    omega
abbrev stepB : M Fl := sSetIx 2 (mVar 3) (mVal (mBin (lift2 fAdd) (mBin (lift2 fIx) (mVar 2) (mBin (lift2 fAdd) (mVar 3) (mC (.int 1)))) (mBin (lift2 fMul) (mBin (lift2 fIx) (mVar 1) (mVar 3)) (mBin (lift2 fIx) (mVar 2) (mBin (lift2 fAdd) (mBin (lift2 fAdd) (mVar 3) (mC (.int 1))) (mVar 0))))))
abbrev Sm (bs : List Int) : Prop := ∀ b ∈ bs, 0 ≤ b ∧ b ≤ 3
theorem loop_ok {late m : Nat} {bs : List Int} (hs : Sm bs) (hm : late ≤ m) : ∀ (i : Nat) (s3 : Sl), i ≤ bs.length → (s3 = .no ∨ ∃ d, s3 = .p d) →
    ∃ s3' : Sl, forL (tName 3) stepB (rngD ((i : Int) - 1) (-1) i) [.p (.int late), .p (.tuple (iD bs)), .ow (.l (iD (kn late bs m i))), s3] = .ok .nx [.p (.int late), .p (.tuple (iD bs)), .ow (.l (iD (kn late bs m 0))), s3']
  | 0, s3, _, _ => ⟨s3, rfl⟩
  | i + 1, s3, h, h3 => by
    have hi : i < bs.length := h
    obtain ⟨s3', ih⟩ := loop_ok hs hm i (.p (.int i)) (by omega) (.inr ⟨_, rfl⟩)
    refine ⟨s3', ?_⟩
    have e0 : ((i + 1 : Nat) : Int) - 1 = i := by omega
    rw [e0, rngD_succ]
    have eb : atI (iD bs) (i : Int) = some (.int bs[i]) := iD_atI hi
    have sb : smallI bs[i] = true := by have := hs bs[i] (List.getElem_mem hi); exact smallI_of (by omega) (by omega)
    have el : ixN (kn late bs m (i + 1)).length (i : Int) = some i := by
      rw [kn_len h]
      unfold ixN
      rw [if_pos (by omega), if_pos (by omega)]
      rfl
    have ks := kn_set (late := late) (m := m) hi
    have k1 := kn_get1 (late := late) (m := m) (i := i) (bs := bs)
    have k2 := kn_get2 (late := late) (m := m) hi hm
    have t3 : tName 3 (.int i) [.p (.int late), .p (.tuple (iD bs)), .ow (.l (iD (kn late bs m (i + 1)))), s3] = some [.p (.int late), .p (.tuple (iD bs)), .ow (.l (iD (kn late bs m (i + 1)))), .p (.int i)] := by
      rcases h3 with e | ⟨d, e⟩ <;> subst e <;> simp
    unfold forL
    simp only [t3]
    have sB : stepB [.p (.int late), .p (.tuple (iD bs)), .ow (.l (iD (kn late bs m (i + 1)))), .p (.int i)] = .ok .nx [.p (.int late), .p (.tuple (iD bs)), .ow (.l (iD (kn late bs m i))), .p (.int i)] := by
      rw [← ks]
      simp only [stepB]
      simp [k1, k2, eb, sb, el]
    rw [sB]
    simp only [Out.bind_ok]
    exact ih
theorem rep1 (k : Nat) : (List.replicate k [PyData.int 1]).flatten = iD (List.replicate k 1) := by
  simp [iD]
theorem F_is_whole_i (i lo hi : Int) : F_is_whole [.p (.int i), .p (.int lo), .p (.int hi)] = .ok (.bool (decide (lo ≤ i) && decide (i ≤ hi))) [.p (.int i), .p (.int lo), .p (.int hi)] := by
  by_cases h : lo ≤ i <;> simp -implicitDefEqProofs [F_is_whole, runF, M_is_whole, h]
theorem F_are_beats_i (bs : List Int) (hs : Sm bs) (m : Int) (h : (bs.length : Int) ≤ m) (hb : bs.length ≤ 1000) : F_are_beats [.p (.tuple (iD bs)), .p (.int m)] = .ok (.bool true) [.p (.tuple (iD bs)), .p (.int m)] := by
  have e := lcL_map (vs := [2]) (t := tName 2) (tt := xYes) (te := mVal (mCall F_is_whole (oCons (mSink (mVar 2)) (oCons (mC (.int 0)) (oCons (mSink (mC (.int 3))) oNil))))) (ε := [.p (.tuple (iD bs)), .p (.int m), .no])
    (fun _ => .bool true) (iD bs) [] (fun x hx => by
      obtain ⟨b, hb, rfl⟩ := iD_mem hx
      obtain ⟨h0, h1⟩ := hs b hb
      refine ⟨_, _, _, by simp; rfl, by simp; rfl, by simp [F_is_whole_i, h0, h1]; rfl, by simp⟩)
  have hb2 : bs.length ≤ big := Nat.le_trans hb (by decide)
  have em : (iD bs).map (fun _ => PyData.bool true) = bs.map fun _ => PyData.bool true := by unfold iD; rw [List.map_map]; rfl
  have eb : boolsOf (bs.map fun _ => PyData.bool true) = some (bs.map fun _ => true) := boolsOf_map (fun _ => true) bs
  rw [List.nil_append, em] at e
  simp -implicitDefEqProofs [F_are_beats, runF, M_are_beats, h, e, fAll, hb2, eb]
section
variable {late : Nat} {bs : List Int}
theorem count_ok (hs : Sm bs) (hb : bs.length ≤ 1000) (hl : late ≤ 1000) : F__law_count [.p (.int late), .p (.tuple (iD bs))] = .ok (.int (cnt late bs)) [.p (.int late), .p (.tuple (iD bs))] := by
  obtain ⟨s3, lk⟩ := loop_ok hs (Nat.le_succ late) bs.length .no (Nat.le_refl _) (.inl rfl)
  have e1 : ((bs.length : Int) + (late : Int) + 2).toNat = bs.length + 1 + (late + 1) := by omega
  have m1 : midI ((bs.length : Int) + (late : Int) + 2) = true := midI_of (by omega) (by omega)
  have l1 : bs.length + 1 + (late + 1) ≤ big := by unfold big; omega
  have ke : iD (List.replicate (bs.length + 1 + (late + 1)) 1) = List.replicate (bs.length + 1 + (late + 1)) (PyData.int 1) := iD_rep _ _
  rw [kn_top, ke] at lk
  have kz := (kn_zero (late := late) (m := late + 1) (bs := bs)).2
  have hc : bs.length ≤ 1000000 := by omega
  have hc' : (bs.length : Int) ≤ 1000000 := by omega
  have rr := rngD_rev bs.length
  simp -implicitDefEqProofs [F__law_count, runF, M__law_count, e1, m1, l1, hc, hc', rr, lk, kz]
/-- the drawn beats -/
theorem pick {r d : Int} (h0 : 0 ≤ r) (h1 : r < 6) (h2 : 0 ≤ d) (h3 : d < 4) : ∃ v, 0 ≤ v ∧ v ≤ 3 ∧ atI [.int 1, .int 1, .int 1, .int 2, .int 0, .int d] r = some (PyData.int v) := by
  have : r = 0 ∨ r = 1 ∨ r = 2 ∨ r = 3 ∨ r = 4 ∨ r = 5 := by omega
  rcases this with e | e | e | e | e | e <;> subst e
  · exact ⟨1, by decide, by decide, rfl⟩
  · exact ⟨1, by decide, by decide, rfl⟩
  · exact ⟨1, by decide, by decide, rfl⟩
  · exact ⟨2, by decide, by decide, rfl⟩
  · exact ⟨0, by decide, by decide, rfl⟩
  · exact ⟨d, h2, by omega, rfl⟩
theorem some_beats_ok (ns : List Int) (hn : ns.length ≤ 63) (n : Nat) (h : n ≤ 800000) (mo : Int) (h0 : 0 ≤ mo) (h8 : mo ≤ 8) : ∃ (bs : List Int) (n' : Nat), Sm bs ∧ (bs.length : Int) ≤ mo ∧ n' ≤ n + 17 ∧
    F__law_some_beats [.p (scrD ns), .io (.l (tw n)), .p (.int mo)] = .ok (.tuple (iD bs)) [.p (scrD ns), .io (.l (tw n')), .p (.int mo)] := by
  have d0 := draw_ok ns hn n (by omega) (mo + 1) (by omega)
  have r0 := dr_in ns hn n (by omega) (mo + 1) (by omega)
  obtain ⟨j, hj⟩ : ∃ j : Nat, dr ns n (mo + 1) = j := ⟨(dr ns n (mo + 1)).toNat, by omega⟩
  rw [hj] at d0 r0
  have mj : midI (j : Int) = true := midI_of (by omega) (by omega)
  have lj : (rngD 0 1 j).length = j := by simp [rngD]
  obtain ⟨ε', hf, m, made, s4, hs, hl, hm, e⟩ := forL_inv (t := tName 4) (mb := sDrop (mApp 3 (mVal (mBin (lift2 fIx) (mLst (mCons (mVal (mC (.int 1))) (mCons (mVal (mC (.int 1))) (mCons (mVal (mC (.int 1))) (mCons (mVal (mC (.int 2))) (mCons (mVal (mC (.int 0))) (mCons (mVal (mCall (F__law_draw) (oCons (mSink (mVar 0)) (oCons (mVar 1) (oCons (mC (.int 4)) (oNil)))))) (mNil)))))))) (mCall (F__law_draw) (oCons (mSink (mVar 0)) (oCons (mVar 1) (oCons (mC (.int 6)) (oNil)))))))))
    (fun xs ε => ∃ (m : Nat) (made : List Int) (s4 : Sl), Sm made ∧ (made.length : Int) + xs.length ≤ j ∧ m + 2 * xs.length ≤ n + 1 + 2 * j ∧ (ε = [.p (scrD ns), .io (.l (tw m)), .p (.int mo), .ow (.l (iD made)), s4] ∧ (s4 = .no ∨ ∃ d, s4 = .p d)))
    (fun x xs ε ⟨m, made, s4, hs, hl, hm, e, h4⟩ => by
      subst e
      rw [List.length_cons] at hl hm
      have d1 := draw_ok ns hn m (by omega) 4 (by omega)
      have r1 := dr_in ns hn m (by omega) 4 (by omega)
      have d2 := draw_ok ns hn (m + 1) (by omega) 6 (by omega)
      have r2 := dr_in ns hn (m + 1) (by omega) 6 (by omega)
      obtain ⟨v, v0, v1, hv⟩ := pick r2.1 r2.2 r1.1 r1.2
      have hb : made.length < big := by unfold big; omega
      have em : iD made ++ [.int v] = iD (made ++ [v]) := by rw [iD_app]; rfl
      refine ⟨[.p (scrD ns), .io (.l (tw m)), .p (.int mo), .ow (.l (iD made)), .p x], [.p (scrD ns), .io (.l (tw (m + 1 + 1))), .p (.int mo), .ow (.l (iD (made ++ [v]))), .p x], ?_, ?_, m + 1 + 1, made ++ [v], _, ?_, ?_, ?_, rfl, .inr ⟨x, rfl⟩⟩
      · rcases h4 with e | ⟨d, e⟩ <;> subst e <;> simp
      · simp -implicitDefEqProofs [d1, d2, hv, hb, em]
      · intro b hb
        rcases List.mem_append.mp hb with hb | hb
        · exact hs b hb
        · rw [List.mem_singleton.mp hb]; exact ⟨v0, v1⟩
      · rw [List.length_append, List.length_singleton]; omega
      · omega)
    (rngD 0 1 j) [.p (scrD ns), .io (.l (tw (n + 1))), .p (.int mo), .ow (.l (iD [])), .no] ⟨n + 1, [], .no, fun b hb => absurd hb (List.not_mem_nil), by rw [lj]; simp, by rw [lj]; omega, rfl, .inl rfl⟩
  rw [List.length_nil] at hl hm
  obtain ⟨e, _⟩ := e
  subst e
  rw [iD_nil] at hf
  exact ⟨made, m, hs, by omega, by omega, by simp -implicitDefEqProofs [F__law_some_beats, runF, M__law_some_beats, d0, mj, hf]⟩
end
/-! ### the plain law -/
section
variable {late : Nat} {bs : List Int}
theorem mulnn {a b : Int} (h : 0 ≤ a) (h2 : 0 ≤ b) : 0 ≤ a * b := Int.mul_nonneg h h2
theorem Sm.tail {b : Int} (h : Sm (b :: bs)) : Sm bs := fun x hx => h x (List.mem_cons_of_mem _ hx)
theorem Sm.drop (h : Sm bs) (k : Nat) : Sm (bs.drop k) := fun x hx => h x (List.mem_of_mem_drop hx)
theorem cnt_pos_n : ∀ (n : Nat) (bs : List Int), bs.length ≤ n → Sm bs → 1 ≤ cnt late bs
  | _, [], _, _ => Int.le_refl _
  | n + 1, b :: bs, hl, h => by
    rw [cnt_step]
    have h1 := cnt_pos_n n bs (by simpa using hl) h.tail
    have h2 := cnt_pos_n n (bs.drop late) (by rw [List.length_drop]; have : bs.length ≤ n := by simpa using hl
                                              omega) (h.tail.drop _)
    have h3 := mulnn (h b (List.mem_cons_self ..)).1 (by omega : 0 ≤ cnt late (bs.drop late))
    omega
theorem cnt_pos (h : Sm bs) : 1 ≤ cnt late bs := cnt_pos_n _ bs (Nat.le_refl _) h
end
end LK

namespace LK
open PySem PySem.Spec PyProof.Rows L2 MM
@[simp] theorem jk_some (d : PD) : jk (some d) = .p d := rfl
/-- a loop, turn by turn -/
theorem forL_ix {α : Type} {t : Tg} {mb : M Fl} (enc : α → PD) (P : Nat → En → Prop) : ∀ (xs : List α) (k : Nat) (ε : En), (∀ n x ε, xs[n]? = some x → P (k + n) ε → ∃ ε1 ε2, t (enc x) ε = some ε1 ∧ mb ε1 = .ok .nx ε2 ∧ P (k + n + 1) ε2) → P k ε →
    ∃ ε', forL t mb (xs.map enc) ε = .ok .nx ε' ∧ P (k + xs.length) ε'
  | [], k, ε, _, h => ⟨ε, rfl, h⟩
  | x :: xs, k, ε, h, h0 => by
    obtain ⟨ε1, ε2, h1, h2, h3⟩ := h 0 x ε rfl h0
    obtain ⟨ε', h4, h5⟩ := forL_ix enc P xs (k + 1) ε2 (fun n y δ e hp => by
      have := h (n + 1) y δ (by simpa using e) (by rw [show k + (n + 1) = k + 1 + n by omega]; exact hp)
      rw [show k + (n + 1) + 1 = k + 1 + n + 1 by omega] at this
      exact this) h3
    refine ⟨ε', ?_, by rw [List.length_cons, show k + (xs.length + 1) = k + 1 + xs.length by omega]; exact h5⟩
    rw [List.map_cons]
    unfold forL
    simp only [h1, h2, Out.bind_ok]
    exact h4
theorem forL_rng {t : Tg} {mb : M Fl} (P : Nat → En → Prop) (n : Nat) (ε : En) (h : ∀ k ε, k < n → P k ε → ∃ ε1 ε2, t (.int (k : Nat)) ε = some ε1 ∧ mb ε1 = .ok .nx ε2 ∧ P (k + 1) ε2) (h0 : P 0 ε) : ∃ ε', forL t mb (rngD 0 1 n) ε = .ok .nx ε' ∧ P n ε' := by
  have e : rngD 0 1 n = (List.range n).map fun i => .int (i : Nat) := by
    unfold rngD
    apply List.map_congr_left
    intro i _
    rw [show (0 : Int) + (i : Int) * 1 = i by omega]
  obtain ⟨ε', h1, h2⟩ := forL_ix (fun i : Nat => PyData.int (i : Nat)) P (List.range n) 0 ε (fun k x ε hx hp => by
    have hk := (List.getElem?_eq_some_iff.mp hx).1
    rw [List.length_range] at hk
    rw [List.getElem?_range hk] at hx
    cases hx
    rw [Nat.zero_add] at hp ⊢
    exact h k ε hk hp) h0
  rw [Nat.zero_add, List.length_range] at h2
  exact ⟨ε', by rw [e]; exact h1, h2⟩
theorem cut_iD {bs : List Int} (k : Nat) {z : Int} (h0 : 0 ≤ z) (h : z.toNat = k) : cutD (iD bs) (some z) none = iD (bs.drop k) := by
  rw [cut_from _ h0, h, iD_drop]
theorem cnt_le_n {L : Nat} : ∀ (n : Nat) (bs : List Int), bs.length ≤ n → Sm bs → cnt L bs ≤ ((4 ^ n : Nat) : Int)
  | n, [], _, _ => by
    show (1 : Int) ≤ _
    have := Nat.pow_pos (n := n) (show 0 < 4 by decide)
    omega
  | n + 1, b :: bs, hl, hs => by
    have hn : bs.length ≤ n := by simpa using hl
    rw [cnt_step]
    have h1 := cnt_le_n (L := L) n bs hn hs.tail
    have h2 := cnt_le_n (L := L) n (bs.drop L) (by rw [List.length_drop]; omega) (hs.tail.drop L)
    obtain ⟨b0, b3⟩ := hs b (List.mem_cons_self ..)
    have hp := cnt_pos (late := L) (hs.tail.drop L)
    have h3 : b * cnt L (bs.drop L) ≤ 3 * ((4 ^ n : Nat) : Int) := Int.le_trans (Int.mul_le_mul_of_nonneg_right b3 (by omega)) (by omega)
    rw [Nat.pow_succ]
    omega
theorem cnt_le {L : Nat} {bs : List Int} (hs : Sm bs) (h : bs.length ≤ 8) : cnt L bs ≤ 65536 := cnt_le_n 8 bs h hs
theorem sWh_step {mt : M Bool} {mb : M Fl} {n : Nat} {ε ε1 ε2 : En} (h1 : mt ε = .ok true ε1) (h2 : mb ε1 = .ok .nx ε2) : sWh mt mb (n + 1) ε = sWh mt mb n ε2 := by
  unfold sWh
  rw [h1, Out.bind_ok, if_pos rfl, h2, Out.bind_ok]
  cases n <;> rfl
theorem sWh_end {mt : M Bool} {mb : M Fl} {n : Nat} {ε ε1 : En} (h1 : mt ε = .ok false ε1) : sWh mt mb (n + 1) ε = .ok .nx ε1 := by
  unfold sWh
  rw [h1, Out.bind_ok, if_neg (by simp)]
theorem forL_step {t : Tg} {mb : M Fl} {x : PD} {xs : List PD} {ε ε1 ε2 : En} (h1 : t x ε = some ε1) (h2 : mb ε1 = .ok .nx ε2) : forL t mb (x :: xs) ε = forL t mb xs ε2 := by
  conv => lhs; unfold forL
  simp only [h1, h2, Out.bind_ok]
/-! ### a body that returns -/
def RetP (n : Nat) (r : Out Fl) (d : PD) : Prop := ∃ ε, r = .ok (.rt d) ε ∧ n ≤ ε.length
theorem RetP.seq {n : Nat} {a b : M Fl} {ε ε1 : En} {d : PD} (h : a ε = .ok .nx ε1) (r : RetP n (b ε1) d) : RetP n (sSeq a b ε) d := by
  rw [sSeq_ap, h]
  exact r
theorem RetP.seqR {n : Nat} {a b : M Fl} {ε : En} {d : PD} (r : RetP n (a ε) d) : RetP n (sSeq a b ε) d := by
  obtain ⟨ε', h, l⟩ := r
  rw [sSeq_ap, h]
  exact ⟨ε', rfl, l⟩
theorem RetP.ret {n : Nat} {m : M PD} {ε ε1 : En} {d : PD} (h : m ε = .ok d ε1) (l : n ≤ ε1.length) : RetP n (sRet m ε) d := ⟨ε1, by rw [sRet_ap, h]; rfl, l⟩
theorem outs_all : ∀ (ds : List PD) (ε : En), ds.length ≤ ε.length → outs (ds.map .p) ε = ds.map .p
  | [], ε, _ => rfl
  | d :: ds, [], h => by simp at h
  | d :: ds, e :: ε, h => by
    rw [List.map_cons, outs_p, outs_all ds ε (by simpa using h)]
theorem RetP.fin {k nN : Nat} {m : M Fl} {ds : List PD} {d : PD} (hk : ds.length = k) (r : RetP k (m (ds.map Sl.p ++ List.replicate (nN - k) .no)) d) : runF k nN m (ds.map Sl.p) = .ok d (ds.map Sl.p) := by
  obtain ⟨ε, h, l⟩ := r
  unfold runF
  rw [h, finF_rt, if_pos (by rw [List.length_map, hk]; exact l), outs_all ds ε (by rw [hk]; exact l)]
/-- a plan -/
inductive PT where
  | fin
  | ask (cuts : List Int) (subs : List PT)
mutual
def planD : PT → PD
  | .fin => .tuple [.str "end"]
  | .ask cuts subs => .tuple [.str "ask", .tuple (iD cuts), .tuple (plansD subs)]
def plansD : List PT → List PD
  | [] => []
  | p :: ps => planD p :: plansD ps
end
theorem plansD_eq : ∀ ps : List PT, plansD ps = ps.map planD
  | [] => by rw [plansD]; rfl
  | p :: ps => by rw [plansD, plansD_eq ps]; rfl
theorem planD_ask (cuts : List Int) (subs : List PT) : planD (.ask cuts subs) = .tuple [.str "ask", .tuple (iD cuts), .tuple (subs.map planD)] := by rw [planD, plansD_eq]
theorem planD_fin : planD .fin = .tuple [.str "end"] := by rw [planD]
theorem planD_tup (p : PT) : ∃ ds, planD p = .tuple ds := by
  cases p with
  | fin => exact ⟨_, planD_fin⟩
  | ask c s => exact ⟨_, planD_ask c s⟩
@[simp] theorem atI_0 {α : Type} (x : α) (l : List α) : atI (x :: l) 0 = some x := atI_nat (by decide) rfl
@[simp] theorem atI_1 {α : Type} (x y : α) (l : List α) : atI (x :: y :: l) 1 = some y := atI_nat (by decide) rfl
@[simp] theorem atI_2 {α : Type} (x y z : α) (l : List α) : atI (x :: y :: z :: l) 2 = some z := atI_nat (by decide) rfl
theorem atI_last {α : Type} (l : List α) : atI l (-1) = l.getLast? := by
  unfold atI ixN
  cases l with
  | nil => rfl
  | cons x l =>
    rw [List.getLast?_eq_getElem?]
    have h : ¬ (0 : Int) ≤ -1 := by decide
    have h2 : -(((x :: l).length : Nat) : Int) ≤ -1 := by rw [List.length_cons]; omega
    have e : ((-1 : Int) + (((x :: l).length : Nat) : Int)).toNat = (x :: l).length - 1 := by omega
    rw [if_neg h, if_pos h2, e]
    rfl
/-- the cuts of which an answer is heard now -/
def dueL (late : Nat) (put : List (List Int)) : List Int := if put.length ≤ late then [] else put.getD (put.length - 1 - late) []
theorem due_ok (late : Nat) (put : List (List Int)) : F_due_of [.p (.int late), .p (.tuple (cD put))] = .ok (.tuple (iD (dueL late put))) [.p (.int late), .p (.tuple (cD put))] := by
  have e := cD_len put
  unfold dueL
  by_cases h : put.length ≤ late
  · have h1 : ¬ late < put.length := by omega
    have h2 : ¬ (late : Int) < (put.length : Int) := by omega
    simp -implicitDefEqProofs [F_due_of, runF, M_due_of, h, h1, h2]
  · have h1 : late < put.length := by omega
    have h2 : (late : Int) < (put.length : Int) := by omega
    have a : atI (cD put) ((put.length : Int) - 1 - (late : Int)) = some (.tuple (iD (put.getD (put.length - 1 - late) []))) := atI_nat (by omega) (by
      rw [show ((put.length : Int) - 1 - (late : Int)).toNat = put.length - 1 - late by omega, cD_at, List.getD_eq_getElem?_getD, List.getElem?_eq_getElem (by omega)]; rfl)
    simp -implicitDefEqProofs [F_due_of, runF, M_due_of, h, h1, h2, a, -List.getD_eq_getElem?_getD]
/-! ### the path of a thing -/
/-- the answer to cuts -/
def ansL (cuts : List Int) (t : Int) : Nat := (cuts.filter fun c => decide (c ≤ t)).length
theorem ansL_le (cuts : List Int) (t : Int) : ansL cuts t ≤ cuts.length := List.length_filter_le ..
/-- the cuts put from here on -/
def pathG (late : Nat) (t : Int) : Nat → PT → List (List Int) → List (List Int)
  | 0, _, _ => []
  | _ + 1, .fin, _ => []
  | n + 1, .ask c subs, put => c :: (match subs[ansL (dueL late (put ++ [c])) t]? with
    | some q => pathG late t n q (put ++ [c])
    | none => [])
theorem ans_all {cuts : List Int} {t : Int} (h : ∀ c ∈ cuts, c ≤ t) : ansL cuts t = cuts.length := by
  unfold ansL
  rw [List.filter_eq_self.mpr fun c hc => decide_eq_true (h c hc)]
/-! ### plans for a game -/
def CutsOk (things b : Int) (c : List Int) : Prop := (c.length : Int) ≤ b ∧ (∀ x ∈ c, 1 ≤ x ∧ x ≤ things - 1) ∧ c.Pairwise fun x y => x < y
def goodP (things : Int) (late : Nat) : List Int → PT → List (List Int) → Prop
  | [], p, _ => p = .fin
  | b :: bs, .ask c subs, put => CutsOk things b c ∧ subs.length = (dueL late (put ++ [c])).length + 1 ∧ ∀ q ∈ subs, goodP things late bs q (put ++ [c])
  | _ :: _, .fin, _ => False
@[simp] theorem fInt_b (b : Bool) : fInt [.bool b] = some (.val (.int (if b = true then 1 else 0))) := by cases b <;> rfl
theorem sum_ans (cuts : List Int) (t : Int) : (cuts.map fun c => if c ≤ t then (1 : Int) else 0).sum = ansL cuts t := by
  unfold ansL
  induction cuts with
  | nil => rfl
  | cons c cs ih =>
    rw [List.map_cons, List.sum_cons, ih, List.filter_cons]
    by_cases h : c ≤ t
    · simp only [h, decide_true, if_true, List.length_cons]; omega
    · simp only [h, decide_false, Bool.false_eq_true, if_false]; omega
theorem fEq_ask : fEq (.str "ask") (.str "ask") = some (.val (.bool true)) := by rw [fEq_cn (p := True) (.str _ (by decide +kernel)) (.str _ (by decide +kernel)) (by simp)]; rfl
theorem fEq_end : fEq (.str "end") (.str "ask") = some (.val (.bool false)) := by rw [fEq_cn (p := False) (.str _ (by decide +kernel)) (.str _ (by decide +kernel)) ⟨fun h => by injection h with h; exact absurd h (by decide +kernel), False.elim⟩]; rfl
theorem goodP_cuts {things : Int} {late : Nat} {left : List Int} {p : PT} {put : List (List Int)} (hs : Sm left) (h : goodP things late left p put) (hp : ∀ c ∈ put, c.length ≤ 3) (t : Int) : ∀ c ∈ pathG late t left.length p put, c.length ≤ 3 := by
  induction left generalizing p put with
  | nil => intro c hc; simp [pathG] at hc
  | cons b left ih =>
    cases p with
    | fin => exact h.elim
    | ask c subs =>
      obtain ⟨h1, h2, h3⟩ := h
      have hb := hs b (List.mem_cons_self ..)
      have hc3 : c.length ≤ 3 := by have := h1.1; omega
      intro x hx
      rw [List.length_cons, pathG] at hx
      rcases List.mem_cons.mp hx with e | hx
      · rw [e]; exact hc3
      · split at hx
        · rename_i q hq
          exact ih hs.tail (h3 q (List.mem_of_getElem? hq)) (fun y hy => by
            rcases List.mem_append.mp hy with hy | hy
            · exact hp y hy
            · rw [List.mem_singleton.mp hy]; exact hc3) x hx
        · exact absurd hx (List.not_mem_nil)
theorem pathG_len {things : Int} {late : Nat} {left : List Int} {p : PT} {put : List (List Int)} (h : goodP things late left p put) (t : Int) : (pathG late t left.length p put).length = left.length := by
  induction left generalizing p put with
  | nil => rfl
  | cons b left ih =>
    cases p with
    | fin => exact h.elim
    | ask c subs =>
      obtain ⟨h1, h2, h3⟩ := h
      rw [List.length_cons, pathG]
      have hl : ansL (dueL late (put ++ [c])) t < subs.length := by rw [h2]; have := ansL_le (dueL late (put ++ [c])) t; omega
      rw [List.getElem?_eq_getElem hl]
      simp only [List.length_cons, Nat.add_right_cancel_iff]
      exact ih (h3 _ (List.getElem_mem hl))
theorem due_mem {late : Nat} {put : List (List Int)} : dueL late put = [] ∨ dueL late put ∈ put := by
  unfold dueL
  split
  · exact .inl rfl
  · rw [List.getD_eq_getElem?_getD]
    cases e : put[put.length - 1 - late]? with
    | none => exact .inl rfl
    | some c => exact .inr (List.mem_of_getElem? e)
/-- what is heard to all that was put -/
def heardL (put : List (List Int)) (t : Int) : List Int := (put.filter fun c => !decide (c = [])).map fun c => ((ansL c t : Nat) : Int)
abbrev gameD (things : Int) (late : Nat) (bs : List Int) : PD := .tuple [.int things, .int late, .tuple (iD bs)]
theorem good_game_ok {things : Int} {late : Nat} {bs : List Int} (h0 : 1 ≤ things) (h1 : things ≤ 64) (hl : late ≤ 5) (hs : Sm bs) (hb : bs.length ≤ 8) : F_good_game [.p (gameD things late bs)] = .ok (.bool true) [.p (gameD things late bs)] := by
  have e := F_are_beats_i bs hs 8 (by omega) (by omega)
  have h2 : (0 : Int) ≤ late := by omega
  have h3 : (late : Int) ≤ 5 := by omega
  simp -implicitDefEqProofs [F_good_game, runF, M_good_game, F_is_whole_i, h0, h1, h2, h3, e]
theorem need_game_ok {things : Int} {late : Nat} {bs : List Int} (h0 : 1 ≤ things) (h1 : things ≤ 64) (hl : late ≤ 5) (hs : Sm bs) (hb : bs.length ≤ 8) : F_need_game [.p (gameD things late bs)] = .ok .none [.p (gameD things late bs)] := by
  have e := good_game_ok h0 h1 hl hs hb
  simp -implicitDefEqProofs [F_need_game, runF, M_need_game, e]
theorem law_reply_ok (cuts : List Int) (t : Int) (h : cuts.length ≤ 1000) : F__law_reply [.p (.tuple (iD cuts)), .p (.int t)] = .ok (.int (ansL cuts t : Nat)) [.p (.tuple (iD cuts)), .p (.int t)] := by
  have l1 := lcL_m (vs := [2]) (t := tName 2) (te := V__law_reply_0) (ε := [.p (.tuple (iD cuts)), .p (.int t), .no]) PyData.int (fun c => .int (if c ≤ t then 1 else 0)) cuts (fun c _ => ⟨[.p (.tuple (iD cuts)), .p (.int t), .p (.int c)], by simp, by simp [V__law_reply_0], by simp⟩)
  have l1 : lcL [2] (tName 2) xYes V__law_reply_0 (iD cuts) [] _ = _ := l1
  have hs : fSum [.list (cuts.map fun c => PyData.int (if c ≤ t then 1 else 0))] = some (.val (.int (ansL cuts t : Nat))) := by
    show (intsOf _).map _ = _
    rw [intsOf_map', Option.map_some, sum_ans]
  have hb : cuts.length ≤ big := by unfold big; omega
  simp -implicitDefEqProofs [F__law_reply, runF, M__law_reply, l1, hs, hb]
theorem law_due_ok (late : Nat) (put : List (List Int)) : F__law_due [.p (.int late), .p (.tuple (cD put))] = .ok (.tuple (iD (dueL late put))) [.p (.int late), .p (.tuple (cD put))] := by
  unfold dueL
  by_cases h : put.length ≤ late
  · have h1 : ¬ late < put.length := by omega
    have h2 : ¬ (late : Int) < (put.length : Int) := by omega
    simp -implicitDefEqProofs [F__law_due, runF, M__law_due, h, h1, h2]
  · have h1 : late < put.length := by omega
    have h2 : (late : Int) < (put.length : Int) := by omega
    have a : atI (cD put) ((put.length : Int) - 1 - (late : Int)) = some (.tuple (iD (put.getD (put.length - 1 - late) []))) := atI_nat (by omega) (by
      rw [show ((put.length : Int) - 1 - (late : Int)).toNat = put.length - 1 - late by omega, cD_at, List.getD_eq_getElem?_getD, List.getElem?_eq_getElem (by omega)]; rfl)
    simp -implicitDefEqProofs [F__law_due, runF, M__law_due, h, h1, h2, a, -List.getD_eq_getElem?_getD]
/-- the cuts of all beats -/
theorem path_loop (things : Int) (late : Nat) (bs : List Int) (plan : PD) (t : Int) : ∀ (left : List Int) (p : PT) (put : List (List Int)) (fuel : Nat), Sm left → goodP things late left p put → left.length < fuel → (∀ c ∈ put, c.length ≤ 3) → put.length + left.length ≤ 100 →
    sWh T__law_path_0 B__law_path_0 fuel [.p (gameD things late bs), .p plan, .p (.int t), .p (.tuple (cD put)), .p (planD p), .no] = .ok .nx [.p (gameD things late bs), .p plan, .p (.int t), .p (.tuple (cD (put ++ pathG late t left.length p put))), .p (planD .fin), .no]
  | [], p, put, fuel, _, h, hf, _, _ => by
    have h : p = .fin := h
    subst h
    obtain ⟨f, rfl⟩ : ∃ f, fuel = f + 1 := ⟨fuel - 1, by rw [List.length_nil] at hf; omega⟩
    have e := fEq_end
    rw [sWh_end (ε1 := [.p (gameD things late bs), .p plan, .p (.int t), .p (.tuple (cD put)), .p (planD .fin), .no]) (by
      rw [planD_fin]
      simp -implicitDefEqProofs [T__law_path_0, e])]
    simp [pathG]
  | b :: left, .fin, put, fuel, _, h, _, _, _ => h.elim
  | b :: left, .ask c subs, put, fuel, hs, h, hf, hp, hl => by
    obtain ⟨h1, h2, h3⟩ := h
    have hb := hs b (List.mem_cons_self ..)
    have hc3 : c.length ≤ 3 := by have := h1.1; omega
    have hp' : ∀ y ∈ put ++ [c], y.length ≤ 3 := fun y hy => by
      rcases List.mem_append.mp hy with hy | hy
      · exact hp y hy
      · rw [List.mem_singleton.mp hy]; exact hc3
    rw [List.length_cons] at hf hl
    obtain ⟨f, rfl⟩ : ∃ f, fuel = f + 1 := ⟨fuel - 1, by omega⟩
    have e := fEq_ask
    have hlt : ansL (dueL late (put ++ [c])) t < subs.length := by rw [h2]; have := ansL_le (dueL late (put ++ [c])) t; omega
    obtain ⟨q, hq⟩ : ∃ q, subs[ansL (dueL late (put ++ [c])) t]? = some q := ⟨_, List.getElem?_eq_getElem hlt⟩
    have ih := path_loop things late bs plan t left q (put ++ [c]) f hs.tail (h3 q (List.mem_of_getElem? hq)) (by omega) hp' (by rw [List.length_append, List.length_singleton]; omega)
    have edue := law_due_ok late (put ++ [c])
    have hdl : (dueL late (put ++ [c])).length ≤ 1000 := by
      rcases due_mem (late := late) (put := put ++ [c]) with z | z
      · rw [z]; simp
      · have := hp' _ z; omega
    have erep := law_reply_ok (dueL late (put ++ [c])) t hdl
    have eat : atI (subs.map planD) ((ansL (dueL late (put ++ [c])) t : Nat) : Int) = some (planD q) := atI_nat (by omega) (by rw [Int.toNat_natCast, List.getElem?_map, hq]; rfl)
    have fa : fAdd (.tuple (cD put)) (.tuple [.tuple (iD c)]) = some (.val (.tuple (cD (put ++ [c])))) := by
      rw [fAdd_tt _ _ (by simp; unfold big; omega), cD_app]; rfl
    have mt1 : T__law_path_0 [.p (gameD things late bs), .p plan, .p (.int t), .p (.tuple (cD put)), .p (planD (.ask c subs)), .no] = .ok true [.p (gameD things late bs), .p plan, .p (.int t), .p (.tuple (cD put)), .p (planD (.ask c subs)), .no] := by
      rw [planD_ask]
      simp -implicitDefEqProofs [T__law_path_0, e]
    have mb1 : B__law_path_0 [.p (gameD things late bs), .p plan, .p (.int t), .p (.tuple (cD put)), .p (planD (.ask c subs)), .no] = .ok .nx [.p (gameD things late bs), .p plan, .p (.int t), .p (.tuple (cD (put ++ [c]))), .p (planD q), .no] := by
      rw [planD_ask]
      simp -implicitDefEqProofs [B__law_path_0, fa, edue, erep, eat]
    rw [sWh_step mt1 mb1, ih, List.length_cons, pathG, hq, List.append_assoc]
    rfl
theorem law_path_ok {things : Int} {late : Nat} {bs : List Int} {p : PT} (hs : Sm bs) (hb : bs.length ≤ 8) (hp : goodP things late bs p []) (t : Int) : F__law_path [.p (gameD things late bs), .p (planD p), .p (.int t)] =
    .ok (.tuple [.tuple (cD (pathG late t bs.length p [])), .tuple (iD (heardL (pathG late t bs.length p []) t))]) [.p (gameD things late bs), .p (planD p), .p (.int t)] := by
  have hl := path_loop things late bs (planD p) t bs p [] 10000 hs hp (by omega) (fun c hc => absurd hc (List.not_mem_nil)) (by simp; omega)
  rw [List.nil_append, cD_nil] at hl
  have h3 := goodP_cuts hs hp (fun c hc => absurd hc (List.not_mem_nil)) t
  have hpl := pathG_len hp t
  generalize pathG late t bs.length p [] = put at *
  have l1 := lcL_fm (vs := [5]) (t := tName 5) (tt := C__law_path_0) (te := V__law_path_0) (ε := [.p (gameD things late bs), .p (planD p), .p (.int t), .p (.tuple (cD put)), .p (planD .fin), .no])
    (fun c : List Int => PyData.tuple (iD c)) (fun c => !decide (c = [])) (fun c => .int ((ansL c t : Nat) : Int)) put (fun c hc => by
      have e1 := fNe_e (Cn.ints c)
      have e2 : decide (iD c = []) = decide (c = []) := by rw [decide_eq_decide]; exact iD_nil'
      rw [e2] at e1
      have e3 := law_reply_ok c t (by have := h3 c hc; omega)
      exact ⟨[.p (gameD things late bs), .p (planD p), .p (.int t), .p (.tuple (cD put)), .p (planD .fin), .p (.tuple (iD c))], by simp, by simp -implicitDefEqProofs [C__law_path_0, e1], fun _ => by simp -implicitDefEqProofs [V__law_path_0, e3], by simp⟩)
  have l1 : lcL [5] (tName 5) C__law_path_0 V__law_path_0 (cD put) [] _ = _ := l1
  have l2 : (put.filter fun c => !decide (c = [])).map (fun c => PyData.int ((ansL c t : Nat) : Int)) = iD (heardL put t) := by
    unfold heardL iD
    rw [List.map_map]; rfl
  rw [l2] at l1
  have hb2 : put.length ≤ big := by unfold big; omega
  simp -implicitDefEqProofs [F__law_path, runF, M__law_path, hl, l1, hb2]
end LK

namespace LK
open PySem PySem.Spec PyProof.Rows L2 MM
/-! ### what is a plan -/
theorem allT {α : Type} (l : List α) : fAll [.list (l.map fun _ => PyData.bool true)] = some (.val (.bool true)) := by
  show (boolsOf _).map _ = _
  rw [boolsOf_map (fun _ => true) l]
  simp
theorem pair_zip {c : List Int} (h : c.Pairwise fun x y => x < y) : ∀ p ∈ c.zip (c.drop 1), p.1 < p.2 := by
  induction c with
  | nil => intro p hp; simp at hp
  | cons x c ih =>
    obtain ⟨h1, h2⟩ := List.pairwise_cons.mp h
    cases c with
    | nil => intro p hp; simp at hp
    | cons y c =>
      intro p hp
      rw [List.drop_succ_cons, List.drop_zero, List.zip_cons_cons] at hp
      rcases List.mem_cons.mp hp with e | hp
      · subst e; exact h1 y (List.mem_cons_self ..)
      · exact ih h2 p (by rw [List.drop_succ_cons, List.drop_zero]; exact hp)
theorem zip_iD (c d : List Int) : zipD (iD c) (iD d) = (c.zip d).map fun p => .tuple [.int p.1, .int p.2] := by
  unfold zipD iD
  rw [List.zip_map, List.map_map]
  rfl
theorem are_cuts_ok {things b : Int} {c : List Int} (h : CutsOk things b c) (hl : c.length ≤ 1000) : F_are_cuts [.p (.int things), .p (.int b), .p (.tuple (iD c))] = .ok (.bool true) [.p (.int things), .p (.int b), .p (.tuple (iD c))] := by
  obtain ⟨h1, h2, h3⟩ := h
  have l1 := lcL_m (vs := [3]) (t := tName 3) (te := V_are_cuts_0) (ε := [.p (.int things), .p (.int b), .p (.tuple (iD c)), .no, .no]) PyData.int (fun _ => .bool true) c (fun x hx => by
    obtain ⟨g1, g2⟩ := h2 x hx
    exact ⟨[.p (.int things), .p (.int b), .p (.tuple (iD c)), .p (.int x), .no], by simp, by simp -implicitDefEqProofs [V_are_cuts_0, F_is_whole_i, g1, g2], by simp⟩)
  have l1 : lcL [3] (tName 3) xYes V_are_cuts_0 (iD c) [] _ = _ := l1
  have l2 := lcL_m (vs := [3, 4]) (t := tTupT [3, 4]) (te := V_are_cuts_1) (ε := [.p (.int things), .p (.int b), .p (.tuple (iD c)), .no, .no]) (fun p : Int × Int => PyData.tuple [.int p.1, .int p.2]) (fun _ => .bool true) (c.zip (c.drop 1)) (fun p hp => by
    have := pair_zip h3 p hp
    exact ⟨[.p (.int things), .p (.int b), .p (.tuple (iD c)), .p (.int p.1), .p (.int p.2)], by simp, by simp -implicitDefEqProofs [V_are_cuts_1, this], by simp⟩)
  rw [← zip_iD] at l2
  have hc : cutD (iD c) (some 1) none = iD (c.drop 1) := by rw [cut_from _ (by decide), ← iD_drop]; rfl
  have zf : zipF [.tuple (iD c), .tuple (iD (c.drop 1))] = some (zipD (iD c) (iD (c.drop 1))) := rfl
  have b1 : c.length ≤ big := by unfold big; omega
  have b2 : (zipD (iD c) (iD (c.drop 1))).length ≤ big := by rw [zip_iD, List.length_map, List.length_zip]; omega
  have hb : ¬ b < (c.length : Int) := by omega
  have f1 := allT c
  have f2 := allT (c.zip (c.drop 1))
  generalize c.map (fun _ => PyData.bool true) = B1 at *
  generalize (c.zip (c.drop 1)).map (fun _ => PyData.bool true) = B2 at *
  simp -implicitDefEqProofs [F_are_cuts, runF, M_are_cuts, l1, l2, hc, zf, b1, b2, hb, f1, f2, -List.drop_one]
@[simp] theorem fIsi_str (x : Str) : fIsi .str (.str x) = some (.val (.bool true)) := rfl
theorem fNe_ask : fNe (.str "ask") (.str "ask") = some (.val (.bool false)) := by rw [fNe_cn (p := True) (.str _ (by decide +kernel)) (.str _ (by decide +kernel)) (by simp)]; rfl
theorem fEq_fin : fEq (.tuple [.str "end"]) (.tuple [.str "end"]) = some (.val (.bool true)) := by
  have h : Cn 1 (.tuple [.str "end"]) := .tup fun d hd => by rw [List.mem_singleton.mp hd]; exact .str _ (by decide +kernel)
  rw [fEq_cn (p := True) h h (by simp)]; rfl
theorem good_from_ok {things : Int} {late : Nat} {bs : List Int} (hs : Sm bs) (hb : bs.length ≤ 8) : ∀ (left : List Int) (n : Nat) (p : PT) (put : List (List Int)), left.length < n → left = bs.drop put.length → put.length + left.length = bs.length → (∀ c ∈ put, c.length ≤ 3) → goodP things late left p put →
    F_good_from n [.p (gameD things late bs), .p (.tuple (cD put)), .p (planD p)] = .ok (.bool true) [.p (gameD things late bs), .p (.tuple (cD put)), .p (planD p)]
  | left, 0, _, _, h, _, _, _, _ => absurd h (Nat.not_lt_zero _)
  | [], n + 1, p, put, _, _, hl, _, h => by
    have h : p = .fin := h
    subst h
    have e := fEq_fin
    rw [List.length_nil, Nat.add_zero] at hl
    have hl' : (put.length : Int) = (bs.length : Int) := by omega
    rw [planD_fin]
    simp -implicitDefEqProofs [F_good_from, runF, M_good_from, hl, hl', e]
  | b :: left, n + 1, .fin, put, _, _, _, _, h => h.elim
  | b :: left, n + 1, .ask c subs, put, hn, hd, hl, hp, h => by
    obtain ⟨h1, h2, h3⟩ := h
    rw [List.length_cons] at hn hl
    obtain ⟨hbat, hleft, hlt⟩ : bs[put.length]? = some b ∧ left = bs.drop (put.length + 1) ∧ put.length < bs.length := by
      have hi : put.length < bs.length := by omega
      have hd := hd.symm
      rw [List.drop_eq_getElem_cons hi] at hd
      injection hd with h1 h2
      exact ⟨by rw [List.getElem?_eq_getElem hi, h1], h2.symm, hi⟩
    have hb3 := hs b (List.mem_of_getElem? hbat)
    have hc3 : c.length ≤ 3 := by have := h1.1; omega
    have hp' : ∀ y ∈ put ++ [c], y.length ≤ 3 := fun y hy => by
      rcases List.mem_append.mp hy with hy | hy
      · exact hp y hy
      · rw [List.mem_singleton.mp hy]; exact hc3
    have hne : ¬ put.length = bs.length := by omega
    have hne' : ¬ (put.length : Int) = (bs.length : Int) := by omega
    have eac := are_cuts_ok h1 (by omega)
    have eb : atI (iD bs) (put.length : Int) = some (.int b) := atI_nat (by omega) (by rw [Int.toNat_natCast, iD_at, hbat]; rfl)
    have edue := due_ok late (put ++ [c])
    have e1 := fNe_ask
    have fa : fAdd (.tuple (cD put)) (.tuple [.tuple (iD c)]) = some (.val (.tuple (cD (put ++ [c])))) := by
      rw [fAdd_tt _ _ (by simp; unfold big; omega), cD_app]; rfl
    have l1 := lcL_m (vs := [4]) (t := tName 4) (te := V_good_from_0 (F_good_from n)) (ε := [.p (gameD things late bs), .p (.tuple (cD put)), .p (.tuple [.str "ask", .tuple (iD c), .tuple (subs.map planD)]), .p (.tuple (cD (put ++ [c]))), .no]) planD (fun _ => .bool true) subs (fun q hq => by
      have ih := good_from_ok hs hb left n q (put ++ [c]) (by omega) (by rw [List.length_append, List.length_singleton]; exact hleft) (by rw [List.length_append, List.length_singleton]; omega) hp' (h3 q hq)
      exact ⟨[.p (gameD things late bs), .p (.tuple (cD put)), .p (.tuple [.str "ask", .tuple (iD c), .tuple (subs.map planD)]), .p (.tuple (cD (put ++ [c]))), .p (planD q)], by simp, by simp -implicitDefEqProofs [V_good_from_0, ih], by simp⟩)
    have f1 := allT subs
    have hdl : (dueL late (put ++ [c])).length ≤ 900 := by
      rcases due_mem (late := late) (put := put ++ [c]) with z | z
      · rw [z]; simp
      · have := hp' _ z; omega
    have hb1 : subs.length ≤ big := by rw [h2]; unfold big; omega
    have hsl : ((dueL late (put ++ [c])).length : Int) + 1 = (subs.length : Int) := by rw [h2]; rfl
    rw [planD_ask]
    generalize subs.map (fun _ => PyData.bool true) = B1 at *
    simp -implicitDefEqProofs [F_good_from, runF, M_good_from, hne, hne', e1, eac, eb, fa, edue, hsl, l1, hb1, f1]
theorem good_plan_ok {things : Int} {late : Nat} {bs : List Int} {p : PT} (hs : Sm bs) (hb : bs.length ≤ 8) (h : goodP things late bs p []) : F_good_plan [.p (gameD things late bs), .p (planD p)] = .ok (.bool true) [.p (gameD things late bs), .p (planD p)] := by
  have e := good_from_ok hs hb bs 12 p [] (by omega) (by rw [List.length_nil, List.drop_zero]) (by simp) (fun c hc => absurd hc (List.not_mem_nil)) h
  rw [cD_nil] at e
  simp -implicitDefEqProofs [F_good_plan, runF, M_good_plan, e]
/-- a game, and a plan for it -/
structure GP (things : Int) (late : Nat) (bs : List Int) (p : PT) : Prop where
  h0 : 1 ≤ things
  h1 : things ≤ 64
  hl : late ≤ 5
  hs : Sm bs
  hb : bs.length ≤ 8
  hp : goodP things late bs p []
section
variable {things : Int} {late : Nat} {bs : List Int} {p : PT}
theorem is_plan_ok (g : GP things late bs p) : F_is_plan [.p (gameD things late bs), .p (planD p)] = .ok (.bool true) [.p (gameD things late bs), .p (planD p)] := by
  have e1 := need_game_ok g.h0 g.h1 g.hl g.hs g.hb
  have e2 := good_plan_ok g.hs g.hb g.hp
  simp -implicitDefEqProofs [F_is_plan, runF, M_is_plan, e1, e2]
theorem need_plan_ok (g : GP things late bs p) : F_need_plan [.p (gameD things late bs), .p (planD p)] = .ok .none [.p (gameD things late bs), .p (planD p)] := by
  have e1 := need_game_ok g.h0 g.h1 g.hl g.hs g.hb
  have e2 := good_plan_ok g.hs g.hb g.hp
  simp -implicitDefEqProofs [F_need_plan, runF, M_need_plan, e1, e2]
theorem need_thing_ok {t : Int} (h0 : 0 ≤ t) (h1 : t < things) : F_need_thing [.p (gameD things late bs), .p (.int t)] = .ok .none [.p (gameD things late bs), .p (.int t)] := by
  have h2 : t ≤ things - 1 := by omega
  simp -implicitDefEqProofs [F_need_thing, runF, M_need_thing, F_is_whole_i, h0, h2]
theorem need_all_ok (g : GP things late bs p) {t : Int} (h0 : 0 ≤ t) (h1 : t < things) : F_need_all [.p (gameD things late bs), .p (planD p), .p (.int t)] = .ok .none [.p (gameD things late bs), .p (planD p), .p (.int t)] := by
  have e1 := need_plan_ok g
  have e2 := need_thing_ok (late := late) (bs := bs) h0 h1
  simp -implicitDefEqProofs [F_need_all, runF, M_need_all, e1, e2]
end
end LK

namespace LK
open PySem PySem.Spec PyProof.Rows L2 MM
/-! ### ways -/
section
variable {things : Int} {late : Nat} {bs : List Int}
theorem answer_to_ok (cuts : List Int) (t : Int) (h : cuts.length ≤ 1000) : F_answer_to [.p (.tuple (iD cuts)), .p (.int t)] = .ok (.int (ansL cuts t : Nat)) [.p (.tuple (iD cuts)), .p (.int t)] := by
  have l1 := lcL_fm (vs := [2]) (t := tName 2) (tt := C_answer_to_0) (te := V_answer_to_0) (ε := [.p (.tuple (iD cuts)), .p (.int t), .no]) PyData.int (fun c => decide (c ≤ t)) PyData.int cuts (fun c _ => ⟨[.p (.tuple (iD cuts)), .p (.int t), .p (.int c)], by simp, by simp [C_answer_to_0], fun _ => by simp [V_answer_to_0], by simp⟩)
  have l1 : lcL [2] (tName 2) C_answer_to_0 V_answer_to_0 (iD cuts) [] _ = _ := l1
  have hs : (((cuts.filter fun c => decide (c ≤ t)).map PyData.int).length : Int) = (ansL cuts t : Nat) := by rw [List.length_map]; rfl
  have hb : cuts.length ≤ big := by unfold big; omega
  generalize (cuts.filter fun c => decide (c ≤ t)).map PyData.int = L at *
  simp -implicitDefEqProofs [F_answer_to, runF, M_answer_to, l1, hs, hb]
theorem way_loop (things : Int) (late : Nat) (bs : List Int) (t : Int) : ∀ (left : List Int) (p : PT) (put : List (List Int)) (fuel : Nat), Sm left → goodP things late left p put → left.length < fuel → (∀ c ∈ put, c.length ≤ 3) → put.length + left.length ≤ 100 →
    sWh T_way_of_0 B_way_of_0 fuel [.p (gameD things late bs), .p (planD p), .p (.int t), .p (.tuple (cD put))] = .ok .nx [.p (gameD things late bs), .p (planD .fin), .p (.int t), .p (.tuple (cD (put ++ pathG late t left.length p put)))]
  | [], p, put, fuel, _, h, hf, _, _ => by
    have h : p = .fin := h
    subst h
    obtain ⟨f, rfl⟩ : ∃ f, fuel = f + 1 := ⟨fuel - 1, by rw [List.length_nil] at hf; omega⟩
    have e := fEq_end
    rw [sWh_end (ε1 := [.p (gameD things late bs), .p (planD .fin), .p (.int t), .p (.tuple (cD put))]) (by
      rw [planD_fin]
      simp -implicitDefEqProofs [T_way_of_0, e])]
    simp [pathG]
  | b :: left, .fin, put, fuel, _, h, _, _, _ => h.elim
  | b :: left, .ask c subs, put, fuel, hs, h, hf, hp, hl => by
    obtain ⟨h1, h2, h3⟩ := h
    have hb := hs b (List.mem_cons_self ..)
    have hc3 : c.length ≤ 3 := by have := h1.1; omega
    have hp' : ∀ y ∈ put ++ [c], y.length ≤ 3 := fun y hy => by
      rcases List.mem_append.mp hy with hy | hy
      · exact hp y hy
      · rw [List.mem_singleton.mp hy]; exact hc3
    rw [List.length_cons] at hf hl
    obtain ⟨f, rfl⟩ : ∃ f, fuel = f + 1 := ⟨fuel - 1, by omega⟩
    have e := fEq_ask
    have hlt : ansL (dueL late (put ++ [c])) t < subs.length := by rw [h2]; have := ansL_le (dueL late (put ++ [c])) t; omega
    obtain ⟨q, hq⟩ : ∃ q, subs[ansL (dueL late (put ++ [c])) t]? = some q := ⟨_, List.getElem?_eq_getElem hlt⟩
    have ih := way_loop things late bs t left q (put ++ [c]) f hs.tail (h3 q (List.mem_of_getElem? hq)) (by omega) hp' (by rw [List.length_append, List.length_singleton]; omega)
    have edue := due_ok late (put ++ [c])
    have hdl : (dueL late (put ++ [c])).length ≤ 1000 := by
      rcases due_mem (late := late) (put := put ++ [c]) with z | z
      · rw [z]; simp
      · have := hp' _ z; omega
    have erep := answer_to_ok (dueL late (put ++ [c])) t hdl
    have eat : atI (subs.map planD) ((ansL (dueL late (put ++ [c])) t : Nat) : Int) = some (planD q) := atI_nat (by omega) (by rw [Int.toNat_natCast, List.getElem?_map, hq]; rfl)
    have fa : fAdd (.tuple (cD put)) (.tuple [.tuple (iD c)]) = some (.val (.tuple (cD (put ++ [c])))) := by
      rw [fAdd_tt _ _ (by simp; unfold big; omega), cD_app]; rfl
    have mt1 : T_way_of_0 [.p (gameD things late bs), .p (planD (.ask c subs)), .p (.int t), .p (.tuple (cD put))] = .ok true [.p (gameD things late bs), .p (planD (.ask c subs)), .p (.int t), .p (.tuple (cD put))] := by
      rw [planD_ask]
      simp -implicitDefEqProofs [T_way_of_0, e]
    have mb1 : B_way_of_0 [.p (gameD things late bs), .p (planD (.ask c subs)), .p (.int t), .p (.tuple (cD put))] = .ok .nx [.p (gameD things late bs), .p (planD q), .p (.int t), .p (.tuple (cD (put ++ [c])))] := by
      rw [planD_ask]
      simp -implicitDefEqProofs [B_way_of_0, fa, edue, erep, eat]
    rw [sWh_step mt1 mb1, ih, List.length_cons, pathG, hq, List.append_assoc]
    rfl
theorem way_of_ok {p : PT} (g : GP things late bs p) (t : Int) : F_way_of [.p (gameD things late bs), .p (planD p), .p (.int t)] = .ok (.tuple (cD (pathG late t bs.length p []))) [.p (gameD things late bs), .p (planD p), .p (.int t)] := by
  have hl := way_loop things late bs t bs p [] 10000 g.hs g.hp (by have := g.hb; omega) (fun c hc => absurd hc (List.not_mem_nil)) (by simp; have := g.hb; omega)
  rw [List.nil_append, cD_nil] at hl
  simp -implicitDefEqProofs [F_way_of, runF, M_way_of, hl]
theorem answers_to_ok (put : List (List Int)) (t : Int) (h3 : ∀ c ∈ put, c.length ≤ 3) (hb : put.length ≤ 1000) : F_answers_to [.p (.tuple (cD put)), .p (.int t)] = .ok (.tuple (iD (heardL put t))) [.p (.tuple (cD put)), .p (.int t)] := by
  have l1 := lcL_fm (vs := [2]) (t := tName 2) (tt := C_answers_to_0) (te := V_answers_to_0) (ε := [.p (.tuple (cD put)), .p (.int t), .no])
    (fun c : List Int => PyData.tuple (iD c)) (fun c => !decide (c = [])) (fun c => .int ((ansL c t : Nat) : Int)) put (fun c hc => by
      have e1 := fNe_e (Cn.ints c)
      have e2 : decide (iD c = []) = decide (c = []) := by rw [decide_eq_decide]; exact iD_nil'
      rw [e2] at e1
      have e3 := answer_to_ok c t (by have := h3 c hc; omega)
      exact ⟨[.p (.tuple (cD put)), .p (.int t), .p (.tuple (iD c))], by simp, by simp -implicitDefEqProofs [C_answers_to_0, e1], fun _ => by simp -implicitDefEqProofs [V_answers_to_0, e3], by simp⟩)
  have l1 : lcL [2] (tName 2) C_answers_to_0 V_answers_to_0 (cD put) [] _ = _ := l1
  have l2 : (put.filter fun c => !decide (c = [])).map (fun c => PyData.int ((ansL c t : Nat) : Int)) = iD (heardL put t) := by
    unfold heardL iD
    rw [List.map_map]; rfl
  rw [l2] at l1
  have hb2 : put.length ≤ big := by unfold big; omega
  simp -implicitDefEqProofs [F_answers_to, runF, M_answers_to, l1, hb2]
/-- the way of a thing, and what is heard for it -/
abbrev Lk := List (List Int) × List Int
def lkOf (late : Nat) (bs : List Int) (p : PT) (t : Nat) : Lk := (pathG late (t : Int) bs.length p [], heardL (pathG late (t : Int) bs.length p []) (t : Int))
def lkD (l : Lk) : PD := .tuple [.tuple (cD l.1), .tuple (iD l.2)]
theorem GP.cuts {p : PT} (g : GP things late bs p) (t : Int) : ∀ c ∈ pathG late t bs.length p [], c.length ≤ 3 := goodP_cuts g.hs g.hp (fun c hc => absurd hc (List.not_mem_nil)) t
theorem GP.len {p : PT} (g : GP things late bs p) (t : Int) : (pathG late t bs.length p []).length = bs.length := pathG_len g.hp t
theorem way_ok {p : PT} (g : GP things late bs p) {t : Int} (h0 : 0 ≤ t) (h1 : t < things) : F_way [.p (gameD things late bs), .p (planD p), .p (.int t)] = .ok (.tuple (cD (pathG late t bs.length p []))) [.p (gameD things late bs), .p (planD p), .p (.int t)] := by
  have e1 := need_all_ok g h0 h1
  have e2 := way_of_ok g t
  simp -implicitDefEqProofs [F_way, runF, M_way, e1, e2]
theorem heard_ok {p : PT} (g : GP things late bs p) {t : Int} (h0 : 0 ≤ t) (h1 : t < things) : F_heard [.p (gameD things late bs), .p (planD p), .p (.int t)] = .ok (.tuple (iD (heardL (pathG late t bs.length p []) t))) [.p (gameD things late bs), .p (planD p), .p (.int t)] := by
  have e1 := need_all_ok g h0 h1
  have e2 := way_of_ok g t
  have e3 := answers_to_ok (pathG late t bs.length p []) t (g.cuts t) (by rw [g.len]; have := g.hb; omega)
  simp -implicitDefEqProofs [F_heard, runF, M_heard, e1, e2, e3]
theorem rngD_nat (n : Nat) : rngD 0 1 n = (List.range n).map fun i => .int (i : Nat) := by
  unfold rngD
  apply List.map_congr_left
  intro i _
  rw [show (0 : Int) + (i : Int) * 1 = i by omega]
theorem looks_of_ok {p : PT} (g : GP things late bs p) : F_looks_of [.p (gameD things late bs), .p (planD p)] = .ok (.list ((List.range things.toNat).map fun t => lkD (lkOf late bs p t))) [.p (gameD things late bs), .p (planD p)] := by
  have hb := g.hb
  have h0 := g.h0
  have h1 := g.h1
  obtain ⟨ε', hf, o3, o4, e⟩ := forL_rng (t := tName 3) (mb := B_looks_of_0) (fun k ε => ∃ o3 o4 : Option PD, ε = [.p (gameD things late bs), .p (planD p), .ow (.l ((List.range k).map fun t => lkD (lkOf late bs p t))), jk o3, jk o4]) things.toNat [.p (gameD things late bs), .p (planD p), .ow (.l []), .no, .no] (fun k ε hk ⟨o3, o4, e⟩ => by
    subst e
    have hw := way_of_ok g (k : Int)
    have ha := answers_to_ok (pathG late (k : Int) bs.length p []) (k : Int) (g.cuts k) (by rw [g.len]; omega)
    have hl : ((List.range k).map fun t => lkD (lkOf late bs p t)).length < big := by rw [List.length_map, List.length_range]; unfold big; omega
    have es : ((List.range k).map fun t => lkD (lkOf late bs p t)) ++ [.tuple [.tuple (cD (pathG late (k : Int) bs.length p [])), .tuple (iD (heardL (pathG late (k : Int) bs.length p []) (k : Int)))]] = (List.range (k + 1)).map fun t => lkD (lkOf late bs p t) := by rw [List.range_succ, List.map_append]; rfl
    generalize ((List.range k).map fun t => lkD (lkOf late bs p t)) = L at *
    refine ⟨[.p (gameD things late bs), .p (planD p), .ow (.l L), .p (.int (k : Nat)), jk o4], [.p (gameD things late bs), .p (planD p), .ow (.l ((List.range (k + 1)).map fun t => lkD (lkOf late bs p t))), .p (.int (k : Nat)), .p (.tuple (cD (pathG late (k : Int) bs.length p [])))], by simp, ?_, some (.int (k : Nat)), some (.tuple (cD (pathG late (k : Int) bs.length p []))), rfl⟩
    rw [← es]
    simp -implicitDefEqProofs [B_looks_of_0, hw, ha, hl]) ⟨none, none, rfl⟩
  subst e
  have mj : midI things = true := midI_of (by omega) (by omega)
  simp -implicitDefEqProofs [F_looks_of, runF, M_looks_of, mj, hf]
/-! ### parts -/
def repsL (look : Nat → Lk) (k : Nat) : List Nat := (List.range k).filter fun r => (List.range r).all fun q => !decide (look q = look r)
def clsL (look : Nat → Lk) (k r : Nat) : List Nat := (List.range k).filter fun t => decide (look t = look r)
abbrev nD (l : List Nat) : List PD := iD (l.map fun i : Nat => (i : Int))
def entL (look : Nat → Lk) (k : Nat) : List (PD × PD) := (repsL look k).map fun r => (lkD (look r), .list (nD (clsL look k r)))
theorem kys_iD : ∀ ns : List Int, kysD (iD ns) = some (ns.map .num)
  | [] => rfl
  | n :: ns => by
    show kysD (PyData.int n :: iD ns) = _
    simp only [kysD, kyD, Option.bind_some, kys_iD ns, Option.map_some, List.map_cons]
theorem kys_cD : ∀ H : List (List Int), kysD (cD H) = some (H.map fun c => .tup (c.map .num))
  | [] => rfl
  | c :: H => by
    show kysD (PyData.tuple (iD c) :: cD H) = _
    simp only [kysD, kyD, kys_iD, Option.map_some, Option.bind_some, kys_cD H, List.map_cons]
theorem dep_le {ks : List NestedKey} {n : Nat} (h : ∀ k ∈ ks, k.depth ≤ n) : NestedKey.depthAll ks ≤ n := by
  induction ks with
  | nil => simp [NestedKey.depthAll]
  | cons k ks ih =>
    simp only [NestedKey.depthAll]
    exact Nat.max_le.mpr ⟨h k (List.mem_cons_self ..), ih fun e he => h e (List.mem_cons_of_mem _ he)⟩
theorem dep_nums (c : List Int) : (NestedKey.tup (c.map .num)).depth ≤ 1 := by
  simp only [NestedKey.depth]
  have : NestedKey.depthAll (c.map .num) ≤ 0 := dep_le fun k hk => by
    obtain ⟨i, _, rfl⟩ := List.mem_map.mp hk
    simp [NestedKey.depth]
  omega
theorem key_lk (l : Lk) : ∃ k, keyD (lkD l) = some k := by
  have h1 : (NestedKey.tup (l.1.map fun c => .tup (c.map .num))).depth ≤ 2 := by
    simp only [NestedKey.depth]
    have : NestedKey.depthAll (l.1.map fun c => .tup (c.map .num)) ≤ 1 := dep_le fun k hk => by
      obtain ⟨c, _, rfl⟩ := List.mem_map.mp hk
      exact dep_nums c
    omega
  have h2 := dep_nums l.2
  refine ⟨.tup [.tup (l.1.map fun c => .tup (c.map .num)), .tup (l.2.map .num)], ?_⟩
  have hd : (NestedKey.tup [.tup (l.1.map fun c => .tup (c.map .num)), .tup (l.2.map .num)]).depth ≤ 8 := by
    rw [NestedKey.depth]
    have := dep_le (ks := [.tup (l.1.map fun c => .tup (c.map .num)), .tup (l.2.map .num)]) (n := 2) fun k hk => by
      rcases List.mem_cons.mp hk with e | hk
      · subst e; exact h1
      · rw [List.mem_singleton.mp hk]; omega
    omega
  show (kysD [.tuple (cD l.1), .tuple (iD l.2)]).bind _ = _
  simp only [kysD, kyD, kys_cD, kys_iD, Option.map_some, Option.bind_some]
  rw [if_pos hd]
theorem lkD_inj {a b : Lk} : lkD a = lkD b ↔ a = b := by
  constructor
  · intro h
    unfold lkD at h
    injection h with h
    injection h with h1 h
    injection h with h2 _
    injection h1 with h1
    injection h2 with h2
    exact Prod.ext (cD_inj.mp h1) (iD_inj.mp h2)
  · intro h; rw [h]
theorem key_eq (a b : Lk) : keyD (lkD a) = keyD (lkD b) ↔ a = b := by
  constructor
  · intro h
    obtain ⟨k, hk⟩ := key_lk a
    exact lkD_inj.mp (keyD_inj hk (h ▸ hk))
  · intro h; rw [h]
theorem key_some (a : Lk) : (keyD (lkD a)).isSome = true := by
  obtain ⟨k, hk⟩ := key_lk a
  rw [hk]; rfl
section
variable {look : Nat → Lk}
theorem mem_reps {k r : Nat} : r ∈ repsL look k ↔ r < k ∧ ∀ q, q < r → look q ≠ look r := by
  unfold repsL
  rw [List.mem_filter, List.mem_range, List.all_eq_true]
  constructor
  · rintro ⟨h1, h2⟩
    exact ⟨h1, fun q hq => by simpa using h2 q (List.mem_range.mpr hq)⟩
  · rintro ⟨h1, h2⟩
    exact ⟨h1, fun q hq => by simpa using h2 q (List.mem_range.mp hq)⟩
theorem reps_inj {k r s : Nat} (hr : r ∈ repsL look k) (hs : s ∈ repsL look k) (h : look r = look s) : r = s := by
  obtain ⟨_, h1⟩ := mem_reps.mp hr
  obtain ⟨_, h2⟩ := mem_reps.mp hs
  rcases Nat.lt_trichotomy r s with z | z | z
  · exact absurd h (h2 r z)
  · exact z
  · exact absurd h.symm (h1 s z)
theorem rep_of {k t : Nat} (h : t < k) : ∃ r ∈ repsL look k, look r = look t ∧ r ≤ t := by
  induction t using Nat.strongRecOn with
  | _ t ih =>
    by_cases h1 : ∃ q, q < t ∧ look q = look t
    · obtain ⟨q, hq, e⟩ := h1
      obtain ⟨r, h2, h3, h4⟩ := ih q hq (by omega)
      exact ⟨r, h2, h3.trans e, by omega⟩
    · exact ⟨t, mem_reps.mpr ⟨h, fun q hq e => h1 ⟨q, hq, e⟩⟩, rfl, Nat.le_refl _⟩
theorem reps_succ (k : Nat) : repsL look (k + 1) = if (∃ q, q < k ∧ look q = look k) then repsL look k else repsL look k ++ [k] := by
  unfold repsL
  rw [List.range_succ, List.filter_append]
  by_cases h : ∃ q, q < k ∧ look q = look k
  · rw [if_pos h, List.filter_cons_of_neg, List.filter_nil, List.append_nil]
    obtain ⟨q, h1, h2⟩ := h
    intro z
    have := List.all_eq_true.mp z q (List.mem_range.mpr h1)
    simp [h2] at this
  · rw [if_neg h, List.filter_cons_of_pos, List.filter_nil]
    exact List.all_eq_true.mpr fun q hq => by
      simp only [Bool.not_eq_true', decide_eq_false_iff_not]
      exact fun e => h ⟨q, List.mem_range.mp hq, e⟩
theorem cls_succ (k r : Nat) : clsL look (k + 1) r = if look k = look r then clsL look k r ++ [k] else clsL look k r := by
  unfold clsL
  rw [List.range_succ, List.filter_append]
  by_cases h : look k = look r
  · rw [if_pos h, List.filter_cons_of_pos (by simpa using h)]; rfl
  · rw [if_neg h, List.filter_cons_of_neg (by simpa using h), List.filter_nil, List.append_nil]
theorem cls_congr {k r s : Nat} (h : look r = look s) : clsL look k r = clsL look k s := by unfold clsL; rw [h]
theorem find_reps {β : Type} (f : Nat → β) {r : Nat} {l : List Nat} (hl : ∀ a ∈ l, ∀ b ∈ l, look a = look b → a = b) (hr : r ∈ l) (m : Lk) (hm : look r = m) : (((l.map fun r => (lkD (look r), f r)).find? fun p => decide (keyD p.1 = keyD (lkD m))).map (·.2)) = some (f r) := by
  induction l with
  | nil => cases hr
  | cons a l ih =>
    rw [List.map_cons, List.find?_cons]
    by_cases e : look a = m
    · have : a = r := hl a (List.mem_cons_self ..) r hr (e.trans hm.symm)
      subst this
      simp [key_eq, e]
    · simp only [key_eq, e, decide_false]
      refine ih (fun x hx y hy => hl x (List.mem_cons_of_mem _ hx) y (List.mem_cons_of_mem _ hy)) ?_
      rcases List.mem_cons.mp hr with z | z
      · subst z; exact absurd hm e
      · exact z
theorem ent_get (k r : Nat) (hr : r ∈ repsL look k) (m : Lk) (hm : look r = m) : dnGet (entL look k) (lkD m) = some (.list (nD (clsL look k r))) :=
  find_reps (look := look) (l := repsL look k) (fun r => PyData.list (nD (clsL look k r))) (fun a ha b hb => reps_inj ha hb) hr m hm
theorem ent_none (k : Nat) (m : Lk) (h : ∀ q, q < k → look q ≠ m) : dnGet (entL look k) (lkD m) = none := by
  unfold dnGet entL
  rw [Option.map_eq_none_iff, List.find?_eq_none]
  intro x hx
  obtain ⟨r, hr, rfl⟩ := List.mem_map.mp hx
  simp only [key_eq, decide_eq_true_eq]
  exact h r (mem_reps.mp hr).1
theorem ent_getD (k : Nat) : (dnGet (entL look k) (lkD (look k))).getD (.list []) = .list (nD (clsL look k k)) := by
  by_cases h : ∃ q, q < k ∧ look q = look k
  · obtain ⟨q, h1, h2⟩ := h
    obtain ⟨r, h3, h4, _⟩ := rep_of (look := look) h1
    rw [ent_get k r h3 (look k) (h4.trans h2), Option.getD_some, cls_congr (h4.trans h2)]
  · rw [ent_none k (look k) fun q hq e => h ⟨q, hq, e⟩, Option.getD_none]
    have : clsL look k k = [] := by
      unfold clsL
      rw [List.filter_eq_nil_iff]
      intro t ht
      simp only [decide_eq_true_eq]
      exact fun e => h ⟨t, List.mem_range.mp ht, e⟩
    rw [this]
    rfl
theorem ent_put (k : Nat) : dnPut (entL look k) (lkD (look k)) (.list (nD (clsL look (k + 1) k))) = entL look (k + 1) := by
  unfold dnPut
  by_cases h : ∃ q, q < k ∧ look q = look k
  · obtain ⟨q, h1, h2⟩ := id h
    obtain ⟨r, h3, h4, _⟩ := rep_of (look := look) h1
    rw [ent_get k r h3 (look k) (h4.trans h2), if_pos (show (some _).isSome = true from rfl)]
    unfold entL
    rw [reps_succ, if_pos h, List.map_map]
    apply List.map_congr_left
    intro s hs
    simp only [Function.comp_apply, key_eq]
    by_cases e : look s = look k
    · rw [if_pos e, cls_congr (k := k + 1) e.symm]
    · rw [if_neg e, cls_succ, if_neg (fun z => e z.symm)]
  · rw [ent_none k (look k) fun q hq e => h ⟨q, hq, e⟩, if_neg (by simp)]
    unfold entL
    rw [reps_succ, if_neg h, List.map_append]
    congr 1
    apply List.map_congr_left
    intro s hs
    have hlt := (mem_reps.mp hs).1
    rw [cls_succ, if_neg fun z => h ⟨s, hlt, z.symm⟩]
theorem reps_sorted (k : Nat) : (repsL look k).Pairwise fun a b => a < b := (List.pairwise_lt_range).filter _
theorem cls_head {k r : Nat} (h : r ∈ repsL look k) : ∃ l, clsL look k r = r :: l := by
  obtain ⟨h1, h2⟩ := mem_reps.mp h
  have key : clsL look (r + 1) r = [r] := by
    rw [cls_succ, if_pos rfl]
    have : clsL look r r = [] := by
      unfold clsL
      rw [List.filter_eq_nil_iff]
      intro t ht
      simp only [decide_eq_true_eq]
      exact h2 t (List.mem_range.mp ht)
    rw [this]; rfl
  obtain ⟨n, rfl⟩ : ∃ n, k = r + 1 + n := ⟨k - (r + 1), by omega⟩
  clear h h1
  induction n with
  | zero => exact ⟨[], key⟩
  | succ n ih =>
    obtain ⟨l, hl⟩ := ih
    rw [show r + 1 + (n + 1) = r + 1 + n + 1 by omega, cls_succ, hl]
    split
    · exact ⟨l ++ [r + 1 + n], rfl⟩
    · exact ⟨l, rfl⟩
end
/-- the lists of things that are not parted -/
def partsL (look : Nat → Lk) (n : Nat) : List (List Nat) := (repsL look n).map (clsL look n)
theorem lt_ints (a b : List Int) : PySem.W.dataLt (.list (iD a)) (.list (iD b)) = decide (a < b) := by
  rw [PySem.W.dataLt_list]
  exact PySem.W.dataLt_ints a b
theorem alike_ints (a b : List Int) : PySem.W.alike (.list (iD a)) (.list (iD b)) = true := by
  show PySem.W.alikeAll _ _ = true
  exact PySem.W.alike_ints a b
theorem sorted_lists {l : List (List Int)} (hb : l.length ≤ big) (h : l.Pairwise fun a b => ¬ b < a) : fSorted [.list (l.map fun a => .list (iD a))] = some (.new (.l (l.map fun a => .list (iD a)))) := by
  have ok : srtOk (l.map fun a => PyData.list (iD a)) = true := by
    unfold srtOk
    simp only [Bool.and_eq_true, Bool.or_eq_true]
    refine ⟨⟨⟨?_, .inr ?_⟩, ?_⟩, ?_⟩
    · refine List.all_eq_true.mpr fun d hd => List.all_eq_true.mpr fun e he => ?_
      obtain ⟨a, _, rfl⟩ := List.mem_map.mp hd
      obtain ⟨b, _, rfl⟩ := List.mem_map.mp he
      exact alike_ints a b
    · refine List.all_eq_true.mpr fun d hd => ?_
      obtain ⟨a, _, rfl⟩ := List.mem_map.mp hd
      rfl
    · refine List.all_eq_true.mpr fun d hd => ?_
      obtain ⟨a, _, rfl⟩ := List.mem_map.mp hd
      exact shL a
    · rw [List.length_map]; exact decide_eq_true hb
  show (if srtOk _ = true then some (Opd.new (.l (sortD _))) else none) = _
  rw [if_pos ok, sortD_eq]
  congr 3
  refine List.mergeSort_of_pairwise ?_
  rw [List.pairwise_map]
  refine h.imp fun {a b} hab => ?_
  rw [leP_eq]
  unfold leD
  rw [lt_ints, decide_eq_false hab]
  rfl
theorem parts_sorted (look : Nat → Lk) (n : Nat) : ((partsL look n).map fun l => l.map fun i : Nat => (i : Int)).Pairwise fun a b => ¬ b < a := by
  unfold partsL
  rw [List.map_map, List.pairwise_map]
  refine List.Pairwise.imp_of_mem (fun {a b} ha hb hab => ?_) (reps_sorted (look := look) n)
  obtain ⟨la, ea⟩ := cls_head ha
  obtain ⟨lb, eb⟩ := cls_head hb
  simp only [Function.comp_apply, ea, eb, List.map_cons]
  rw [List.cons_lt_cons_iff]
  omega
abbrev lsD (l : List (List Nat)) : List PD := l.map fun a => .list (nD a)
theorem enD_range (f : Nat → PD) (n : Nat) : enD ((List.range n).map f) = (List.range n).map fun i => .tuple [.int (i : Nat), f i] := by
  unfold enD
  apply List.ext_getElem?
  intro i
  rw [List.getElem?_mapIdx, List.getElem?_map, List.getElem?_map]
  by_cases h : i < n
  · rw [List.getElem?_range h]; rfl
  · rw [List.getElem?_eq_none (by rw [List.length_range]; omega)]; rfl
theorem parts_of_ok {p : PT} (g : GP things late bs p) : F_parts_of [.p (gameD things late bs), .p (planD p)] = .ok (.list (lsD (partsL (lkOf late bs p) things.toNat))) [.p (gameD things late bs), .p (planD p)] := by
  have hb := g.hb
  have h0 := g.h0
  have h1 := g.h1
  have hlo := looks_of_ok g
  generalize lkOf late bs p = look at *
  have een := enD_range (fun t => lkD (look t)) things.toNat
  obtain ⟨ε', hf, o3, o4, e⟩ := forL_ix (t := tTupT [3, 4]) (mb := B_parts_of_0) (fun i : Nat => PyData.tuple [.int (i : Nat), lkD (look i)]) (fun k ε => ∃ o3 o4 : Option PD, ε = [.p (gameD things late bs), .p (planD p), .ow (.dn (entL look k)), jk o3, jk o4]) (List.range things.toNat) 0 [.p (gameD things late bs), .p (planD p), .ow (.dn []), .no, .no] (fun n x ε hx ⟨o3, o4, e⟩ => by
    have hk := (List.getElem?_eq_some_iff.mp hx).1
    rw [List.length_range] at hk
    rw [List.getElem?_range hk] at hx
    cases hx
    rw [Nat.zero_add] at e
    subst e
    have e1 := ent_getD (look := look) n
    have e2 := ent_put (look := look) n
    have e3 := key_some (look n)
    have el : (entL look n).length < big := by
      unfold entL repsL
      rw [List.length_map]
      have := List.length_filter_le (fun r => (List.range r).all fun q => !decide (look q = look r)) (List.range n)
      rw [List.length_range] at this
      unfold big
      omega
    have lc : (clsL look n n).length ≤ 100 := by
      unfold clsL
      have := List.length_filter_le (fun t => decide (look t = look n)) (List.range n)
      rw [List.length_range] at this
      omega
    have fa : fAdd (.list (nD (clsL look n n))) (.list [.int (n : Nat)]) = some (.new (.l (nD (clsL look (n + 1) n)))) := by
      rw [fAdd_ll _ _ (by simp; unfold big; omega), cls_succ, if_pos rfl]
      unfold nD
      rw [List.map_append, iD_app]
      rfl
    rw [Nat.zero_add]
    refine ⟨[.p (gameD things late bs), .p (planD p), .ow (.dn (entL look n)), .p (.int (n : Nat)), .p (lkD (look n))], [.p (gameD things late bs), .p (planD p), .ow (.dn (entL look (n + 1))), .p (.int (n : Nat)), .p (lkD (look n))], by simp, ?_, some (.int (n : Nat)), some (lkD (look n)), rfl⟩
    rw [← e2]
    simp -implicitDefEqProofs [B_parts_of_0, e1, e3, el, fa]) ⟨none, none, rfl⟩
  subst e
  rw [Nat.zero_add, List.length_range] at hf
  rw [← een] at hf
  have hkeys : (entL look things.toNat).map (·.1) = (repsL look things.toNat).map fun r => lkD (look r) := by unfold entL; rw [List.map_map]; rfl
  have l1 := lcL_m (vs := [4]) (t := tName 4) (te := V_parts_of_0) (ε := [.p (gameD things late bs), .p (planD p), .p (lockN (entL look things.toNat)), jk o3, jk o4]) (fun r => lkD (look r)) (fun r => .list (nD (clsL look things.toNat r))) (repsL look things.toNat) (fun r hr => by
    have e1 := ent_get (look := look) things.toNat r hr (look r) rfl
    have e3 := key_some (look r)
    exact ⟨[.p (gameD things late bs), .p (planD p), .p (lockN (entL look things.toNat)), jk o3, .p (lkD (look r))], by simp, by simp -implicitDefEqProofs [V_parts_of_0, e1, e3], by simp⟩)
  rw [← hkeys] at l1
  have hlen : (repsL look things.toNat).length ≤ 100 := by
    unfold repsL
    have := List.length_filter_le (fun r => (List.range r).all fun q => !decide (look q = look r)) (List.range things.toNat)
    rw [List.length_range] at this
    omega
  have hvals : ((repsL look things.toNat).map fun r => PyData.list (nD (clsL look things.toNat r))) = lsD (partsL look things.toNat) := by unfold lsD partsL; rw [List.map_map]; rfl
  rw [hvals] at l1
  have hso := sorted_lists (l := (partsL look things.toNat).map fun l => l.map fun i : Nat => (i : Int)) (by unfold partsL; simp; unfold big; omega) (parts_sorted look things.toNat)
  have hso2 : (((partsL look things.toNat).map fun l => l.map fun i : Nat => (i : Int)).map fun a => PyData.list (iD a)) = lsD (partsL look things.toNat) := by unfold lsD; rw [List.map_map]; rfl
  rw [hso2] at hso
  have hkl : ((entL look things.toNat).map (·.1)).length ≤ big := by rw [hkeys, List.length_map]; unfold big; omega
  generalize hL : lsD (partsL look things.toNat) = L at *
  generalize hK : (entL look things.toNat).map (·.1) = KL at *
  have hs : sink (Opd.own 2) [.p (gameD things late bs), .p (planD p), .ow (.dn (entL look things.toNat)), jk o3, jk o4] = .ok (lockN (entL look things.toNat)) [.p (gameD things late bs), .p (planD p), .p (lockN (entL look things.toNat)), jk o3, jk o4] := rfl
  have hf : forL (tTupT [3, 4]) B_parts_of_0 (enD ((List.range things.toNat).map fun t => lkD (look t))) _ = _ := hf
  have eF : ∀ ds : List PD, enumF [.list ds] = some (enD ds) := fun _ => rfl
  simp -implicitDefEqProofs [F_parts_of, runF, M_parts_of, hlo, eF, hf, hK, l1, hkl, hso, -enumFT_m]
theorem parts_ok {p : PT} (g : GP things late bs p) : F_parts [.p (gameD things late bs), .p (planD p)] = .ok (.list (lsD (partsL (lkOf late bs p) things.toNat))) [.p (gameD things late bs), .p (planD p)] := by
  have e1 := need_plan_ok g
  have e2 := parts_of_ok g
  simp -implicitDefEqProofs [F_parts, runF, M_parts, e1, e2]
theorem finds_all_ok {p : PT} (g : GP things late bs p) : F_finds_all [.p (gameD things late bs), .p (planD p)] = .ok (.bool (decide (((partsL (lkOf late bs p) things.toNat).length : Int) = things))) [.p (gameD things late bs), .p (planD p)] := by
  have e1 := need_plan_ok g
  have e2 := parts_of_ok g
  have e3 : (lsD (partsL (lkOf late bs p) things.toNat)).length = (partsL (lkOf late bs p) things.toNat).length := List.length_map _
  generalize lsD (partsL (lkOf late bs p) things.toNat) = L at *
  simp -implicitDefEqProofs [F_finds_all, runF, M_finds_all, e1, e2, e3]
end
end LK

namespace LK
open PySem PySem.Spec PyProof.Rows L2 MM
/-! ### games and plans by draws -/
theorem law_pick_ok (ns : List Int) (hn : ns.length ≤ 63) (n : Nat) (h : n < 900000) (some_ : List Int) (h0 : 0 < some_.length) (hb : some_.length ≤ 1000) : ∃ v ∈ some_, F__law_pick [.p (scrD ns), .io (.l (tw n)), .p (.list (iD some_))] = .ok (.int v) [.p (scrD ns), .io (.l (tw (n + 1))), .p (.list (iD some_))] := by
  have d := draw_ok ns hn n h (some_.length : Int) (by omega)
  have r := dr_in ns hn n h (some_.length : Int) (by omega)
  have hlt : (dr ns n (some_.length : Int)).toNat < some_.length := by omega
  have ea := iD_atZ (ns := some_) r.1 hlt
  exact ⟨_, List.getElem_mem hlt, by simp -implicitDefEqProofs [F__law_pick, runF, M__law_pick, d, ea]⟩
theorem some_game_ok (ns : List Int) (hn : ns.length ≤ 63) (n : Nat) (h : n ≤ 900) (mo : Int) (h0 : 0 ≤ mo) (h8 : mo ≤ 8) : ∃ (things : Int) (late : Nat) (bs : List Int) (n' : Nat), 1 ≤ things ∧ things ≤ 64 ∧ late ≤ 5 ∧ Sm bs ∧ (bs.length : Int) ≤ mo ∧ n' ≤ n + 30 ∧
    F__law_some_game [.p (scrD ns), .io (.l (tw n)), .p (.int mo)] = .ok (gameD things late bs) [.p (scrD ns), .io (.l (tw n')), .p (.int mo)] := by
  have d0 := draw_ok ns hn n (by omega) 6 (by omega)
  have r0 := dr_in ns hn n (by omega) 6 (by omega)
  obtain ⟨late, el⟩ : ∃ l : Nat, dr ns n 6 = l := ⟨(dr ns n 6).toNat, by omega⟩
  rw [el] at d0 r0
  obtain ⟨bs, n1, hs, hb, hn1, sb⟩ := some_beats_ok ns hn (n + 1) (by omega) mo h0 h8
  have hc := count_ok (late := late) hs (by omega) (by omega)
  have hp := cnt_pos (late := late) hs
  have hle := cnt_le (L := late) hs (by omega)
  generalize cnt late bs = top at *
  have d1 := draw_ok ns hn n1 (by omega) top (by omega)
  have r1 := dr_in ns hn n1 (by omega) top (by omega)
  have d2 := draw_ok ns hn (n1 + 1) (by omega) 64 (by omega)
  have r2 := dr_in ns hn (n1 + 1) (by omega) 64 (by omega)
  generalize dr ns n1 top = x1 at *
  generalize dr ns (n1 + 1) 64 = x2 at *
  obtain ⟨v, hv, hpk⟩ := law_pick_ok ns hn (n1 + 1 + 1) (by omega) [top, top, top + 1, 1 + x1, 1 + x2] (by simp) (by simp)
  have hv1 : 1 ≤ v := by
    simp only [List.mem_cons, List.not_mem_nil, or_false] at hv
    rcases hv with e | e | e | e | e <;> omega
  have hpk : F__law_pick [.p (scrD ns), .io (.l (tw (n1 + 1 + 1))), .p (.list [.int top, .int top, .int (top + 1), .int (1 + x1), .int (1 + x2)])] = _ := hpk
  have hl : [PyData.int top, .int top, .int (top + 1), .int (1 + x1), .int (1 + x2)] = iD [top, top, top + 1, 1 + x1, 1 + x2] := rfl
  refine ⟨if v < 64 then v else 64, late, bs, n1 + 1 + 1 + 1, by split <;> omega, by split <;> omega, by omega, hs, hb, by omega, ?_⟩
  simp -implicitDefEqProofs [F__law_some_game, runF, M__law_some_game, d0, sb, hc, d1, d2, hpk]
theorem sorted_ints (l : List Int) (hb : l.length ≤ big) : fSorted [.list (iD l)] = some (.new (.l (iD (l.mergeSort fun a b => decide (a ≤ b))))) := by
  have ok : srtOk (iD l) = true := by
    unfold srtOk
    simp only [Bool.and_eq_true, Bool.or_eq_true]
    refine ⟨⟨⟨?_, .inr ?_⟩, ?_⟩, ?_⟩
    · refine List.all_eq_true.mpr fun d hd => List.all_eq_true.mpr fun e he => ?_
      obtain ⟨a, _, rfl⟩ := iD_mem hd
      obtain ⟨b, _, rfl⟩ := iD_mem he
      simp [PySem.W.alike]
    · refine List.all_eq_true.mpr fun d hd => ?_
      obtain ⟨a, _, rfl⟩ := iD_mem hd
      rfl
    · refine List.all_eq_true.mpr fun d hd => ?_
      obtain ⟨a, _, rfl⟩ := iD_mem hd
      exact shI a
    · rw [iD_len]; exact decide_eq_true hb
  show (if srtOk _ = true then some (Opd.new (.l (sortD _))) else none) = _
  rw [if_pos ok, sortD_eq]
  congr 3
  unfold iD
  refine (List.map_mergeSort (f := PyData.int) fun a _ b _ => ?_).symm
  rw [leP_eq]
  unfold leD
  rw [PySem.W.dataLt_int]
  by_cases h : a ≤ b
  · have h2 : ¬ b < a := by omega
    simp [h, h2]
  · have h2 : b < a := by omega
    simp [h, h2]
theorem sort_strict {l : List Int} (hn : l.Nodup) : (l.mergeSort fun a b => decide (a ≤ b)).Pairwise fun a b => a < b := by
  have h1 : (l.mergeSort fun a b => decide (a ≤ b)).Pairwise fun a b => decide (a ≤ b) = true := List.pairwise_mergeSort (fun a b c h1 h2 => by simp at h1 h2 ⊢; omega) (fun a b => by simp; omega) l
  have h2 : (l.mergeSort fun a b => decide (a ≤ b)).Nodup := (List.mergeSort_perm l _).nodup_iff.mpr hn
  have h3 := List.Pairwise.and h1 h2
  exact h3.imp fun {a b} h => by simp at h; omega
theorem notin_ints (x : Int) (l : List Int) : fNotIn (.int x) (.list (iD l)) = some (.val (.bool (!decide (x ∈ l)))) := by
  show (if (SeqAt.shaped (.int x) && SeqAt.shaped (.list (iD l))) = true then some (Opd.val (.bool (!(iD l).any fun z => PyData.eqv z (.int x)))) else none) = _
  rw [shI, shL]
  simp only [Bool.and_self, if_true, Option.some.injEq, Opd.val.injEq, PyData.bool.injEq]
  congr 1
  rw [Bool.eq_iff_iff, List.any_eq_true, decide_eq_true_iff]
  constructor
  · rintro ⟨d, hd, he⟩
    obtain ⟨a, ha, rfl⟩ := iD_mem hd
    simp [PyData.eqv] at he
    subst he; exact ha
  · intro h
    exact ⟨.int x, List.mem_map.mpr ⟨x, h, rfl⟩, by simp [PyData.eqv]⟩
theorem some_cuts_ok (ns : List Int) (hn : ns.length ≤ 63) (n : Nat) (h : n ≤ 800000) (things : Int) (ht : 1 ≤ things) (ht2 : things ≤ 64) (many : Int) (m0 : 0 ≤ many) (m3 : many ≤ 3) (lo hi : Int) (h0 : 0 ≤ lo) (h1 : lo < hi) (h2 : hi ≤ things) :
    ∃ (c : List Int) (n' : Nat), CutsOk things many c ∧ n' ≤ n + 9 ∧ F__law_some_cuts [.p (scrD ns), .io (.l (tw n)), .p (.int things), .p (.int many), .p (.tuple [.int lo, .int hi])] = .ok (.tuple (iD c)) [.p (scrD ns), .io (.l (tw n')), .p (.int things), .p (.int many), .p (.tuple [.int lo, .int hi])] := by
  obtain ⟨m, rfl⟩ : ∃ m : Nat, many = m := ⟨many.toNat, by omega⟩
  obtain ⟨ε', hf, n', made, o8, o9, hn', hl, hnd, hr, e⟩ := forL_rng (t := tName 8) (mb := B__law_some_cuts_0) (fun k ε => ∃ (n' : Nat) (made : List Int) (o8 o9 : Option PD), n' ≤ n + 3 * k ∧ made.length ≤ k ∧ made.Nodup ∧ (∀ x ∈ made, 1 ≤ x ∧ x ≤ things - 1) ∧
      ε = [.p (scrD ns), .io (.l (tw n')), .p (.int things), .p (.int m), .p (.tuple [.int lo, .int hi]), .p (.int lo), .p (.int hi), .ow (.l (iD made)), jk o8, jk o9]) m
    [.p (scrD ns), .io (.l (tw n)), .p (.int things), .p (.int m), .p (.tuple [.int lo, .int hi]), .p (.int lo), .p (.int hi), .ow (.l []), .no, .no] (fun k ε hk ⟨n', made, o8, o9, hn', hl, hnd, hr, e⟩ => by
      subst e
      refine ⟨[.p (scrD ns), .io (.l (tw n')), .p (.int things), .p (.int m), .p (.tuple [.int lo, .int hi]), .p (.int lo), .p (.int hi), .ow (.l (iD made)), .p (.int (k : Nat)), jk o9], ?_⟩
      have d0 := draw_ok ns hn n' (by omega) things (by omega)
      have r0 := dr_in ns hn n' (by omega) things (by omega)
      generalize dr ns n' things = x0 at *
      have hb : made.length < big := by unfold big; omega
      -- a cut in hand: taken or not
      have fin : ∀ (n1 : Nat) (x : Int), n1 ≤ n' + 3 → 0 ≤ x → x ≤ things - 1 → ∃ ε2, (sIf (bAnd (mTru (mBin (lift2 fGt) (mVar 9) (mC (.int 0)))) (mTru (mBin (lift2 fNotIn) (mVar 9) (mVar 7)))) (sDrop (mApp 7 (mVal (mVar 9)))) (sNil)) [.p (scrD ns), .io (.l (tw n1)), .p (.int things), .p (.int m), .p (.tuple [.int lo, .int hi]), .p (.int lo), .p (.int hi), .ow (.l (iD made)), .p (.int (k : Nat)), .p (.int x)] = .ok .nx ε2 ∧
          ∃ (n' : Nat) (made : List Int) (o8 o9 : Option PD), n' ≤ n + 3 * (k + 1) ∧ made.length ≤ k + 1 ∧ made.Nodup ∧ (∀ x ∈ made, 1 ≤ x ∧ x ≤ things - 1) ∧ ε2 = [.p (scrD ns), .io (.l (tw n')), .p (.int things), .p (.int m), .p (.tuple [.int lo, .int hi]), .p (.int lo), .p (.int hi), .ow (.l (iD made)), jk o8, jk o9] := by
        intro n1 x g1 g2 g3
        have en := notin_ints x made
        by_cases hx : 0 < x ∧ x ∉ made
        · obtain ⟨hx1, hx2⟩ := hx
          have ea : iD made ++ [.int x] = iD (made ++ [x]) := by rw [iD_app]; rfl
          refine ⟨[.p (scrD ns), .io (.l (tw n1)), .p (.int things), .p (.int m), .p (.tuple [.int lo, .int hi]), .p (.int lo), .p (.int hi), .ow (.l (iD (made ++ [x]))), .p (.int (k : Nat)), .p (.int x)], by simp -implicitDefEqProofs [en, hx1, hx2, hb, ea], n1, made ++ [x], some (.int (k : Nat)), some (.int x), by omega, by rw [List.length_append, List.length_singleton]; omega, ?_, ?_, rfl⟩
          · rw [List.nodup_append]
            exact ⟨hnd, by simp, fun a ha b hb => by rw [List.mem_singleton.mp hb]; exact fun z => hx2 (z ▸ ha)⟩
          · intro y hy
            rcases List.mem_append.mp hy with hy | hy
            · exact hr y hy
            · rw [List.mem_singleton.mp hy]; omega
        · refine ⟨[.p (scrD ns), .io (.l (tw n1)), .p (.int things), .p (.int m), .p (.tuple [.int lo, .int hi]), .p (.int lo), .p (.int hi), .ow (.l (iD made)), .p (.int (k : Nat)), .p (.int x)], ?_, n1, made, some (.int (k : Nat)), some (.int x), by omega, by omega, hnd, hr, rfl⟩
          by_cases hx1 : 0 < x
          · have hx2 : x ∈ made := Classical.byContradiction fun z => hx ⟨hx1, z⟩
            simp -implicitDefEqProofs [en, hx1, hx2]
          · simp -implicitDefEqProofs [hx1]
      by_cases hw : 1 < hi - lo
      · have d1 := draw_ok ns hn (n' + 1) (by omega) 4 (by omega)
        generalize dr ns (n' + 1) 4 = x1 at *
        by_cases hx1 : 0 < x1
        · have d2 := draw_ok ns hn (n' + 1 + 1) (by omega) (hi - lo - 1) (by omega)
          have r2 := dr_in ns hn (n' + 1 + 1) (by omega) (hi - lo - 1) (by omega)
          generalize dr ns (n' + 1 + 1) (hi - lo - 1) = x2 at *
          obtain ⟨ε2, g1, g2⟩ := fin (n' + 1 + 1 + 1) (lo + 1 + x2) (by omega) (by omega) (by omega)
          refine ⟨ε2, by simp, ?_, g2⟩
          rw [← g1]
          simp -implicitDefEqProofs [B__law_some_cuts_0, d0, d1, d2, hw, hx1]
        · obtain ⟨ε2, g1, g2⟩ := fin (n' + 1 + 1) x0 (by omega) (by omega) (by omega)
          refine ⟨ε2, by simp, ?_, g2⟩
          rw [← g1]
          simp -implicitDefEqProofs [B__law_some_cuts_0, d0, d1, hw, hx1]
      · obtain ⟨ε2, g1, g2⟩ := fin (n' + 1) x0 (by omega) (by omega) (by omega)
        refine ⟨ε2, by simp, ?_, g2⟩
        rw [← g1]
        simp -implicitDefEqProofs [B__law_some_cuts_0, d0, hw]) ⟨n, [], none, none, by omega, Nat.le_refl _, List.nodup_nil, fun x hx => absurd hx (List.not_mem_nil), rfl⟩
  subst e
  have fs := sorted_ints made (by unfold big; omega)
  have mm : midI (m : Int) = true := midI_of (by omega) (by omega)
  refine ⟨made.mergeSort fun a b => decide (a ≤ b), n', ⟨by rw [List.length_mergeSort]; omega, fun x hx => hr x (List.mem_mergeSort.mp hx), sort_strict hnd⟩, by omega, ?_⟩
  simp -implicitDefEqProofs [F__law_some_cuts, runF, M__law_some_cuts, mm, hf, fs]
theorem edge_pair {l : List Int} {P : Int → Prop} (h : ∀ x ∈ l, P x) : ∀ p ∈ l.zip (l.drop 1), P p.1 ∧ P p.2 := fun p hp => by
  obtain ⟨a, b⟩ := p
  obtain ⟨h1, h2⟩ := List.of_mem_zip hp
  exact ⟨h a h1, h b (List.mem_of_mem_drop h2)⟩
theorem some_plan_ok (ns : List Int) (hn : ns.length ≤ 63) {things : Int} {late : Nat} {bs : List Int} (ht : 1 ≤ things) (ht2 : things ≤ 64) (hs : Sm bs) (hb : bs.length ≤ 8) : ∀ (left : List Int) (f n : Nat) (put : List (List Int)) (lo hi : Int), left.length < f → left = bs.drop put.length → put.length + left.length = bs.length →
    (∀ c ∈ put, c.length ≤ 3 ∧ ∀ x ∈ c, 1 ≤ x ∧ x ≤ things - 1) → n + 3 * 4 ^ left.length ≤ 700000 → 0 ≤ lo → lo < hi → hi ≤ things →
    ∃ (p : PT) (n' : Nat), goodP things late left p put ∧ n' + 3 ≤ n + 3 * 4 ^ left.length ∧
      F__law_some_plan f [.p (scrD ns), .io (.l (tw n)), .p (gameD things late bs), .p (.tuple (cD put)), .p (.tuple [.int lo, .int hi])] = .ok (planD p) [.p (scrD ns), .io (.l (tw n')), .p (gameD things late bs), .p (.tuple (cD put)), .p (.tuple [.int lo, .int hi])]
  | left, 0, _, _, _, _, h, _, _, _, _, _, _, _ => absurd h (Nat.not_lt_zero _)
  | [], f + 1, n, put, lo, hi, _, _, hl, _, _, _, _, _ => by
    rw [List.length_nil, Nat.add_zero] at hl
    have hl' : (put.length : Int) = (bs.length : Int) := by omega
    refine ⟨.fin, n, rfl, by simp, ?_⟩
    rw [planD_fin]
    simp -implicitDefEqProofs [F__law_some_plan, runF, M__law_some_plan, hl, hl']
  | b :: left, f + 1, n, put, lo, hi, hf, hd, hl, hp, hnn, h0, h1, h2 => by
    rw [List.length_cons] at hf hl hnn
    obtain ⟨hbat, hleft, hlt⟩ : bs[put.length]? = some b ∧ left = bs.drop (put.length + 1) ∧ put.length < bs.length := by
      have hi : put.length < bs.length := by omega
      have hd := hd.symm
      rw [List.drop_eq_getElem_cons hi] at hd
      injection hd with h1 h2
      exact ⟨by rw [List.getElem?_eq_getElem hi, h1], h2.symm, hi⟩
    have hb3 := hs b (List.mem_of_getElem? hbat)
    have hne : ¬ put.length = bs.length := by omega
    have hne' : ¬ (put.length : Int) = (bs.length : Int) := by omega
    have eb : atI (iD bs) (put.length : Int) = some (.int b) := atI_nat (by omega) (by rw [Int.toNat_natCast, iD_at, hbat]; rfl)
    have hpow : 4 ^ (left.length + 1) = 4 * 4 ^ left.length := by rw [Nat.pow_succ, Nat.mul_comm]
    have hpos : 0 < 4 ^ left.length := Nat.pow_pos (by decide)
    rw [hpow] at hnn
    obtain ⟨c, n1, hc, hn1, esc⟩ := some_cuts_ok ns hn n (by omega) things ht ht2 b hb3.1 hb3.2 lo hi h0 h1 h2
    have hc3 : c.length ≤ 3 := by have := hc.1; omega
    have hp' : ∀ y ∈ put ++ [c], y.length ≤ 3 ∧ ∀ x ∈ y, 1 ≤ x ∧ x ≤ things - 1 := fun y hy => by
      rcases List.mem_append.mp hy with hy | hy
      · exact hp y hy
      · rw [List.mem_singleton.mp hy]; exact ⟨hc3, hc.2.1⟩
    have edue := law_due_ok late (put ++ [c])
    have fa : fAdd (.tuple (cD put)) (.tuple [.tuple (iD c)]) = some (.val (.tuple (cD (put ++ [c])))) := by
      rw [fAdd_tt _ _ (by simp; unfold big; omega), cD_app]; rfl
    obtain ⟨due, ed⟩ : ∃ d, dueL late (put ++ [c]) = d := ⟨_, rfl⟩
    have hdue : due.length ≤ 3 ∧ ∀ x ∈ due, 1 ≤ x ∧ x ≤ things - 1 := by
      rcases due_mem (late := late) (put := put ++ [c]) with z | z
      · rw [← ed, z]; simp
      · rw [← ed]; exact hp' _ z
    rw [ed] at edue
    obtain ⟨edges, ee⟩ : ∃ e, 0 :: due ++ [things] = e := ⟨_, rfl⟩
    have hel : edges.length = due.length + 2 := by rw [← ee]; simp
    have hedge : ∀ x ∈ edges, 0 ≤ x ∧ x ≤ things := fun x hx => by
      rw [← ee] at hx
      simp only [List.cons_append, List.mem_cons, List.mem_append, List.not_mem_nil, or_false] at hx
      rcases hx with e | hx | e
      · omega
      · have := hdue.2 x hx; omega
      · omega
    have fa2 : fAdd (.tuple [.int 0]) (.tuple (iD due)) = some (.val (.tuple (iD (0 :: due)))) := by
      rw [fAdd_tt _ _ (by simp; unfold big; omega)]; rfl
    have fa3 : fAdd (.tuple (iD (0 :: due))) (.tuple [.int things]) = some (.val (.tuple (iD edges))) := by
      rw [fAdd_tt _ _ (by simp; unfold big; omega), ← ee, iD_app (0 :: due)]; rfl
    have hzl : (edges.zip (edges.drop 1)).length = due.length + 1 := by rw [List.length_zip, List.length_drop, hel]; omega
    -- the plans, answer by answer
    obtain ⟨ε', hfor, n2, ps, o11, o12, o13, hn2, hpl, hgood, e⟩ := forL_ix (t := tTupT [11, 12]) (mb := B__law_some_plan_0 (F__law_some_plan f)) (fun p : Int × Int => PyData.tuple [.int p.1, .int p.2])
      (fun k ε => ∃ (n2 : Nat) (ps : List PT) (o11 o12 o13 : Option PD), n2 + 3 * k ≤ n1 + k * (3 * 4 ^ left.length) ∧ ps.length = k ∧ (∀ q ∈ ps, goodP things late left q (put ++ [c])) ∧
        ε = [.p (scrD ns), .io (.l (tw n2)), .p (gameD things late bs), .p (.tuple (cD put)), .p (.tuple [.int lo, .int hi]), .p (.int lo), .p (.int hi), .p (.tuple (iD c)), .p (.tuple (cD (put ++ [c]))), .p (.tuple (iD edges)), .ow (.l (ps.map planD)), jk o11, jk o12, jk o13])
      (edges.zip (edges.drop 1)) 0 [.p (scrD ns), .io (.l (tw n1)), .p (gameD things late bs), .p (.tuple (cD put)), .p (.tuple [.int lo, .int hi]), .p (.int lo), .p (.int hi), .p (.tuple (iD c)), .p (.tuple (cD (put ++ [c]))), .p (.tuple (iD edges)), .ow (.l []), .no, .no, .no]
      (fun k x ε hx ⟨n2, ps, o11, o12, o13, hn2, hpl, hgood, e⟩ => by
        subst e
        rw [Nat.zero_add] at hn2 hpl ⊢
        have hk := (List.getElem?_eq_some_iff.mp hx).1
        rw [hzl] at hk
        obtain ⟨⟨x1, x2⟩, x3, x4⟩ := edge_pair hedge x (List.mem_of_getElem? hx)
        obtain ⟨a, bb⟩ := x
        simp only at x1 x2 x3 x4
        obtain ⟨mx, emx⟩ : ∃ m, (if a > lo then a else lo) = m := ⟨_, rfl⟩
        obtain ⟨mn, emn⟩ : ∃ m, (if bb < hi then bb else hi) = m := ⟨_, rfl⟩
        have fm : fMax2 [.int lo, .int a] = some (.val (.int mx)) := by rw [fMax2_ii, emx]
        have fn : fMin2 [.int hi, .int bb] = some (.val (.int mn)) := by rw [fMin2_ii, emn]
        have hmx : 0 ≤ mx := by rw [← emx]; split <;> omega
        have hmn : mn ≤ things := by rw [← emn]; split <;> omega
        have hkk : k * (3 * 4 ^ left.length) ≤ 3 * (3 * 4 ^ left.length) := Nat.mul_le_mul_right _ (by omega)
        have hbnd : n2 + 3 * 4 ^ left.length ≤ 700000 := by
          have : k = 0 ∨ k = 1 ∨ k = 2 ∨ k = 3 := by omega
          rcases this with z | z | z | z <;> subst z <;> omega
        have hps : ps.length < big := by rw [hpl]; unfold big; omega
        have hsucc : (k + 1) * (3 * 4 ^ left.length) = k * (3 * 4 ^ left.length) + 3 * 4 ^ left.length := Nat.succ_mul ..
        obtain ⟨lo', hi', hown, g0, g1, g2⟩ : ∃ lo' hi' : Int, (if mx < mn then (mx, mn) else (lo, lo + 1)) = (lo', hi') ∧ 0 ≤ lo' ∧ lo' < hi' ∧ hi' ≤ things := by
          by_cases hh : mx < mn
          · exact ⟨mx, mn, if_pos hh, hmx, hh, hmn⟩
          · exact ⟨lo, lo + 1, if_neg hh, h0, by omega, by omega⟩
        obtain ⟨q, n3, hq, hn3, epl⟩ := some_plan_ok ns hn (late := late) ht ht2 hs hb left f n2 (put ++ [c]) lo' hi' (by omega) (by rw [List.length_append, List.length_singleton]; exact hleft) (by rw [List.length_append, List.length_singleton]; omega) hp' hbnd g0 g1 g2
        refine ⟨[.p (scrD ns), .io (.l (tw n2)), .p (gameD things late bs), .p (.tuple (cD put)), .p (.tuple [.int lo, .int hi]), .p (.int lo), .p (.int hi), .p (.tuple (iD c)), .p (.tuple (cD (put ++ [c]))), .p (.tuple (iD edges)), .ow (.l (ps.map planD)), .p (.int a), .p (.int bb), jk o13],
          [.p (scrD ns), .io (.l (tw n3)), .p (gameD things late bs), .p (.tuple (cD put)), .p (.tuple [.int lo, .int hi]), .p (.int lo), .p (.int hi), .p (.tuple (iD c)), .p (.tuple (cD (put ++ [c]))), .p (.tuple (iD edges)), .ow (.l ((ps ++ [q]).map planD)), .p (.int a), .p (.int bb), .p (.tuple [.int mx, .int mn])], by simp, ?_, n3, ps ++ [q], some (.int a), some (.int bb), some (.tuple [.int mx, .int mn]), by omega, by rw [List.length_append, List.length_singleton, hpl], fun y hy => ?_, rfl⟩
        · rw [List.map_append, List.map_singleton]
          by_cases hh : mx < mn
          · rw [if_pos hh] at hown
            cases hown
            simp -implicitDefEqProofs [-fMax2_ii, -fMin2_ii, fm, fn, hh, epl, hps]
          · rw [if_neg hh] at hown
            cases hown
            simp -implicitDefEqProofs [-fMax2_ii, -fMin2_ii, fm, fn, hh, epl, hps]
        · rcases List.mem_append.mp hy with hy | hy
          · exact hgood y hy
          · rw [List.mem_singleton.mp hy]; exact hq) ⟨n1, [], none, none, none, by omega, rfl, fun q hq => absurd hq (List.not_mem_nil), rfl⟩
    rw [Nat.zero_add, hzl] at hn2 hpl
    subst e
    rw [← zip_iD] at hfor
    have hcut : cutD (iD edges) (some 1) none = iD (edges.drop 1) := by rw [cut_from _ (by decide), ← iD_drop]; rfl
    have zf : zipF [.tuple (iD edges), .tuple (iD (edges.drop 1))] = some (zipD (iD edges) (iD (edges.drop 1))) := rfl
    have hkk : (due.length + 1) * (3 * 4 ^ left.length) ≤ 4 * (3 * 4 ^ left.length) := Nat.mul_le_mul_right _ (by omega)
    refine ⟨.ask c ps, n2, ⟨hc, by rw [hpl, ed], hgood⟩, by
      rw [List.length_cons, hpow]
      have : due.length = 0 ∨ due.length = 1 ∨ due.length = 2 ∨ due.length = 3 := by omega
      rcases this with z | z | z | z <;> rw [z] at hn2 <;> omega, ?_⟩
    rw [planD_ask]
    simp -implicitDefEqProofs [F__law_some_plan, runF, M__law_some_plan, hne, hne', esc, eb, fa, edue, fa2, fa3, hcut, zf, hfor, -List.drop_one]
end LK

namespace LK
open PySem PySem.Spec PyProof.Rows L2 MM
theorem fIn_cn {n m : Nat} {d : PD} {ds : List PD} {p : Prop} [Decidable p] (hd : Cn n d) (h : ∀ x ∈ ds, Cn m x) (hp : d ∈ ds ↔ p) (l : n ≤ 64 := by decide) (l' : m + 1 ≤ 64 := by decide) : fIn d (.list ds) = some (.val (.bool (decide p))) := by
  have e : fIn d (.list ds) = if (SeqAt.shaped d && SeqAt.shaped (.list ds)) = true then some (.val (.bool (ds.any fun z => PyData.eqv z d))) else none := by
    cases d <;> rfl
  rw [e, hd.sh l, (Cn.lst h).sh l']
  simp only [Bool.and_self, if_true, Option.some.injEq, Opd.val.injEq, PyData.bool.injEq]
  rw [Bool.eq_iff_iff, List.any_eq_true, decide_eq_true_iff, ← hp]
  constructor
  · rintro ⟨x, hx, he⟩
    rw [eqv_clean x d (h x hx).1 hd.1] at he
    rw [← he]; exact hx
  · intro hx
    exact ⟨d, hx, (eqv_clean d d hd.1 hd.1).mpr rfl⟩
theorem Cn.lk (l : Lk) : Cn 3 (lkD l) := .tup fun d hd => by
  simp only [List.mem_cons, List.not_mem_nil, or_false] at hd
  rcases hd with e | e <;> subst e
  · exact .rows _
  · exact (Cn.ints _).mono (by decide)
section
variable {look : Nat → Lk}
def lksD (look : Nat → Lk) (k : Nat) : List PD := (repsL look k).map fun r => lkD (look r)
def mdsD (look : Nat → Lk) (k : Nat) : List (List PD) := (repsL look k).map fun r => nD (clsL look k r)
theorem find_rep {k r : Nat} (hr : r ∈ repsL look k) (hm : look r = look k) : ∃ j : Nat, (repsL look k)[j]? = some r ∧ gFind (lksD look k) (lkD (look k)) = some (j : Int) := by
  have e : ∀ r', PyData.eqv (lkD (look r')) (lkD (look k)) = decide (look r' = look k) := fun r' => by
    rw [Bool.eq_iff_iff, eqv_clean _ _ (Cn.lk (look r')).1 (Cn.lk (look k)).1, lkD_inj, decide_eq_true_iff]
  have key : ∀ l : List Nat, r ∈ l → (∀ s ∈ l, look s = look k → s = r) → ∃ j : Nat, l[j]? = some r ∧ (l.map fun r => lkD (look r)).findIdx? (fun z => PyData.eqv z (lkD (look k))) = some j := by
    intro l
    induction l with
    | nil => intro h; cases h
    | cons x l ih =>
      intro hr hu
      rw [List.map_cons, List.findIdx?_cons]
      by_cases hx : look x = look k
      · refine ⟨0, ?_, ?_⟩
        · rw [hu x List.mem_cons_self hx]; rfl
        · simp only [e, hx, decide_true, if_true]
      · have hne : r ≠ x := fun z => hx (z ▸ hm)
        have hr' : r ∈ l := by
          rcases List.mem_cons.mp hr with z | z
          · exact absurd z hne
          · exact z
        obtain ⟨j, h1, h2⟩ := ih hr' fun s hs => hu s (List.mem_cons_of_mem _ hs)
        refine ⟨j + 1, h1, ?_⟩
        simp only [e, hx, decide_false, Bool.false_eq_true, if_false]
        rw [h2]; rfl
  obtain ⟨j, h1, h2⟩ := key (repsL look k) hr fun s hs hk => reps_inj hs hr (hk.trans hm.symm)
  refine ⟨j, h1, ?_⟩
  unfold gFind lksD
  rw [h2]; rfl
theorem mds_old {k r j : Nat} (h : ∃ q, q < k ∧ look q = look k) (hj : (repsL look k)[j]? = some r) (hm : look r = look k) :
    (mdsD look k)[j]? = some (nD (clsL look k r)) ∧ (mdsD look k).set j (nD (clsL look k r) ++ [.int (k : Nat)]) = mdsD look (k + 1) ∧ lksD look (k + 1) = lksD look k := by
  have er : repsL look (k + 1) = repsL look k := by rw [reps_succ, if_pos h]
  have hr := List.mem_of_getElem? hj
  refine ⟨by unfold mdsD; rw [List.getElem?_map, hj]; rfl, ?_, by unfold lksD; rw [er]⟩
  unfold mdsD
  rw [er]
  apply List.ext_getElem?
  intro i
  rw [List.getElem?_set]
  by_cases hi : j = i
  · subst hi
    have hlt := (List.getElem?_eq_some_iff.mp hj).1
    rw [if_pos rfl, if_pos (by rw [List.length_map]; exact hlt), List.getElem?_map, hj]
    simp only [Option.map_some, cls_succ, hm, if_true]
    simp [nD, iD]
  · rw [if_neg hi, List.getElem?_map, List.getElem?_map]
    cases e : (repsL look k)[i]? with
    | none => rfl
    | some s =>
      simp only [Option.map_some, cls_succ]
      rw [if_neg]
      intro z
      have hs := List.mem_of_getElem? e
      have : s = r := reps_inj hs hr (z.symm.trans hm.symm)
      subst this
      have h1 := (List.getElem?_eq_some_iff.mp hj)
      have h2 := (List.getElem?_eq_some_iff.mp e)
      have pw := List.pairwise_iff_getElem.mp (reps_sorted (look := look) k)
      rcases Nat.lt_or_gt_of_ne hi with l | l
      · have := pw j i h1.1 h2.1 l
        rw [h1.2, h2.2] at this; omega
      · have := pw i j h2.1 h1.1 l
        rw [h1.2, h2.2] at this; omega
theorem mds_new {k : Nat} (h : ¬ ∃ q, q < k ∧ look q = look k) : mdsD look k ++ [[.int (k : Nat)]] = mdsD look (k + 1) ∧ lksD look k ++ [lkD (look k)] = lksD look (k + 1) := by
  have er : repsL look (k + 1) = repsL look k ++ [k] := by rw [reps_succ, if_neg h]
  unfold mdsD lksD
  rw [er, List.map_append, List.map_append]
  refine ⟨?_, rfl⟩
  congr 1
  · apply List.map_congr_left
    intro r hr
    rw [cls_succ, if_neg fun z => h ⟨r, (mem_reps.mp hr).1, z.symm⟩]
  · have e : clsL look k k = [] := by
      unfold clsL
      rw [List.filter_eq_nil_iff]
      intro t ht
      simp only [decide_eq_true_eq]
      exact fun z => h ⟨t, List.mem_range.mp ht, z⟩
    simp [cls_succ, e, nD, iD]
end
section
variable {things : Int} {late : Nat} {bs : List Int} {p : PT}
theorem lksD_cn {look : Nat → Lk} {k : Nat} : ∀ x ∈ lksD look k, Cn 3 x := fun x hx => by
  obtain ⟨r, _, rfl⟩ := List.mem_map.mp hx
  exact Cn.lk _
theorem lksD_len {look : Nat → Lk} {k : Nat} : (lksD look k).length ≤ k := by
  unfold lksD repsL
  rw [List.length_map]
  exact Nat.le_trans (List.length_filter_le _ _) (by rw [List.length_range]; exact Nat.le_refl _)
theorem in_lks {look : Nat → Lk} {k : Nat} : lkD (look k) ∈ lksD look k ↔ ∃ q, q < k ∧ look q = look k := by
  unfold lksD
  rw [List.mem_map]
  constructor
  · rintro ⟨r, hr, e⟩
    exact ⟨r, (mem_reps.mp hr).1, lkD_inj.mp e⟩
  · rintro ⟨q, hq, e⟩
    obtain ⟨r, hr, e2, _⟩ := rep_of (look := look) hq
    exact ⟨r, hr, by rw [e2, e]⟩
def s3 (look : Nat → Lk) (k : Nat) : Sl := if k = 0 then .ow (.l []) else .ow (.ll (mdsD look k))
theorem appAt_ap {i j k : Nat} {mi : M PD} {ε ε1 : En} {dss dss0 : List (List PD)} {ds : List PD} {d : PD} (h0 : ownLL ε i = some dss0) (hm : mi ε = .ok (.int (k : Nat)) ε1) (h1 : ownLL ε1 i = some dss) (hj : ε1[j]? = some (.p d)) (hd : dss[k]? = some ds) (hl : ds.length < big) :
    mAppAt i mi j ε = .ok (.val .none) (ε1.set i (.ow (.ll (dss.set k (ds ++ [d]))))) := by
  unfold mAppAt
  rw [h0]
  simp only
  rw [hm, Out.bind_ok]
  have hk : (0 : Int) ≤ (k : Nat) := by omega
  simp only [h1, hj, hk, if_true, Int.toNat_natCast, hd]
  rw [if_pos hl]
theorem classes_turn (g : GP things late bs p) {k : Nat} (hk : k < 64) (o5 : Option PD) :
    B__law_classes_0 [.p (gameD things late bs), .p (planD p), .ow (.l (lksD (lkOf late bs p) k)), s3 (lkOf late bs p) k, .p (.int (k : Nat)), jk o5] = .ok .nx [.p (gameD things late bs), .p (planD p), .ow (.l (lksD (lkOf late bs p) (k + 1))), s3 (lkOf late bs p) (k + 1), .p (.int (k : Nat)), .p (lkD (lkOf late bs p k))] := by
  have ep := law_path_ok g.hs g.hb g.hp (k : Int)
  have ep : F__law_path [.p (gameD things late bs), .p (planD p), .p (.int (k : Nat))] = .ok (lkD (lkOf late bs p k)) [.p (gameD things late bs), .p (planD p), .p (.int (k : Nat))] := ep
  generalize lkOf late bs p = look at *
  have hl := lksD_len (look := look) (k := k)
  have hin := fIn_cn (p := ∃ q, q < k ∧ look q = look k) (Cn.lk (look k)) (lksD_cn (look := look) (k := k)) in_lks
  have a1 : sSet 5 (mSink (mCall (F__law_path) (oCons (mSink (mVar 0)) (oCons (mSink (mVar 1)) (oCons (mSink (mVar 4)) (oNil)))))) [.p (gameD things late bs), .p (planD p), .ow (.l (lksD look k)), s3 look k, .p (.int (k : Nat)), jk o5] = .ok .nx [.p (gameD things late bs), .p (planD p), .ow (.l (lksD look k)), s3 look k, .p (.int (k : Nat)), .p (lkD (look k))] := by
    generalize s3 look k = S3 at *
    cases o5 <;> simp -implicitDefEqProofs [ep, jk]
  unfold B__law_classes_0
  rw [sSeq_ap, a1]
  simp only [Out.bind_ok]
  by_cases h : ∃ q, q < k ∧ look q = look k
  · obtain ⟨q, hq, e⟩ := h
    obtain ⟨r, hr, e2, _⟩ := rep_of (look := look) hq
    obtain ⟨j, hj, hf⟩ := find_rep hr (e2.trans e)
    obtain ⟨m1, m2, m3⟩ := mds_old ⟨q, hq, e⟩ hj (e2.trans e)
    have hk0 : k ≠ 0 := by omega
    rw [decide_eq_true ⟨q, hq, e⟩] at hin
    rw [m3]
    have e3 : s3 look k = .ow (.ll (mdsD look k)) := by unfold s3; rw [if_neg hk0]
    have e4 : s3 look (k + 1) = .ow (.ll (mdsD look (k + 1))) := by unfold s3; rw [if_neg (by omega)]
    rw [e3, e4, ← m2]
    have sh : (SeqAt.shaped (lkD (look k)) && SeqAt.shaped (.list (lksD look k))) = true := by rw [(Cn.lk (look k)).sh, (Cn.lst (lksD_cn (look := look) (k := k))).sh]; rfl
    have hc : (nD (clsL look k r)).length < big := by
      rw [iD_len, List.length_map]
      unfold clsL
      have := List.length_filter_le (fun t => decide (look t = look r)) (List.range k)
      rw [List.length_range] at this
      unfold big; omega
    generalize lksD look k = LK at *
    generalize mdsD look k = MD at *
    generalize lkD (look k) = LD at *
    generalize nD (clsL look k r) = CL at *
    have o1 : mOwn1 2 (mVal (mVar 5)) gFind [.p (gameD things late bs), .p (planD p), .ow (.l LK), .ow (.ll MD), .p (.int (k : Nat)), .p LD] = .ok (.val (.int (j : Nat))) [.p (gameD things late bs), .p (planD p), .ow (.l LK), .ow (.ll MD), .p (.int (k : Nat)), .p LD] := by
      unfold mOwn1
      rw [show ownL [Sl.p (gameD things late bs), .p (planD p), .ow (.l LK), .ow (.ll MD), .p (.int (k : Nat)), .p LD] 2 = some LK from rfl]
      simp only
      rw [show mVal (mVar 5) [Sl.p (gameD things late bs), .p (planD p), .ow (.l LK), .ow (.ll MD), .p (.int (k : Nat)), .p LD] = .ok LD [Sl.p (gameD things late bs), .p (planD p), .ow (.l LK), .ow (.ll MD), .p (.int (k : Nat)), .p LD] from rfl, Out.bind_ok]
      rw [show ownL [Sl.p (gameD things late bs), .p (planD p), .ow (.l LK), .ow (.ll MD), .p (.int (k : Nat)), .p LD] 2 = some LK from rfl]
      simp only
      rw [if_pos sh, hf]
    have o2 : mAppAt 3 (mVal (mOwn1 2 (mVal (mVar 5)) gFind)) 4 [.p (gameD things late bs), .p (planD p), .ow (.l LK), .ow (.ll MD), .p (.int (k : Nat)), .p LD] = .ok (.val .none) [.p (gameD things late bs), .p (planD p), .ow (.l LK), .ow (.ll (MD.set j (CL ++ [.int (k : Nat)]))), .p (.int (k : Nat)), .p LD] := by
      have o0 : mVal (mOwn1 2 (mVal (mVar 5)) gFind) [.p (gameD things late bs), .p (planD p), .ow (.l LK), .ow (.ll MD), .p (.int (k : Nat)), .p LD] = .ok (.int (j : Nat)) [.p (gameD things late bs), .p (planD p), .ow (.l LK), .ow (.ll MD), .p (.int (k : Nat)), .p LD] := by
        rw [mVal_ap, o1]; rfl
      exact appAt_ap (dss0 := MD) (dss := MD) (d := .int (k : Nat)) (j := 4) rfl o0 rfl rfl m1 hc
    generalize mOwn1 2 (mVal (mVar 5)) gFind = MO at *
    generalize mAppAt 3 (mVal MO) 4 = MA at *
    simp -implicitDefEqProofs [hin, o2]
  · obtain ⟨m1, m2⟩ := mds_new h
    rw [decide_eq_false h] at hin
    have hlb : (lksD look k).length < big := by unfold big; omega
    have hmb : (mdsD look k).length < big := by
      unfold mdsD; unfold lksD at hl
      rw [List.length_map] at hl ⊢
      unfold big; omega
    have e4 : s3 look (k + 1) = .ow (.ll (mdsD look (k + 1))) := by unfold s3; rw [if_neg (by omega)]
    have e3 : ownLL [.p (gameD things late bs), .p (planD p), .ow (.l (lksD look (k + 1))), s3 look k, .p (.int (k : Nat)), .p (lkD (look k))] 3 = some (mdsD look k) := by
      unfold s3
      by_cases z : k = 0
      · subst z; rfl
      · rw [if_neg z]; rfl
    rw [e4, ← m1]
    have o2 : mAppLL 3 (mLst (mCons (mVal (mVar 4)) mNil)) [.p (gameD things late bs), .p (planD p), .ow (.l (lksD look (k + 1))), s3 look k, .p (.int (k : Nat)), .p (lkD (look k))] = .ok (.val .none) [.p (gameD things late bs), .p (planD p), .ow (.l (lksD look (k + 1))), .ow (.ll (mdsD look k ++ [[.int (k : Nat)]])), .p (.int (k : Nat)), .p (lkD (look k))] := by
      unfold mAppLL
      rw [e3]
      simp only
      rw [show mLst (mCons (mVal (mVar 4)) mNil) [.p (gameD things late bs), .p (planD p), .ow (.l (lksD look (k + 1))), s3 look k, .p (.int (k : Nat)), .p (lkD (look k))] = .ok (.new (.l [.int (k : Nat)])) [.p (gameD things late bs), .p (planD p), .ow (.l (lksD look (k + 1))), s3 look k, .p (.int (k : Nat)), .p (lkD (look k))] from rfl, Out.bind_ok]
      simp only
      rw [e3]
      simp only
      rw [if_pos hmb]; rfl
    rw [← m2] at o2 ⊢
    generalize mAppLL 3 (mLst (mCons (mVal (mVar 4)) mNil)) = MA at *
    generalize s3 look k = S3 at *
    generalize lkD (look k) = LD at *
    generalize lksD look k = LK at *
    generalize mdsD look k = MD at *
    simp -implicitDefEqProofs [hin, o2, hlb]
theorem classes_ok (g : GP things late bs p) : F__law_classes [.p (gameD things late bs), .p (planD p)] = .nw (.ll (mdsD (lkOf late bs p) things.toNat)) [.p (gameD things late bs), .p (planD p)] := by
  have h0 := g.h0
  have h1 := g.h1
  obtain ⟨ε', hf, o4, o5, e⟩ := forL_rng (t := tName 4) (mb := B__law_classes_0) (fun k ε => ∃ o4 o5 : Option PD, ε = [.p (gameD things late bs), .p (planD p), .ow (.l (lksD (lkOf late bs p) k)), s3 (lkOf late bs p) k, jk o4, jk o5]) things.toNat
    [.p (gameD things late bs), .p (planD p), .ow (.l []), .ow (.l []), .no, .no] (fun k ε hk ⟨o4, o5, e⟩ => by
      subst e
      refine ⟨_, _, ?_, classes_turn g (by omega) o5, some _, some _, rfl⟩
      generalize s3 (lkOf late bs p) k = S3
      cases o4 <;> simp [jk]) ⟨none, none, rfl⟩
  subst e
  have e3 : s3 (lkOf late bs p) things.toNat = .ow (.ll (mdsD (lkOf late bs p) things.toNat)) := by unfold s3; rw [if_neg (by omega)]
  rw [e3] at hf
  have m1 : midI things = true := midI_of (by omega) (by omega)
  have r4 : rng1 [.int things] = some (rngD 0 1 things.toNat) := by rw [rng1_i, if_pos m1]
  generalize rngD 0 1 things.toNat = R4 at *
  generalize mdsD (lkOf late bs p) things.toNat = MD at *
  generalize lksD (lkOf late bs p) things.toNat = LK at *
  have e : M__law_classes [.p (gameD things late bs), .p (planD p), .no, .no, .no, .no] = .ok (.rn (.ll MD)) [.p (gameD things late bs), .p (planD p), .ow (.l LK), .ow (.ll MD), jk o4, jk o5] := by
    unfold M__law_classes
    have a1 : sPar [2, 3] (oCons (mLst (mNil)) (oCons (mLst (mNil)) (oNil))) [.p (gameD things late bs), .p (planD p), .no, .no, .no, .no] = .ok .nx [.p (gameD things late bs), .p (planD p), .ow (.l []), .ow (.l []), .no, .no] := rfl
    rw [sSeq_ap, a1]
    simp only [Out.bind_ok]
    have a2 : sFor (iRow rng1 (mCons (mVal (mBin (lift2 fIx) (mVar 0) (mC (.int 0)))) (mNil))) (tName 4) ((B__law_classes_0)) [.p (gameD things late bs), .p (planD p), .ow (.l []), .ow (.l []), .no, .no] = .ok .nx [.p (gameD things late bs), .p (planD p), .ow (.l LK), .ow (.ll MD), jk o4, jk o5] := by
      rw [sFor_ap]
      simp -implicitDefEqProofs [r4, hf, -rng1_i]
    rw [sSeq_ap, a2]
    rfl
  unfold F__law_classes runF
  show finF _ (M__law_classes [.p (gameD things late bs), .p (planD p), .no, .no, .no, .no]) = _
  rw [e]
  rfl
end
end LK

namespace LK
open PySem PySem.Spec PyProof.Rows L2 MM
def nar (th : Int) (s : Int × Int) (c : Int) : Int × Int := if th < c then (s.1, if c < s.2 then c else s.2) else (if s.1 < c then c else s.1, s.2)
def narL (th : Int) (s : Int × Int) (cuts : List Int) : Int × Int := cuts.foldl (nar th) s
abbrev sxD (s : Int × Int) : PD := .tuple [.int s.1, .int s.2]
theorem narrowed_ok (s : Int × Int) (cuts : List Int) (t : Int) (hb : cuts.length ≤ 1000) : F_narrowed [.p (sxD s), .p (.tuple (iD cuts)), .p (.int t)] = .ok (sxD (narL t s cuts)) [.p (sxD s), .p (.tuple (iD cuts)), .p (.int t)] := by
  obtain ⟨ε', hf, z, hz, he⟩ := forL_ix (t := tName 5) (mb := B_narrowed_0) PyData.int (fun n ε => ∃ s5 : Sl, (s5 = .no ∨ ∃ d, s5 = .p d) ∧ ε = [.p (sxD s), .p (.tuple (iD cuts)), .p (.int t), .p (.int (narL t s (cuts.take n)).1), .p (.int (narL t s (cuts.take n)).2), s5]) cuts 0
    [.p (sxD s), .p (.tuple (iD cuts)), .p (.int t), .p (.int s.1), .p (.int s.2), .no] (fun n x ε hx ⟨s5, h5, he⟩ => by
      subst he
      rw [Nat.zero_add] at *
      have hn : n < cuts.length := (List.getElem?_eq_some_iff.mp hx).1
      have tk : cuts.take (n + 1) = cuts.take n ++ [x] := by
        rw [List.take_succ, hx]; rfl
      have st : narL t s (cuts.take (n + 1)) = nar t (narL t s (cuts.take n)) x := by rw [tk]; unfold narL; rw [List.foldl_append]; rfl
      rw [st]
      generalize narL t s (cuts.take n) = u
      refine ⟨[.p (sxD s), .p (.tuple (iD cuts)), .p (.int t), .p (.int u.1), .p (.int u.2), .p (.int x)], [.p (sxD s), .p (.tuple (iD cuts)), .p (.int t), .p (.int (nar t u x).1), .p (.int (nar t u x).2), .p (.int x)], ?_, ?_, _, .inr ⟨_, rfl⟩, rfl⟩
      · rcases h5 with e | ⟨d, e⟩ <;> subst e <;> simp
      · unfold nar
        by_cases h : t < x
        · simp -implicitDefEqProofs [B_narrowed_0, h]
        · simp -implicitDefEqProofs [B_narrowed_0, h])
    ⟨.no, .inl rfl, rfl⟩
  have hf : forL (tName 5) B_narrowed_0 (iD cuts) _ = _ := hf
  subst he
  rw [Nat.zero_add, List.take_length] at hf
  simp -implicitDefEqProofs [F_narrowed, runF, M_narrowed, hf]
theorem ansL_same : ∀ (c : List Int) {k t : Int}, ansL c k = ansL c t ↔ ∀ x ∈ c, (x ≤ k ↔ x ≤ t) := by
  have mono : ∀ (c : List Int) {k t : Int}, k ≤ t → ansL c k ≤ ansL c t := by
    intro c k t h
    induction c with
    | nil => exact Nat.le_refl _
    | cons x c ih =>
      unfold ansL at *
      by_cases h1 : x ≤ k
      · have h2 : x ≤ t := by omega
        simp [h1, h2]; omega
      · by_cases h2 : x ≤ t
        · simp [h1, h2]; omega
        · simp [h1, h2]; omega
  have one : ∀ (c : List Int) {k t : Int}, k ≤ t → ansL c k = ansL c t → ∀ x ∈ c, (x ≤ k ↔ x ≤ t) := by
    intro c k t h
    induction c with
    | nil => intro _ x hx; cases hx
    | cons y c ih =>
      intro e x hx
      have m := mono c h
      have e' : (if y ≤ k then 1 else 0) + ansL c k = (if y ≤ t then 1 else 0) + ansL c t := by
        have u : ∀ s : Int, ansL (y :: c) s = (if y ≤ s then 1 else 0) + ansL c s := by
          intro s
          unfold ansL
          by_cases hy : y ≤ s
          · simp [hy]; omega
          · simp [hy]
        rw [← u, ← u, e]
      by_cases hk : y ≤ k
      · have ht : y ≤ t := by omega
        rw [if_pos hk, if_pos ht] at e'
        rcases List.mem_cons.mp hx with rfl | hx
        · omega
        · exact ih (by omega) x hx
      · by_cases ht : y ≤ t
        · rw [if_neg hk, if_pos ht] at e'; omega
        · rw [if_neg hk, if_neg ht] at e'
          rcases List.mem_cons.mp hx with rfl | hx
          · omega
          · exact ih (by omega) x hx
  intro c k t
  constructor
  · intro e
    rcases Int.le_total k t with h | h
    · exact one c h e
    · exact fun x hx => (one c h e.symm x hx).symm
  · intro h
    unfold ansL
    congr 1
    apply List.filter_congr
    intro x hx
    rw [decide_eq_decide]
    exact h x hx
theorem nar_iff {th k : Int} {s : Int × Int} {x : Int} : (nar th s x).1 ≤ k ∧ k < (nar th s x).2 ↔ (s.1 ≤ k ∧ k < s.2) ∧ (x ≤ k ↔ x ≤ th) := by
  unfold nar
  split
  · simp only
    split <;> omega
  · simp only
    split <;> omega
theorem narL_iff {th k : Int} : ∀ {c : List Int} {s : Int × Int}, (narL th s c).1 ≤ k ∧ k < (narL th s c).2 ↔ (s.1 ≤ k ∧ k < s.2) ∧ ∀ x ∈ c, (x ≤ k ↔ x ≤ th)
  | [], s => by unfold narL; simp
  | x :: c, s => by
    have := narL_iff (th := th) (k := k) (c := c) (s := nar th s x)
    unfold narL at *
    rw [List.foldl_cons, this, nar_iff]
    simp only [List.mem_cons, forall_eq_or_imp]
    constructor
    · rintro ⟨⟨a, b⟩, c⟩; exact ⟨a, b, c⟩
    · rintro ⟨a, b, c⟩; exact ⟨⟨a, b⟩, c⟩
theorem posL_iff {th k : Int} : ∀ {D : List (List Int)} {s : Int × Int}, (D.foldl (fun s c => narL th s c) s).1 ≤ k ∧ k < (D.foldl (fun s c => narL th s c) s).2 ↔ (s.1 ≤ k ∧ k < s.2) ∧ ∀ c ∈ D, ∀ x ∈ c, (x ≤ k ↔ x ≤ th)
  | [], s => by simp
  | c :: D, s => by
    have := posL_iff (th := th) (k := k) (D := D) (s := narL th s c)
    rw [List.foldl_cons, this, narL_iff]
    simp only [List.mem_cons, forall_eq_or_imp]
    constructor
    · rintro ⟨⟨a, b⟩, c⟩; exact ⟨a, b, c⟩
    · rintro ⟨a, b, c⟩; exact ⟨⟨a, b⟩, c⟩

/-- what is left of the things behind i beats -/
def posP (things t : Int) (W : List (List Int)) (i : Nat) : Int × Int := (W.take i).foldl (fun s c => narL t s c) (0, things)
def idl (things t : Int) (W : List (List Int)) (i : Nat) : Bool := decide (narL t (posP things t W i) (W.getD i []) = posP things t W i)
def idleL (things t : Int) (W : List (List Int)) (n : Nat) : List Int := ((List.range n).filter (idl things t W)).map fun i : Nat => (i : Int)
theorem posP_succ {things t : Int} {W : List (List Int)} {i : Nat} (h : i < W.length) : posP things t W (i + 1) = narL t (posP things t W i) (W.getD i []) := by
  unfold posP
  rw [List.take_succ, List.getElem?_eq_getElem h, List.foldl_append, List.getD_eq_getElem?_getD, List.getElem?_eq_getElem h]
  rfl
theorem idleL_succ {things t : Int} {W : List (List Int)} {i : Nat} : idleL things t W (i + 1) = if idl things t W i = true then idleL things t W i ++ [(i : Int)] else idleL things t W i := by
  unfold idleL
  rw [List.range_succ, List.filter_append, List.map_append]
  by_cases h : idl things t W i = true
  · rw [if_pos h]; simp [h]
  · rw [if_neg h]; simp [h]
/-- idle: all that is left answers alike -/
theorem idl_iff {things t : Int} {W : List (List Int)} {i : Nat} (t0 : 0 ≤ t) (t1 : t < things) : idl things t W i = true ↔ ∀ k : Int, 0 ≤ k → k < things → (∀ c ∈ W.take i, ansL c k = ansL c t) → ansL (W.getD i []) k = ansL (W.getD i []) t := by
  unfold idl
  rw [decide_eq_true_iff]
  have hp : ∀ k : Int, (posP things t W i).1 ≤ k ∧ k < (posP things t W i).2 ↔ (0 ≤ k ∧ k < things) ∧ ∀ c ∈ W.take i, ∀ x ∈ c, (x ≤ k ↔ x ≤ t) := fun k => posL_iff
  have hin := (hp t).mpr ⟨⟨t0, t1⟩, fun _ _ _ _ => Iff.rfl⟩
  have hs : ∀ k : Int, (narL t (posP things t W i) (W.getD i [])).1 ≤ k ∧ k < (narL t (posP things t W i) (W.getD i [])).2 ↔ ((posP things t W i).1 ≤ k ∧ k < (posP things t W i).2) ∧ ∀ x ∈ W.getD i [], (x ≤ k ↔ x ≤ t) := fun k => narL_iff
  constructor
  · intro e k k0 k1 hk
    rw [e] at hs
    have := (hp k).mpr ⟨⟨k0, k1⟩, fun c hc => (ansL_same c).mp (hk c hc)⟩
    exact (ansL_same _).mpr ((hs k).mp this).2
  · intro h
    have e : ∀ k : Int, (narL t (posP things t W i) (W.getD i [])).1 ≤ k ∧ k < (narL t (posP things t W i) (W.getD i [])).2 ↔ ((posP things t W i).1 ≤ k ∧ k < (posP things t W i).2) := fun k => by
      rw [hs]
      refine ⟨And.left, fun q => ⟨q, ?_⟩⟩
      obtain ⟨⟨a, b⟩, c⟩ := (hp k).mp q
      exact (ansL_same _).mp (h k a b fun c' hc => (ansL_same _).mpr (c c' hc))
    have a1 := (e t).mpr hin
    generalize narL t (posP things t W i) (W.getD i []) = P at *
    generalize posP things t W i = Q at *
    have e1 := (e P.1).mp ⟨Int.le_refl _, by omega⟩
    have e2 := (e (P.2 - 1)).mp ⟨by omega, by omega⟩
    have e3 := (e Q.1).mpr ⟨Int.le_refl _, by omega⟩
    have e4 := (e (Q.2 - 1)).mpr ⟨by omega, by omega⟩
    obtain ⟨p1, p2⟩ := P
    obtain ⟨q1, q2⟩ := Q
    simp only at *
    rw [Prod.mk.injEq]
    exact ⟨by omega, by omega⟩
theorem cD_rng (W : List (List Int)) : cD W = (List.range W.length).map fun i => PyData.tuple (iD (W.getD i [])) := by
  unfold cD
  apply List.ext_getElem?
  intro i
  rw [List.getElem?_map, List.getElem?_map]
  by_cases h : i < W.length
  · rw [List.getElem?_eq_getElem h, List.getElem?_range h]
    simp [List.getD_eq_getElem?_getD, h]
  · rw [List.getElem?_eq_none (by omega), List.getElem?_eq_none (by rw [List.length_range]; omega)]; rfl
section
variable {things : Int} {late : Nat} {bs : List Int} {p : PT}
theorem sx_eq (A B : Int × Int) : fEq (sxD A) (sxD B) = some (.val (.bool (decide (A = B)))) := by
  obtain ⟨a1, a2⟩ := A
  obtain ⟨b1, b2⟩ := B
  exact fEq_cn (p := (a1, a2) = (b1, b2)) (Cn.ints [a1, a2]) (Cn.ints [b1, b2]) (by simp [iD])
theorem idle_ok (g : GP things late bs p) {t : Int} (t0 : 0 ≤ t) (t1 : t < things) : F_idle [.p (gameD things late bs), .p (planD p), .p (.int t)] = .ok (.list (iD (idleL things t (pathG late t bs.length p []) bs.length))) [.p (gameD things late bs), .p (planD p), .p (.int t)] := by
  have hna := need_all_ok g t0 t1
  have hw := way_of_ok g t
  have h3 := g.cuts t
  have hl := g.len t
  have hb := g.hb
  generalize pathG late t bs.length p [] = W at *
  have en : enumFT [.tuple (cD W)] = some ((List.range W.length).map fun i => .tuple [.int (i : Nat), .tuple (iD (W.getD i []))]) := by
    rw [enumFT_t, cD_rng W, enD_range]
  obtain ⟨ε', hf, o5, o6, o7, e⟩ := forL_ix (t := tTupT [5, 6]) (mb := B_idle_0) (fun i : Nat => PyData.tuple [.int (i : Nat), .tuple (iD (W.getD i []))]) (fun n ε => ∃ o5 o6 o7 : Option PD, ε = [.p (gameD things late bs), .p (planD p), .p (.int t), .ow (.l (iD (idleL things t W n))), .p (sxD (posP things t W n)), jk o5, jk o6, jk o7]) (List.range W.length) 0
    [.p (gameD things late bs), .p (planD p), .p (.int t), .ow (.l []), .p (sxD (0, things)), .no, .no, .no] (fun n x ε hx ⟨o5, o6, o7, e⟩ => by
      subst e
      rw [Nat.zero_add] at *
      obtain ⟨hn, hxe⟩ := List.getElem?_eq_some_iff.mp hx
      rw [List.getElem_range] at hxe
      subst hxe
      rw [List.length_range] at hn
      have hc3 : (W.getD n []).length ≤ 3 := by
        rw [List.getD_eq_getElem?_getD, List.getElem?_eq_getElem hn]
        exact h3 _ (List.getElem_mem hn)
      have en := narrowed_ok (posP things t W n) (W.getD n []) t (by omega)
      have eq : fEq (sxD (narL t (posP things t W n) (W.getD n []))) (sxD (posP things t W n)) = some (.val (.bool (idl things t W n))) := by
        unfold idl
        exact sx_eq _ _
      have hbig : (idleL things t W n).length < big := by
        unfold idleL
        rw [List.length_map]
        have := List.length_filter_le (idl things t W) (List.range n)
        rw [List.length_range] at this
        unfold big; omega
      refine ⟨[.p (gameD things late bs), .p (planD p), .p (.int t), .ow (.l (iD (idleL things t W n))), .p (sxD (posP things t W n)), .p (.int (n : Nat)), .p (.tuple (iD (W.getD n []))), jk o7], _, ?_, ?_, some (.int (n : Nat)), some (.tuple (iD (W.getD n []))), some (sxD (posP things t W (n + 1))), rfl⟩
      · cases o5 <;> cases o6 <;> simp [jk]
      · rw [posP_succ hn, idleL_succ]
        generalize hS2 : sxD (narL t (posP things t W n) (W.getD n [])) = S2 at *
        generalize hS1 : sxD (posP things t W n) = S1 at *
        generalize hCC : iD (W.getD n []) = CC at *
        cases hi : idl things t W n with
        | true =>
          rw [hi] at eq
          have ap : iD (idleL things t W n) ++ [PyData.int (n : Nat)] = iD (idleL things t W n ++ [(n : Int)]) := by simp [iD]
          generalize idleL things t W n = IL at *
          cases o7 <;> simp -implicitDefEqProofs [B_idle_0, en, eq, jk, hbig, ap, hS2, hCC]
        | false =>
          rw [hi] at eq
          generalize idleL things t W n = IL at *
          cases o7 <;> simp -implicitDefEqProofs [B_idle_0, en, eq, jk, hS2, hCC]) ⟨none, none, none, rfl⟩
  rw [Nat.zero_add, List.length_range, hl] at e
  subst e
  generalize hI : iD (idleL things t W bs.length) = IL at *
  generalize (List.range W.length).map (fun i => PyData.tuple [.int (i : Nat), .tuple (iD (W.getD i []))]) = EN at *
  simp -implicitDefEqProofs [F_idle, runF, M_idle, hna, hw, en, hf]
end
end LK

namespace LK
open PySem PySem.Spec PyProof.Rows L2 MM
theorem cut_cDp (H : List (List Int)) (k : Nat) {z : Int} (h : z = (k : Nat)) : cutD (cD H) none (some z) = cD (H.take k) := by
  rw [h, cut_to _ (by omega), Int.toNat_natCast]
  simp [cD, List.map_take]
theorem path_pre {late : Nat} {k t : Int} : ∀ (n : Nat) (p : PT) (put : List (List Int)) (i : Nat), (∀ c ∈ put, ansL c k = ansL c t) → (∀ c ∈ (pathG late t n p put).take i, ansL c k = ansL c t) → (pathG late k n p put).take i = (pathG late t n p put).take i
  | 0, _, _, _, _, _ => rfl
  | _ + 1, .fin, _, _, _, _ => rfl
  | n + 1, .ask c subs, put, 0, hp, h => by rw [List.take_zero, List.take_zero]
  | n + 1, .ask c subs, put, i + 1, hp, h => by
    rw [pathG, List.take_succ_cons] at h
    have hc := h c List.mem_cons_self
    have hp' : ∀ y ∈ put ++ [c], ansL y k = ansL y t := fun y hy => by
      rcases List.mem_append.mp hy with hy | hy
      · exact hp y hy
      · rw [List.mem_singleton.mp hy]; exact hc
    have hd : ansL (dueL late (put ++ [c])) k = ansL (dueL late (put ++ [c])) t := by
      rcases due_mem (late := late) (put := put ++ [c]) with z | z
      · rw [z]; rfl
      · exact hp' _ z
    rw [pathG, pathG, hd, List.take_succ_cons, List.take_succ_cons]
    congr 1
    cases e : subs[ansL (dueL late (put ++ [c])) t]? with
    | none => rfl
    | some q =>
      rw [e] at h
      exact path_pre n q (put ++ [c]) i hp' fun y hy => h y (List.mem_cons_of_mem _ hy)
section
variable {things : Int} {late : Nat} {bs : List Int} {p : PT} {look : Nat → Lk} {n t i : Nat} {W : List (List Int)} {made : List PD} {s3 s4 s5 s6 s7 : Sl} {L0 : List PD}
def JJ (sl : Sl) : Prop := sl = .no ∨ ∃ d, sl = .p d
abbrev EI (L0 : List PD) (t : Nat) (made : List PD) (s3 s4 s5 s6 s7 : Sl) : En := [.p (.list L0), .p (.int (t : Nat)), .ow (.l made), s3, s4, s5, s6, s7, .no, .no, .no]
def sam1 (look : Nat → Lk) (n i : Nat) (W : List (List Int)) : List Nat := (List.range n).filter fun k => decide ((look k).1.take i = W.take i)
def sam2 (look : Nat → Lk) (n t i : Nat) (W : List (List Int)) : List Nat := (sam1 look n i W).filter fun k => decide ((W.take i).map (fun c => ((ansL c (k : Int) : Nat) : Int)) = (W.take i).map fun c => ((ansL c (t : Int) : Nat) : Int))
theorem li_1 (hL : L0 = (List.range n).map fun k => lkD (look k)) (ht : t < n) (hW : (look t).1 = W) (j5 : JJ s5) :
    sSet 5 (mSink (mSlice (liftS fSl) (mBin (lift2 fIx) (mBin (lift2 fIx) (mVar 0) (mVar 1)) (mC (.int 0))) (pNone) (pSome (mVar 3)))) (EI L0 t made (.p (.int (i : Nat))) s4 s5 s6 s7) = .ok .nx (EI L0 t made (.p (.int (i : Nat))) s4 (.p (.tuple (cD (W.take i)))) s6 s7) := by
  have a0 : atI L0 (t : Int) = some (lkD (look t)) := by
   rw [hL]
   exact atI_nat (by omega) (by
    rw [Int.toNat_natCast, List.getElem?_map, List.getElem?_range ht]; rfl)
  have a1 : fIx (lkD (look t)) (.int 0) = some (.val (.tuple (cD W))) := by unfold lkD; rw [hW]; simp
  have a2 : cutD (cD W) none (some ((i : Nat) : Int)) = cD (W.take i) := cut_cDp W i rfl
  generalize lkD (look t) = L1 at *
  rcases j5 with h | ⟨d, h⟩ <;> subst h <;> simp -implicitDefEqProofs [a0, a1, a2]
theorem li_2 (hL : L0 = (List.range n).map fun k => lkD (look k)) (hn : n ≤ 1000) (j6 : JJ s6) : sSet 6 (mLc [8, 9] (iRow enumF (mCons (mVal (mVar 0)) (mNil))) (tTupT [8, 9]) ((C__law_idle_0)) ((V__law_idle_0))) (EI L0 t made (.p (.int (i : Nat))) s4 (.p (.tuple (cD (W.take i)))) s6 s7) =
    .ok .nx (EI L0 t made (.p (.int (i : Nat))) s4 (.p (.tuple (cD (W.take i)))) (.ow (.l (nD (sam1 look n i W)))) s7) := by
  have en : enumF [.list L0] = some ((List.range n).map fun k => .tuple [.int (k : Nat), lkD (look k)]) := by
    rw [hL, show enumF [.list ((List.range n).map fun k => lkD (look k))] = some (enD ((List.range n).map fun k => lkD (look k))) from rfl, enD_range]
  have l1 := lcL_fm (vs := [8, 9]) (t := tTupT [8, 9]) (tt := C__law_idle_0) (te := V__law_idle_0) (ε := EI L0 t made (.p (.int (i : Nat))) s4 (.p (.tuple (cD (W.take i)))) s6 s7)
    (fun k : Nat => PyData.tuple [.int (k : Nat), lkD (look k)]) (fun k => decide ((look k).1.take i = W.take i)) (fun k => .int (k : Nat)) (List.range n) (fun k hk => by
      have a1 : fIx (lkD (look k)) (.int 0) = some (.val (.tuple (cD (look k).1))) := by unfold lkD; simp
      have a2 : cutD (cD (look k).1) none (some ((i : Nat) : Int)) = cD ((look k).1.take i) := cut_cDp _ i rfl
      have e1 := fEq_cn (p := (look k).1.take i = W.take i) (Cn.rows ((look k).1.take i)) (Cn.rows (W.take i)) (by simp [cD_inj])
      exact ⟨[.p (.list L0), .p (.int (t : Nat)), .ow (.l made), .p (.int (i : Nat)), s4, .p (.tuple (cD (W.take i))), s6, s7, .p (.int (k : Nat)), .p (lkD (look k)), .no], by simp, by
        generalize cD (W.take i) = CW at *
        generalize lkD (look k) = L1 at *
        simp -implicitDefEqProofs [C__law_idle_0, a1, a2, e1], fun _ => by simp -implicitDefEqProofs [V__law_idle_0], by simp⟩)
  have l2 : ((List.range n).filter fun k => decide ((look k).1.take i = W.take i)).map (fun k : Nat => PyData.int (k : Nat)) = nD (sam1 look n i W) := by
    unfold sam1 nD iD; rw [List.map_map]; rfl
  rw [l2] at l1
  have hbig : ((List.range n).map fun k : Nat => PyData.tuple [.int (k : Nat), lkD (look k)]).length ≤ big := by rw [List.length_map, List.length_range]; unfold big; omega
  generalize (List.range n).map (fun k => PyData.tuple [.int (k : Nat), lkD (look k)]) = EN at *
  generalize nD (sam1 look n i W) = NS at *
  rcases j6 with h | ⟨d, h⟩ <;> subst h <;> simp -implicitDefEqProofs [en, hbig, l1]
def toldL (W : List (List Int)) (i : Nat) (k : Int) : List Int := (W.take i).map fun c => ((ansL c k : Nat) : Int)
theorem li_3 (h3 : ∀ c ∈ W, c.length ≤ 3) (hl : W.length ≤ 8) (j7 : JJ s7) : sSet 7 (mSink (mLc [10] (iVal (mVal (mVar 5))) (tName 10) (xYes) ((V__law_idle_1)))) (EI L0 t made s3 s4 (.p (.tuple (cD (W.take i)))) s6 s7) =
    .ok .nx (EI L0 t made s3 s4 (.p (.tuple (cD (W.take i)))) s6 (.p (.list (iD (toldL W i (t : Int)))))) := by
  have l1 := lcL_m (vs := [10]) (t := tName 10) (te := V__law_idle_1) (ε := EI L0 t made s3 s4 (.p (.tuple (cD (W.take i)))) s6 s7) (fun c : List Int => PyData.tuple (iD c)) (fun c => .int ((ansL c (t : Int) : Nat) : Int)) (W.take i) (fun c hc => by
    have e1 := law_reply_ok c (t : Int) (by have := h3 c (List.mem_of_mem_take hc); omega)
    exact ⟨[.p (.list L0), .p (.int (t : Nat)), .ow (.l made), s3, s4, .p (.tuple (cD (W.take i))), s6, s7, .no, .no, .p (.tuple (iD c))], by simp, by
      generalize cD (W.take i) = CW at *
      simp -implicitDefEqProofs [V__law_idle_1, e1], by simp⟩)
  have l1 : lcL [10] (tName 10) xYes V__law_idle_1 (cD (W.take i)) [] _ = _ := l1
  have l2 : (W.take i).map (fun c => PyData.int ((ansL c (t : Int) : Nat) : Int)) = iD (toldL W i (t : Int)) := by unfold toldL iD; rw [List.map_map]; rfl
  rw [l2] at l1
  have hb1 : (cD (W.take i)).length ≤ big := by rw [cD_len, List.length_take]; unfold big; omega
  have hb2 : (iD (toldL W i (t : Int))).length ≤ big := by rw [iD_len]; unfold toldL; rw [List.length_map, List.length_take]; unfold big; omega
  generalize hCW : cD (W.take i) = CW at *
  generalize iD (toldL W i (t : Int)) = TT at *
  rcases j7 with h | ⟨d, h⟩ <;> subst h <;> simp -implicitDefEqProofs [l1, hb1, hb2]
theorem li_4 (h3 : ∀ c ∈ W, c.length ≤ 3) (hl : W.length ≤ 8) (hn : n ≤ 1000) : sSet 6 (mLc [8] (iVal (mVal (mVar 6))) (tName 8) ((C__law_idle_1)) ((V__law_idle_3))) (EI L0 t made s3 s4 (.p (.tuple (cD (W.take i)))) (.ow (.l (nD (sam1 look n i W)))) (.p (.list (iD (toldL W i (t : Int)))))) =
    .ok .nx (EI L0 t made s3 s4 (.p (.tuple (cD (W.take i)))) (.ow (.l (nD (sam2 look n t i W)))) (.p (.list (iD (toldL W i (t : Int)))))) := by
  have hb1 : (cD (W.take i)).length ≤ big := by rw [cD_len, List.length_take]; unfold big; omega
  have l1 := lcL_fm (vs := [8]) (t := tName 8) (tt := C__law_idle_1) (te := V__law_idle_3) (ε := EI L0 t made s3 s4 (.p (.tuple (cD (W.take i)))) (.p (.list (nD (sam1 look n i W)))) (.p (.list (iD (toldL W i (t : Int))))))
    (fun k : Nat => PyData.int (k : Nat)) (fun k : Nat => decide (toldL W i (k : Int) = toldL W i (t : Int))) (fun k => .int (k : Nat)) (sam1 look n i W) (fun k hk => by
      have l1 := lcL_m (vs := [10]) (t := tName 10) (te := V__law_idle_2) (ε := [.p (.list L0), .p (.int (t : Nat)), .ow (.l made), s3, s4, .p (.tuple (cD (W.take i))), .p (.list (nD (sam1 look n i W))), .p (.list (iD (toldL W i (t : Int)))), .p (.int (k : Nat)), .no, .no]) (fun c : List Int => PyData.tuple (iD c)) (fun c => .int ((ansL c (k : Int) : Nat) : Int)) (W.take i) (fun c hc => by
        have e1 := law_reply_ok c (k : Int) (by have := h3 c (List.mem_of_mem_take hc); omega)
        exact ⟨[.p (.list L0), .p (.int (t : Nat)), .ow (.l made), s3, s4, .p (.tuple (cD (W.take i))), .p (.list (nD (sam1 look n i W))), .p (.list (iD (toldL W i (t : Int)))), .p (.int (k : Nat)), .no, .p (.tuple (iD c))], by simp, by
          generalize cD (W.take i) = CW at *
          generalize nD (sam1 look n i W) = NS at *
          generalize iD (toldL W i (t : Int)) = TT at *
          simp -implicitDefEqProofs [V__law_idle_2, e1], by simp⟩)
      have l1 : lcL [10] (tName 10) xYes V__law_idle_2 (cD (W.take i)) [] _ = _ := l1
      have l2 : (W.take i).map (fun c => PyData.int ((ansL c (k : Int) : Nat) : Int)) = iD (toldL W i (k : Int)) := by unfold toldL iD; rw [List.map_map]; rfl
      rw [l2] at l1
      have il : ∀ l : List Int, Cn 1 (.list (iD l)) := fun l => Cn.lst fun d hd => by obtain ⟨n, _, rfl⟩ := iD_mem hd; exact .int n
      have e2 := fEq_cn (p := toldL W i (k : Int) = toldL W i (t : Int)) (il (toldL W i (k : Int))) (il (toldL W i (t : Int))) (by simp [iD_inj])
      exact ⟨[.p (.list L0), .p (.int (t : Nat)), .ow (.l made), s3, s4, .p (.tuple (cD (W.take i))), .p (.list (nD (sam1 look n i W))), .p (.list (iD (toldL W i (t : Int)))), .p (.int (k : Nat)), .no, .no], by simp, by
        generalize cD (W.take i) = CW at *
        generalize nD (sam1 look n i W) = NS at *
        generalize iD (toldL W i (t : Int)) = TT at *
        generalize iD (toldL W i (k : Int)) = TK at *
        simp -implicitDefEqProofs [C__law_idle_1, l1, hb1, e2], fun _ => by simp -implicitDefEqProofs [V__law_idle_3], by simp⟩)
  have l0 : (sam1 look n i W).map (fun k : Nat => PyData.int (k : Nat)) = nD (sam1 look n i W) := by unfold nD iD; rw [List.map_map]; rfl
  have l2 : ((sam1 look n i W).filter fun k : Nat => decide (toldL W i (k : Int) = toldL W i (t : Int))).map (fun k : Nat => PyData.int (k : Nat)) = nD (sam2 look n t i W) := by
    unfold sam2 toldL nD iD; rw [List.map_map]; rfl
  rw [l2, l0] at l1
  have hb2 : (nD (sam1 look n i W)).length ≤ big := by
    rw [iD_len, List.length_map]
    unfold sam1
    have := List.length_filter_le (fun k : Nat => decide ((look k).1.take i = W.take i)) (List.range n)
    rw [List.length_range] at this
    unfold big; omega
  generalize cD (W.take i) = CW at *
  generalize nD (sam1 look n i W) = NS at *
  generalize nD (sam2 look n t i W) = NS2 at *
  generalize iD (toldL W i (t : Int)) = TT at *
  simp -implicitDefEqProofs [l1, hb2]
theorem sam2_len (hn : n ≤ 1000) : (nD (sam2 look n t i W)).length ≤ big := by
  rw [iD_len, List.length_map]
  unfold sam2 sam1
  have := List.length_filter_le (fun k : Nat => decide ((W.take i).map (fun c => ((ansL c (k : Int) : Nat) : Int)) = (W.take i).map fun c => ((ansL c (t : Int) : Nat) : Int))) ((List.range n).filter fun k : Nat => decide ((look k).1.take i = W.take i))
  have h2 := List.length_filter_le (fun k : Nat => decide ((look k).1.take i = W.take i)) (List.range n)
  rw [List.length_range] at h2
  unfold big; omega
theorem li_5 {c : List Int} (hc : c.length ≤ 3) (hn : n ≤ 1000) (hm : made.length < big) : sIf (mTru (mBin (lift2 fEq) (mLc [8] (iVal (mVal (mVar 6))) (tName 8) ((C__law_idle_2)) ((V__law_idle_4))) (mLst (mNil)))) (sDrop (mApp 2 (mVal (mVar 3)))) (sNil) (EI L0 t made (.p (.int (i : Nat))) (.p (.tuple (iD c))) s5 (.ow (.l (nD (sam2 look n t i W)))) s7) =
    .ok .nx (EI L0 t (if (sam2 look n t i W).all (fun k : Nat => decide (ansL c (k : Int) = ansL c (t : Int))) = true then made ++ [.int (i : Nat)] else made) (.p (.int (i : Nat))) (.p (.tuple (iD c))) s5 (.p (.list (nD (sam2 look n t i W)))) s7) := by
  have hb2 := sam2_len (look := look) (n := n) (t := t) (i := i) (W := W) hn
  have l1 := lcL_fm (vs := [8]) (t := tName 8) (tt := C__law_idle_2) (te := V__law_idle_4) (ε := EI L0 t made (.p (.int (i : Nat))) (.p (.tuple (iD c))) s5 (.p (.list (nD (sam2 look n t i W)))) s7)
    (fun k : Nat => PyData.int (k : Nat)) (fun k : Nat => !decide (ansL c (k : Int) = ansL c (t : Int))) (fun k => .int (k : Nat)) (sam2 look n t i W) (fun k hk => by
      have e1 := law_reply_ok c (k : Int) (by omega)
      have e2 := law_reply_ok c (t : Int) (by omega)
      have e3 := fNe_cn (p := ansL c (k : Int) = ansL c (t : Int)) (.int (ansL c (k : Int) : Nat)) (.int (ansL c (t : Int) : Nat)) (by rw [PyData.int.injEq]; omega)
      exact ⟨[.p (.list L0), .p (.int (t : Nat)), .ow (.l made), .p (.int (i : Nat)), .p (.tuple (iD c)), s5, .p (.list (nD (sam2 look n t i W))), s7, .p (.int (k : Nat)), .no, .no], by simp, by
        generalize nD (sam2 look n t i W) = NS at *
        generalize iD c = IC at *
        simp -implicitDefEqProofs [C__law_idle_2, e1, e2, e3], fun _ => by simp -implicitDefEqProofs [V__law_idle_4], by simp⟩)
  have l0 : (sam2 look n t i W).map (fun k : Nat => PyData.int (k : Nat)) = nD (sam2 look n t i W) := by unfold nD iD; rw [List.map_map]; rfl
  rw [l0] at l1
  generalize hF : ((sam2 look n t i W).filter fun k : Nat => !decide (ansL c (k : Int) = ansL c (t : Int))).map (fun k : Nat => PyData.int (k : Nat)) = FL at *
  have fe : fEq (.list FL) (.list []) = some (.val (.bool (decide (FL = [])))) := fEq_cn (n := 1) (m := 1) (p := FL = []) (Cn.lst (n := 0) fun d hd => by
    rw [← hF] at hd
    obtain ⟨k, _, rfl⟩ := List.mem_map.mp hd
    exact .int _) (Cn.lst (n := 0) fun _ h => absurd h (List.not_mem_nil)) (by simp)
  have iff : FL = [] ↔ (sam2 look n t i W).all (fun k : Nat => decide (ansL c (k : Int) = ansL c (t : Int))) = true := by
    rw [← hF, List.map_eq_nil_iff, List.filter_eq_nil_iff, List.all_eq_true]
    simp
  by_cases h : (sam2 look n t i W).all (fun k : Nat => decide (ansL c (k : Int) = ansL c (t : Int))) = true
  · rw [decide_eq_true (iff.mpr h)] at fe
    rw [if_pos h]
    clear iff hF h
    generalize nD (sam2 look n t i W) = NS at *
    simp -implicitDefEqProofs [l1, hb2, fe, hm]
  · rw [decide_eq_false (fun z => h (iff.mp z))] at fe
    rw [if_neg h]
    clear iff hF h
    generalize nD (sam2 look n t i W) = NS at *
    simp -implicitDefEqProofs [l1, hb2, fe]
end
end LK

namespace LK
open PySem PySem.Spec PyProof.Rows L2 MM
theorem seq_nx {a b : M Fl} {ε ε1 : En} {r : Out Fl} (h1 : a ε = .ok .nx ε1) (h2 : b ε1 = r) : sSeq a b ε = r := by rw [sSeq_ap, h1]; exact h2
section
variable {things : Int} {late : Nat} {bs : List Int} {p : PT} {t i : Nat} {s5 s6 s7 : Sl} {L0 : List PD}
theorem all_idl (ht : (t : Int) < things) {W : List (List Int)} (hW : W = pathG late (t : Int) bs.length p []) :
    (sam2 (lkOf late bs p) things.toNat t i W).all (fun k : Nat => decide (ansL (W.getD i []) (k : Int) = ansL (W.getD i []) (t : Int))) = idl things (t : Int) W i := by
  rw [Bool.eq_iff_iff, idl_iff (by omega) ht, List.all_eq_true]
  have mem : ∀ k : Nat, k ∈ sam2 (lkOf late bs p) things.toNat t i W ↔ k < things.toNat ∧ ∀ c ∈ W.take i, ansL c (k : Int) = ansL c (t : Int) := by
    intro k
    unfold sam2 sam1
    rw [List.mem_filter, List.mem_filter, List.mem_range, decide_eq_true_iff, decide_eq_true_iff, List.map_inj_left]
    constructor
    · rintro ⟨⟨a, _⟩, b⟩
      exact ⟨a, fun c hc => by have := b c hc; omega⟩
    · rintro ⟨a, b⟩
      refine ⟨⟨a, ?_⟩, fun c hc => by rw [b c hc]⟩
      rw [hW] at b ⊢
      exact path_pre bs.length p [] i (fun c hc => by cases hc) b
  constructor
  · intro h k k0 k1 hk
    have := h k.toNat ((mem _).mpr ⟨by omega, fun c hc => by rw [show ((k.toNat : Nat) : Int) = k by omega]; exact hk c hc⟩)
    rw [decide_eq_true_iff, show ((k.toNat : Nat) : Int) = k by omega] at this
    exact this
  · intro h k hk
    obtain ⟨a, b⟩ := (mem k).mp hk
    rw [decide_eq_true_iff]
    exact h k (by omega) (by omega) b
theorem li_turn (g : GP things late bs p) (hL : L0 = (List.range things.toNat).map fun k => lkD (lkOf late bs p k)) (ht : (t : Int) < things) {W : List (List Int)} (hW : W = pathG late (t : Int) bs.length p []) (hi : i < W.length) (j5 : JJ s5) (j6 : JJ s6) (j7 : JJ s7) :
    ∃ t5 t6 t7, JJ t5 ∧ JJ t6 ∧ JJ t7 ∧ B__law_idle_0 (EI L0 t (iD (idleL things (t : Int) W i)) (.p (.int (i : Nat))) (.p (.tuple (iD (W.getD i [])))) s5 s6 s7) = .ok .nx (EI L0 t (iD (idleL things (t : Int) W (i + 1))) (.p (.int (i : Nat))) (.p (.tuple (iD (W.getD i [])))) t5 t6 t7) := by
  have h1 := g.h1
  have hb := g.hb
  have h3 : ∀ c ∈ W, c.length ≤ 3 := by rw [hW]; exact g.cuts _
  have hl : W.length ≤ 8 := by rw [hW, g.len]; exact hb
  have htn : t < things.toNat := by omega
  have hlk : (lkOf late bs p t).1 = W := by rw [hW]; rfl
  have hn : things.toNat ≤ 1000 := by omega
  have hc3 : (W.getD i []).length ≤ 3 := by
    rw [List.getD_eq_getElem?_getD, List.getElem?_eq_getElem hi]
    exact h3 _ (List.getElem_mem hi)
  have hm : (iD (idleL things (t : Int) W i)).length < big := by
    rw [iD_len]
    unfold idleL
    rw [List.length_map]
    have := List.length_filter_le (idl things (t : Int) W) (List.range i)
    rw [List.length_range] at this
    unfold big; omega
  have e1 := li_1 (made := iD (idleL things (t : Int) W i)) (i := i) (s4 := .p (.tuple (iD (W.getD i [])))) (s5 := s5) (s6 := s6) (s7 := s7) hL htn hlk j5
  have e2 := li_2 (t := t) (made := iD (idleL things (t : Int) W i)) (i := i) (W := W) (s4 := .p (.tuple (iD (W.getD i [])))) (s6 := s6) (s7 := s7) hL hn j6
  have e3 := li_3 (L0 := L0) (t := t) (made := iD (idleL things (t : Int) W i)) (i := i) (s3 := .p (.int (i : Nat))) (s4 := .p (.tuple (iD (W.getD i [])))) (s6 := .ow (.l (nD (sam1 (lkOf late bs p) things.toNat i W)))) (s7 := s7) h3 hl j7
  have e4 := li_4 (L0 := L0) (look := lkOf late bs p) (t := t) (made := iD (idleL things (t : Int) W i)) (i := i) (s3 := .p (.int (i : Nat))) (s4 := .p (.tuple (iD (W.getD i [])))) h3 hl hn
  have e5 := li_5 (L0 := L0) (look := lkOf late bs p) (t := t) (made := iD (idleL things (t : Int) W i)) (i := i) (W := W) (s5 := .p (.tuple (cD (W.take i)))) (s7 := .p (.list (iD (toldL W i (t : Int))))) hc3 hn hm
  rw [all_idl ht hW] at e5
  have es : (if idl things (t : Int) W i = true then iD (idleL things (t : Int) W i) ++ [PyData.int (i : Nat)] else iD (idleL things (t : Int) W i)) = iD (idleL things (t : Int) W (i + 1)) := by
    rw [idleL_succ]
    split <;> simp [iD]
  rw [es] at e5
  refine ⟨.p (.tuple (cD (W.take i))), .p (.list (nD (sam2 (lkOf late bs p) things.toNat t i W))), .p (.list (iD (toldL W i (t : Int)))), .inr ⟨_, rfl⟩, .inr ⟨_, rfl⟩, .inr ⟨_, rfl⟩, ?_⟩
  unfold B__law_idle_0
  exact seq_nx e1 (seq_nx e2 (seq_nx e3 (seq_nx e4 e5)))
theorem law_idle_ok (g : GP things late bs p) (ht : (t : Int) < things) : F__law_idle [.p (.list ((List.range things.toNat).map fun k => lkD (lkOf late bs p k))), .p (.int (t : Nat))] =
    .ok (.list (iD (idleL things (t : Int) (pathG late (t : Int) bs.length p []) bs.length))) [.p (.list ((List.range things.toNat).map fun k => lkD (lkOf late bs p k))), .p (.int (t : Nat))] := by
  obtain ⟨L0, hL⟩ : ∃ L0, L0 = (List.range things.toNat).map fun k => lkD (lkOf late bs p k) := ⟨_, rfl⟩
  obtain ⟨W, hW⟩ : ∃ W, W = pathG late (t : Int) bs.length p [] := ⟨_, rfl⟩
  have hl : W.length = bs.length := by rw [hW, g.len]
  have en : enumFT [.tuple (cD W)] = some ((List.range W.length).map fun i => .tuple [.int (i : Nat), .tuple (iD (W.getD i []))]) := by
    rw [enumFT_t, cD_rng W, enD_range]
  have a0 : atI L0 (t : Int) = some (lkD (lkOf late bs p t)) := by
    rw [hL]
    exact atI_nat (by omega) (by rw [Int.toNat_natCast, List.getElem?_map, List.getElem?_range (by omega)]; rfl)
  have a1 : fIx (lkD (lkOf late bs p t)) (.int 0) = some (.val (.tuple (cD W))) := by unfold lkD lkOf; rw [hW]; simp
  rw [← hL, ← hW]
  obtain ⟨ε', hf, s3, s4, s5, s6, s7, e⟩ := forL_ix (t := tTupT [3, 4]) (mb := B__law_idle_0) (fun i : Nat => PyData.tuple [.int (i : Nat), .tuple (iD (W.getD i []))]) (fun n ε => ∃ s3 s4 s5 s6 s7 : Sl, JJ s3 ∧ JJ s4 ∧ JJ s5 ∧ JJ s6 ∧ JJ s7 ∧ ε = EI L0 t (iD (idleL things (t : Int) W n)) s3 s4 s5 s6 s7) (List.range W.length) 0
    (EI L0 t [] .no .no .no .no .no) (fun n x ε hx ⟨s3, s4, s5, s6, s7, j3, j4, j5, j6, j7, e⟩ => by
      subst e
      rw [Nat.zero_add] at *
      obtain ⟨hn, hxe⟩ := List.getElem?_eq_some_iff.mp hx
      rw [List.getElem_range] at hxe
      subst hxe
      rw [List.length_range] at hn
      obtain ⟨t5, t6, t7, k5, k6, k7, et⟩ := li_turn g hL ht hW hn j5 j6 j7
      refine ⟨_, _, ?_, et, _, _, t5, t6, t7, .inr ⟨_, rfl⟩, .inr ⟨_, rfl⟩, k5, k6, k7, rfl⟩
      rcases j3 with e | ⟨d, e⟩ <;> subst e <;> rcases j4 with e | ⟨d, e⟩ <;> subst e <;> simp) ⟨.no, .no, .no, .no, .no, .inl rfl, .inl rfl, .inl rfl, .inl rfl, .inl rfl, rfl⟩
  rw [Nat.zero_add, List.length_range, hl] at e
  obtain ⟨j3, j4, j5, j6, j7, e⟩ := e
  subst e
  generalize (List.range W.length).map (fun i => PyData.tuple [.int (i : Nat), .tuple (iD (W.getD i []))]) = EN at *
  generalize lkD (lkOf late bs p t) = LD at *
  have c1 : M__law_idle [.p (.list L0), .p (.int (t : Nat)), .no, .no, .no, .no, .no, .no, .no, .no, .no] = .ok (.rt (.list (iD (idleL things (t : Int) W bs.length)))) [.p (.list L0), .p (.int (t : Nat)), .p (.list (iD (idleL things (t : Int) W bs.length))), s3, s4, s5, s6, s7, .no, .no, .no] := by
    generalize iD (idleL things (t : Int) W bs.length) = IL at *
    simp -implicitDefEqProofs [M__law_idle, a0, a1, en, hf]
  unfold F__law_idle runF
  show finF _ (M__law_idle [.p (.list L0), .p (.int (t : Nat)), .no, .no, .no, .no, .no, .no, .no, .no, .no]) = _
  rw [c1]
  rfl
end
end LK

namespace LK
open PySem PySem.Spec PyProof.Rows L2 MM
theorem lt_intsT (a b : List Int) : PySem.W.dataLt (.tuple (iD a)) (.tuple (iD b)) = decide (a < b) := by
  rw [PySem.W.dataLt_tuple]
  exact PySem.W.dataLt_ints a b
theorem alike_intsT (a b : List Int) : PySem.W.alike (.tuple (iD a)) (.tuple (iD b)) = true := by
  have := alike_ints a b
  exact this
theorem sorted_tups {l : List (List Int)} (hb : l.length ≤ big) (hne : ∀ a ∈ l, a ≠ []) (h : l.Pairwise fun a b => ¬ b < a) : fSorted [.list (l.map fun a => .tuple (iD a))] = some (.new (.l (l.map fun a => .tuple (iD a)))) := by
  have ok : srtOk (l.map fun a => PyData.tuple (iD a)) = true := by
    unfold srtOk
    simp only [Bool.and_eq_true, Bool.or_eq_true]
    refine ⟨⟨⟨?_, .inl ?_⟩, ?_⟩, ?_⟩
    · refine List.all_eq_true.mpr fun d hd => List.all_eq_true.mpr fun e he => ?_
      obtain ⟨a, _, rfl⟩ := List.mem_map.mp hd
      obtain ⟨b, _, rfl⟩ := List.mem_map.mp he
      exact alike_intsT a b
    · refine List.all_eq_true.mpr fun d hd => ?_
      obtain ⟨a, ha, rfl⟩ := List.mem_map.mp hd
      cases a with
      | nil => exact absurd rfl (hne _ ha)
      | cons x a => rfl
    · refine List.all_eq_true.mpr fun d hd => ?_
      obtain ⟨a, _, rfl⟩ := List.mem_map.mp hd
      exact (Cn.ints a).sh
    · rw [List.length_map]; exact decide_eq_true hb
  show (if srtOk _ = true then some (Opd.new (.l (sortD _))) else none) = _
  rw [if_pos ok, sortD_eq]
  congr 3
  refine List.mergeSort_of_pairwise ?_
  rw [List.pairwise_map]
  refine h.imp fun {a b} hab => ?_
  rw [leP_eq]
  unfold leD
  rw [lt_intsT, decide_eq_false hab]
  rfl
end LK

namespace LK
open PySem PySem.Spec PyProof.Rows L2 MM
def two (l : List Nat) : List Int := (l.take 2).map fun i : Nat => (i : Int)
def prs (L : List (List Nat)) : List (List Int) := (L.filter fun l => decide (1 < l.length)).map two
theorem prs_sorted (look : Nat → Lk) (n : Nat) : (prs (partsL look n)).Pairwise fun a b => ¬ b < a := by
  unfold prs
  rw [List.pairwise_map]
  refine List.Pairwise.filter _ ?_
  unfold partsL
  rw [List.pairwise_map]
  refine List.Pairwise.imp_of_mem ?_ (reps_sorted (look := look) n)
  intro r s hr hs hlt
  obtain ⟨l, e1⟩ := cls_head hr
  obtain ⟨m, e2⟩ := cls_head hs
  rw [e1, e2]
  unfold two
  rw [List.take_succ_cons, List.take_succ_cons, List.map_cons, List.map_cons, List.cons_lt_cons_iff]
  omega
theorem prs_ne {L : List (List Nat)} : ∀ a ∈ prs L, a ≠ [] := fun a ha => by
  obtain ⟨l, hl, rfl⟩ := List.mem_map.mp ha
  have := of_decide_eq_true (List.mem_filter.mp hl).2
  unfold two
  cases l with
  | nil => simp at this
  | cons x l => simp
theorem same_truth_ok (a b : Bool) : F__law_same_truth [.p (.bool a), .p (.bool b)] = .ok (.bool (a == b)) [.p (.bool a), .p (.bool b)] := by
  cases a <;> cases b <;> kernel_rfl
section
variable {things : Int} {late : Nat} {bs : List Int} {p : PT}
theorem two_ix {l : List Nat} (h : 1 < l.length) : ∃ a b : Nat, atI (nD l) 0 = some (.int (a : Nat)) ∧ atI (nD l) 1 = some (.int (b : Nat)) ∧ two l = [(a : Int), (b : Int)] := by
  match l, h with
  | a :: b :: r, _ => exact ⟨a, b, atI_0 _ _, atI_1 _ _ _, rfl⟩
def firstP (L : List (List Nat)) : PD := match prs L with
  | a :: _ => .tuple (iD a)
  | [] => .none
theorem first_find : ∀ L : List (List Nat), firstP L = (match L.find? (fun l => decide (1 < l.length)) with | some l => .tuple (iD (two l)) | none => .none)
  | [] => rfl
  | l :: L => by
    have ih := first_find L
    unfold firstP prs at *
    by_cases h : 1 < l.length
    · simp only [List.filter_cons, List.find?_cons, h, decide_true, if_true, List.map_cons]
    · simp only [List.filter_cons, List.find?_cons, h, decide_false, Bool.false_eq_true, if_false]; exact ih
theorem not_parted_first (g : GP things late bs p) : F_not_parted [.p (gameD things late bs), .p (planD p)] = .ok (firstP (partsL (lkOf late bs p) things.toNat)) [.p (gameD things late bs), .p (planD p)] := by
  have e1 := need_plan_ok g
  have e2 := parts_of_ok g
  have hcl : ∀ l ∈ partsL (lkOf late bs p) things.toNat, l.length ≤ 1000 := fun l hl => by
    obtain ⟨r, _, rfl⟩ := List.mem_map.mp hl
    unfold clsL
    have := List.length_filter_le (fun t => decide (lkOf late bs p t = lkOf late bs p r)) (List.range things.toNat)
    rw [List.length_range] at this
    have := g.h1
    omega
  generalize partsL (lkOf late bs p) things.toNat = L at *
  rw [first_find]
  obtain ⟨o', hf⟩ := forL_find (t := tName 2) (mb := B_not_parted_0) (fun l : List Nat => PyData.list (nD l)) (fun o => [.p (gameD things late bs), .p (planD p), jk (o.map fun l => PyData.list (nD l))]) (fun l => decide (1 < l.length)) (fun l => .tuple (iD (two l))) L none (fun l hl o => by
    refine ⟨[.p (gameD things late bs), .p (planD p), .p (.list (nD l))], by cases o <;> simp [jk], fun h => ?_, fun h => ?_⟩
    · have h := of_decide_eq_false h
      have h' : ¬ ((1 : Int) < l.length) := by omega
      have hll : ((nD l).length : Int) = l.length := by rw [iD_len, List.length_map]
      simp -implicitDefEqProofs [B_not_parted_0, jk]
      omega
    · have h := of_decide_eq_true h
      obtain ⟨a, b, a0, a1, et⟩ := two_ix h
      have h' : ((1 : Int) < l.length) := by omega
      rw [et]
      have e5 : PyData.tuple [.int (a : Nat), .int (b : Nat)] = .tuple (iD [(a : Int), (b : Int)]) := rfl
      rw [← e5]
      generalize hNL : nD l = NL at *
      have hll : (NL.length : Int) = l.length := by rw [← hNL, iD_len, List.length_map]
      have h2 : (1 : Int) < NL.length := by omega
      simp -implicitDefEqProofs [B_not_parted_0, jk, a0, a1, h2, hNL])
  generalize hM : (L.find? fun l => decide (1 < l.length)) = M at *
  have hf : forL (tName 2) B_not_parted_0 (lsD L) [.p (gameD things late bs), .p (planD p), .no] = _ := hf
  generalize lsD L = LL at *
  cases M with
  | none => simp -implicitDefEqProofs [F_not_parted, runF, M_not_parted, e1, e2, hf]
  | some l =>
    generalize PyData.tuple (iD (two l)) = TT at *
    simp -implicitDefEqProofs [F_not_parted, runF, M_not_parted, e1, e2, hf]
theorem pairs_lc (g : GP things late bs p) {ε : En} (hε : ∀ l ∈ partsL (lkOf late bs p) things.toNat, ∃ ε1, tName 9 (.list (nD l)) (wipeE ε [9]) = some ε1 ∧ ε1[9]? = some (.p (.list (nD l))) ∧ restE ε ε1 [9] = ε) :
    lcL [9] (tName 9) C_law_0 V_law_0 (lsD (partsL (lkOf late bs p) things.toNat)) [] ε = .ok (.new (.l (cD (prs (partsL (lkOf late bs p) things.toNat))))) ε := by
  have l1 := lcL_fm (vs := [9]) (t := tName 9) (tt := C_law_0) (te := V_law_0) (ε := ε) (fun l : List Nat => PyData.list (nD l)) (fun l => decide (1 < l.length)) (fun l => .tuple (iD (two l))) (partsL (lkOf late bs p) things.toNat) (fun l hl => by
    obtain ⟨ε1, h1, h2, h3⟩ := hε l hl
    have hll : ((nD l).length : Int) = l.length := by rw [iD_len, List.length_map]
    have c2 : cutD (nD l) none (some 2) = iD (two l) := by
      rw [cut_to _ (by omega)]
      simp [nD, iD, two, List.map_take]
    refine ⟨ε1, h1, ?_, fun _ => ?_, h3⟩
    · generalize nD l = NL at *
      simp -implicitDefEqProofs [C_law_0, h2, hll]
      omega
    · generalize nD l = NL at *
      simp -implicitDefEqProofs [V_law_0, h2, c2])
  have l2 : ((partsL (lkOf late bs p) things.toNat).filter fun l => decide (1 < l.length)).map (fun l => PyData.tuple (iD (two l))) = cD (prs (partsL (lkOf late bs p) things.toNat)) := by
    unfold prs cD; rw [List.map_map]; rfl
  rw [l2] at l1
  exact l1
theorem prs_len {L : List (List Nat)} : (prs L).length ≤ L.length := by unfold prs; rw [List.length_map]; exact List.length_filter_le _ _
abbrev EV (ns : List Int) (N : Nat) (things : Int) (late : Nat) (bs : List Int) (p : PT) (s4 s5 s6 s7 s8 : Sl) : En := [.p (scrD ns), .ow (.l (tw N)), .p (gameD things late bs), .p (planD p), s4, s5, s6, s7, s8, .no]
theorem law_turn (ns : List Int) (hns : ns.length ≤ 63) (N : Nat) (hN : N ≤ 700000) (g : GP things late bs p) {L0 : List PD} (hL : L0 = (List.range things.toNat).map fun k => lkD (lkOf late bs p k)) {s4 s5 s6 s7 s8 : Sl} (h6 : s6 = .ow (.l L0) ∨ s6 = .p (.list L0)) (j8 : JJ s8) :
    ∃ s8', JJ s8' ∧ B_law_0 (EV ns N things late bs p s4 s5 s6 s7 s8) = .ok .nx (EV ns (N + 1) things late bs p s4 s5 (.p (.list L0)) s7 s8') := by
  have h0 := g.h0
  have d := draw_ok ns hns N (by omega) things (by omega)
  have r := dr_in ns hns N (by omega) things (by omega)
  obtain ⟨t, et⟩ : ∃ t : Nat, dr ns N things = t := ⟨(dr ns N things).toNat, by omega⟩
  rw [et] at d r
  have w1 := way_ok g (t := (t : Int)) r.1 r.2
  have w2 := heard_ok g (t := (t : Int)) r.1 r.2
  have w3 := idle_ok g (t := (t : Int)) r.1 r.2
  have w4 := law_idle_ok g (t := t) r.2
  rw [← hL] at w4
  have a0 : atI L0 (t : Int) = some (lkD (lkOf late bs p t)) := by
    rw [hL]
    exact atI_nat (by omega) (by rw [Int.toNat_natCast, List.getElem?_map, List.getElem?_range (by omega)]; rfl)
  have i0 : fIx (lkD (lkOf late bs p t)) (.int 0) = some (.val (.tuple (cD (pathG late (t : Int) bs.length p [])))) := by unfold lkD lkOf; simp
  have i1 : fIx (lkD (lkOf late bs p t)) (.int 1) = some (.val (.tuple (iD (heardL (pathG late (t : Int) bs.length p []) (t : Int))))) := by unfold lkD lkOf; simp
  have n1 := fNe_cn (p := True) (Cn.rows (pathG late (t : Int) bs.length p [])) (Cn.rows (pathG late (t : Int) bs.length p [])) (by simp)
  have n2 := fNe_cn (p := True) (Cn.ints (heardL (pathG late (t : Int) bs.length p []) (t : Int))) (Cn.ints (heardL (pathG late (t : Int) bs.length p []) (t : Int))) (by simp)
  have il : ∀ l : List Int, Cn 1 (.list (iD l)) := fun l => Cn.lst fun d hd => by obtain ⟨n, _, rfl⟩ := iD_mem hd; exact .int n
  have n3 := fNe_cn (p := True) (il (idleL things (t : Int) (pathG late (t : Int) bs.length p []) bs.length)) (il (idleL things (t : Int) (pathG late (t : Int) bs.length p []) bs.length)) (by simp)
  refine ⟨.p (.int (t : Nat)), .inr ⟨_, rfl⟩, ?_⟩
  generalize iD (idleL things (t : Int) (pathG late (t : Int) bs.length p []) bs.length) = IL at *
  generalize iD (heardL (pathG late (t : Int) bs.length p []) (t : Int)) = HL at *
  generalize cD (pathG late (t : Int) bs.length p []) = CL at *
  generalize lkD (lkOf late bs p t) = LD at *
  rcases h6 with h | h <;> subst h <;> rcases j8 with h | ⟨d', h⟩ <;> subst h <;> simp -implicitDefEqProofs [B_law_0, d, w1, w2, w3, w4, a0, i0, i1, n1, n2, n3]
end
theorem law_true (ns : List Int) (hn : ns.length ≤ 63) : ∃ as, F_law [.p (scrD ns)] = .ok (.bool true) as := by
  obtain ⟨things, late, bs, n, h0, h1, hl, hs, hb6, hn2, sg⟩ := some_game_ok ns hn 0 (by omega) 6 (by omega) (by omega)
  have hb8 : bs.length ≤ 8 := by omega
  have hpow : 4 ^ bs.length ≤ 4 ^ 6 := Nat.pow_le_pow_right (by decide) (by omega)
  obtain ⟨p, N, hp, hN, sp⟩ := some_plan_ok ns hn (late := late) h0 h1 hs hb8 bs 12 n [] 0 things (by omega) (by simp) (by simp) (fun c hc => absurd hc (List.not_mem_nil)) (by omega) (by omega) (by omega) (by omega)
  have g : GP things late bs p := ⟨h0, h1, hl, hs, hb8, hp⟩
  have sg : F__law_some_game [.p (scrD ns), .io (.l []), .p (.int 6)] = _ := sg
  have sp : F__law_some_plan 12 [.p (scrD ns), .io (.l (tw n)), .p (gameD things late bs), .p (.tuple []), .p (.tuple [.int 0, .int things])] = _ := sp
  have hip := is_plan_ok g
  have hcl := classes_ok g
  have hpa := parts_ok g
  have hfa := finds_all_ok g
  have hnp := not_parted_first g
  have hpl : (partsL (lkOf late bs p) things.toNat).length ≤ 64 := by
    unfold partsL repsL
    rw [List.length_map]
    have := List.length_filter_le (fun r => (List.range r).all fun q => !decide (lkOf late bs p q = lkOf late bs p r)) (List.range things.toNat)
    rw [List.length_range] at this
    omega
  have emd : (mdsD (lkOf late bs p) things.toNat).map PyData.list = lsD (partsL (lkOf late bs p) things.toNat) := by
    unfold mdsD partsL lsD
    rw [List.map_map, List.map_map]; rfl
  have hcn : Cn 2 (.list (lsD (partsL (lkOf late bs p) things.toNat))) := Cn.lst (n := 1) (.map fun a _ => Cn.intsL _)
  have n1 := fNe_cn (p := True) hcn hcn (by simp)
  have lc : lcL [9] (tName 9) C_law_0 V_law_0 (lsD (partsL (lkOf late bs p) things.toNat)) [] (EV ns N things late bs p (.p (.list (lsD (partsL (lkOf late bs p) things.toNat)))) .no .no .no .no) = _ := pairs_lc g fun l hl => ⟨(EV ns N things late bs p (.p (.list (lsD (partsL (lkOf late bs p) things.toNat)))) .no .no .no .no).set 9 (.p (.list (nD l))), by simp, rfl, by simp⟩
  have hprl : (prs (partsL (lkOf late bs p) things.toNat)).length ≤ big := by have := prs_len (L := partsL (lkOf late bs p) things.toNat); unfold big; omega
  have hso := sorted_tups (l := prs (partsL (lkOf late bs p) things.toNat)) hprl prs_ne (prs_sorted _ _)
  have hso : fSorted [.list (cD (prs (partsL (lkOf late bs p) things.toNat)))] = some (.new (.l (cD (prs (partsL (lkOf late bs p) things.toNat))))) := hso
  have hprs : ∀ x ∈ cD (prs (partsL (lkOf late bs p) things.toNat)), Cn 1 x := .map fun a _ => Cn.ints a
  have e5 := fNe_cn (p := cD (prs (partsL (lkOf late bs p) things.toNat)) = []) (Cn.lst hprs) (Cn.lst (n := 0) (ds := []) fun _ h => absurd h (List.not_mem_nil)) (by simp)
  have hll : ((lsD (partsL (lkOf late bs p) things.toNat)).length : Int) = (partsL (lkOf late bs p) things.toNat).length := by unfold lsD; rw [List.length_map]
  have hlb : (lsD (partsL (lkOf late bs p) things.toNat)).length ≤ big := by unfold lsD; rw [List.length_map]; unfold big; omega
  have fcn : Cn 1 (firstP (partsL (lkOf late bs p) things.toNat)) := by
    unfold firstP
    split
    · exact Cn.ints _
    · exact Cn.non.mono (by omega)
  have n3 := fNe_cn (p := True) fcn fcn (by simp)
  have l6 := lcL_m (vs := [8]) (t := tName 8) (te := V_law_1) (ε := EV ns N things late bs p (.p (.list (lsD (partsL (lkOf late bs p) things.toNat)))) (.p (.list (cD (prs (partsL (lkOf late bs p) things.toNat))))) .no .no .no) (fun k : Nat => PyData.int (k : Nat)) (fun k => lkD (lkOf late bs p k)) (List.range things.toNat) (fun k hk => by
    have ep := law_path_ok hs hb8 hp (k : Int)
    have ep : F__law_path [.p (gameD things late bs), .p (planD p), .p (.int (k : Nat))] = .ok (lkD (lkOf late bs p k)) [.p (gameD things late bs), .p (planD p), .p (.int (k : Nat))] := ep
    exact ⟨(EV ns N things late bs p (.p (.list (lsD (partsL (lkOf late bs p) things.toNat)))) (.p (.list (cD (prs (partsL (lkOf late bs p) things.toNat))))) .no .no .no).set 8 (.p (.int (k : Nat))), by simp, by
      generalize lkD (lkOf late bs p k) = LD at *
      simp -implicitDefEqProofs [V_law_1, ep], by simp⟩)
  rw [← rngD_nat] at l6
  obtain ⟨ε', hf, hlen, -⟩ := forL_rng (t := tName 7) (mb := B_law_0) (fun j ε => 1 ≤ ε.length ∧ ∃ (s6 s7 s8 : Sl), (s6 = .ow (.l ((List.range things.toNat).map fun k => lkD (lkOf late bs p k))) ∨ s6 = .p (.list ((List.range things.toNat).map fun k => lkD (lkOf late bs p k)))) ∧ JJ s7 ∧ JJ s8 ∧ ε = EV ns (N + j) things late bs p (.p (.list (lsD (partsL (lkOf late bs p) things.toNat)))) (.p (.list (cD (prs (partsL (lkOf late bs p) things.toNat))))) s6 s7 s8) 4
    (EV ns N things late bs p (.p (.list (lsD (partsL (lkOf late bs p) things.toNat)))) (.p (.list (cD (prs (partsL (lkOf late bs p) things.toNat))))) (.ow (.l ((List.range things.toNat).map fun k => lkD (lkOf late bs p k)))) .no .no) (fun j ε hj ⟨_, s6, s7, s8, k6, k7, k8, e⟩ => by
      subst e
      obtain ⟨s8', k8', et⟩ := law_turn ns hn (N + j) (by omega) g rfl (s4 := .p (.list (lsD (partsL (lkOf late bs p) things.toNat)))) (s5 := .p (.list (cD (prs (partsL (lkOf late bs p) things.toNat))))) (s7 := .p (.int (j : Nat))) k6 k8
      refine ⟨EV ns (N + j) things late bs p (.p (.list (lsD (partsL (lkOf late bs p) things.toNat)))) (.p (.list (cD (prs (partsL (lkOf late bs p) things.toNat))))) s6 (.p (.int (j : Nat))) s8, _, ?_, et, by simp, _, _, s8', .inr rfl, .inr ⟨_, rfl⟩, k8', rfl⟩
      rcases k7 with e | ⟨d, e⟩ <;> subst e <;> simp) ⟨by simp, _, .no, .no, .inl rfl, .inl rfl, .inl rfl, rfl⟩
  have m1 : midI things = true := midI_of (by omega) (by omega)
  have r6 : rng1 [.int things] = some (rngD 0 1 things.toNat) := by rw [rng1_i, if_pos m1]
  have hr6 : (rngD 0 1 things.toNat).length ≤ big := by rw [rngD_len]; unfold big; omega
  have r4 : rng1 [.int 4] = some (rngD 0 1 4) := by rw [rng1_i, if_pos (midI_of (by omega) (by omega))]; rfl
  have st := same_truth_ok (decide (((partsL (lkOf late bs p) things.toNat).length : Int) = things)) (decide (((partsL (lkOf late bs p) things.toNat).length : Int) = things))
  rw [show (decide (((partsL (lkOf late bs p) things.toNat).length : Int) = things) == decide (((partsL (lkOf late bs p) things.toNat).length : Int) = things)) = true by simp] at st
  refine Ret.fin (n := 10) ?_
  show Ret (M_law [.p (scrD ns), .no, .no, .no, .no, .no, .no, .no, .no, .no]) _
  unfold M_law
  refine Ret.seq (ε1 := [.p (scrD ns), .ow (.l []), .no, .no, .no, .no, .no, .no, .no, .no]) (by kernel_rfl) ?_
  refine Ret.seq (ε1 := [.p (scrD ns), .ow (.l (tw n)), .p (gameD things late bs), .no, .no, .no, .no, .no, .no, .no]) (by generalize tw n = TN at *; simp -implicitDefEqProofs [sg]) ?_
  refine Ret.seq (ε1 := EV ns N things late bs p .no .no .no .no .no) (by generalize F__law_some_plan 12 = FP at *; simp -implicitDefEqProofs [sp]) ?_
  refine Ret.seq (ε1 := EV ns N things late bs p .no .no .no .no .no) (by simp -implicitDefEqProofs [hip]) ?_
  have e4 : mCall (F__law_classes) (oCons (mSink (mVar 2)) (oCons (mSink (mVar 3)) (oNil))) (EV ns N things late bs p .no .no .no .no .no) = .ok (.new (.ll (mdsD (lkOf late bs p) things.toNat))) (EV ns N things late bs p .no .no .no .no .no) := by
    simp -implicitDefEqProofs [hcl]
  generalize mdsD (lkOf late bs p) things.toNat = MD at *
  generalize hF : firstP (partsL (lkOf late bs p) things.toNat) = FP at *
  have hF2 : FP = (match cD (prs (partsL (lkOf late bs p) things.toNat)) with | a :: _ => a | [] => .none) := by
    rw [← hF]; unfold firstP; cases prs (partsL (lkOf late bs p) things.toNat) <;> rfl
  generalize cD (prs (partsL (lkOf late bs p) things.toNat)) = PR at *
  generalize lsD (partsL (lkOf late bs p) things.toNat) = LS at *
  generalize (partsL (lkOf late bs p) things.toNat).length = PL at *
  generalize (List.range things.toNat).map (fun k => lkD (lkOf late bs p k)) = L0 at *
  refine Ret.seq (ε1 := EV ns N things late bs p (.p (.list LS)) .no .no .no .no) (by
    unfold sSet mSinkLL
    rw [e4]
    simp only [Out.bind_ok, emd]
    rfl) ?_
  refine Ret.seq (ε1 := EV ns N things late bs p (.p (.list LS)) .no .no .no .no) (by simp -implicitDefEqProofs [hpa, hfa, n1, st, hll]) ?_
  refine Ret.seq (ε1 := EV ns N things late bs p (.p (.list LS)) (.p (.list PR)) .no .no .no) (by
    simp -implicitDefEqProofs [lc, hlb, hso]) ?_
  refine Ret.seq (ε1 := EV ns N things late bs p (.p (.list LS)) (.p (.list PR)) .no .no .no) (by
    cases PR with
    | nil =>
      have e5 : fNe (.list []) (.list []) = some (.val (.bool false)) := e5
      have hF3 : FP = .none := hF2
      subst hF3
      simp -implicitDefEqProofs [hnp, e5, n3]
    | cons a r =>
      have e5 : fNe (.list (a :: r)) (.list []) = some (.val (.bool true)) := e5
      have hF3 : FP = a := hF2
      subst hF3
      simp -implicitDefEqProofs [hnp, e5, n3]) ?_
  refine Ret.seq (ε1 := EV ns N things late bs p (.p (.list LS)) (.p (.list PR)) (.ow (.l L0)) .no .no) (by
    generalize rngD 0 1 things.toNat = R6 at *
    simp -implicitDefEqProofs [r6, hr6, l6, -rng1_i]) ?_
  refine Ret.seq (ε1 := ε') (by
    generalize rngD 0 1 4 = R4 at *
    rw [sFor_ap]
    simp -implicitDefEqProofs [r4, hf, -rng1_i]) ?_
  exact ⟨ε', by simp -implicitDefEqProofs [hlen]⟩
end LK

namespace LK
open PySem PySem.Spec PyProof.Rows L2 MM
set_option maxHeartbeats 4000000 in
theorem all_mk {P : Program} {w : World} {K : PySem.W.Frag} {h : Heap} {mg : Str → Option Value} {fa : Addr} (X : K.In h) (G : h.Ns mainGlobals mg) (hfa : mg "law" = some (.ref fa))
    {f0 f1 f2 f3 f4 f5 f6 f7 f8 f9 f10 f11 f12 f13 f14 f15 f16 f17 f18 f19 f20 f21 f22 f23 f24 f25 f26 f27 f28 f29 f30 f31 f32 f33 f34 f35 f36 f37 f38 f39 : Addr}
    {od0 an0 : Option Addr} {sl0 : Array (Option Value)} {oc0 kV0 dc0 pm0 cd0 ct0 : Value}
    (a0 : PySem.W.nsIn K mainGlobals "is_whole" = some (some (.ref f0))) (l0 : K.lookup f0 = some ⟨oc0, od0, .func (PySem.W.fnOf "is_whole" "is_whole" (defArgs s_is_whole) (defBody s_is_whole) (defScope s_is_whole) .none kV0 dc0 pm0 an0 cd0 ct0), sl0⟩) (c0 : PySem.W.codeIn K cd0 "is_whole" = true) (k0 : PySem.W.keepIn K (.ref f0) = true)
    {od1 an1 : Option Addr} {sl1 : Array (Option Value)} {oc1 kV1 dc1 pm1 cd1 ct1 : Value}
    (a1 : PySem.W.nsIn K mainGlobals "are_beats" = some (some (.ref f1))) (l1 : K.lookup f1 = some ⟨oc1, od1, .func (PySem.W.fnOf "are_beats" "are_beats" (defArgs s_are_beats) (defBody s_are_beats) (defScope s_are_beats) .none kV1 dc1 pm1 an1 cd1 ct1), sl1⟩) (c1 : PySem.W.codeIn K cd1 "are_beats" = true) (k1 : PySem.W.keepIn K (.ref f1) = true)
    {od2 an2 : Option Addr} {sl2 : Array (Option Value)} {oc2 kV2 dc2 pm2 cd2 ct2 : Value}
    (a2 : PySem.W.nsIn K mainGlobals "good_game" = some (some (.ref f2))) (l2 : K.lookup f2 = some ⟨oc2, od2, .func (PySem.W.fnOf "good_game" "good_game" (defArgs s_good_game) (defBody s_good_game) (defScope s_good_game) .none kV2 dc2 pm2 an2 cd2 ct2), sl2⟩) (c2 : PySem.W.codeIn K cd2 "good_game" = true) (k2 : PySem.W.keepIn K (.ref f2) = true)
    {od3 an3 : Option Addr} {sl3 : Array (Option Value)} {oc3 kV3 dc3 pm3 cd3 ct3 : Value}
    (a3 : PySem.W.nsIn K mainGlobals "need_game" = some (some (.ref f3))) (l3 : K.lookup f3 = some ⟨oc3, od3, .func (PySem.W.fnOf "need_game" "need_game" (defArgs s_need_game) (defBody s_need_game) (defScope s_need_game) .none kV3 dc3 pm3 an3 cd3 ct3), sl3⟩) (c3 : PySem.W.codeIn K cd3 "need_game" = true) (k3 : PySem.W.keepIn K (.ref f3) = true)
    {od4 an4 : Option Addr} {sl4 : Array (Option Value)} {oc4 kV4 dc4 pm4 cd4 ct4 : Value}
    (a4 : PySem.W.nsIn K mainGlobals "are_cuts" = some (some (.ref f4))) (l4 : K.lookup f4 = some ⟨oc4, od4, .func (PySem.W.fnOf "are_cuts" "are_cuts" (defArgs s_are_cuts) (defBody s_are_cuts) (defScope s_are_cuts) .none kV4 dc4 pm4 an4 cd4 ct4), sl4⟩) (c4 : PySem.W.codeIn K cd4 "are_cuts" = true) (k4 : PySem.W.keepIn K (.ref f4) = true)
    {od5 an5 : Option Addr} {sl5 : Array (Option Value)} {oc5 kV5 dc5 pm5 cd5 ct5 : Value}
    (a5 : PySem.W.nsIn K mainGlobals "due_of" = some (some (.ref f5))) (l5 : K.lookup f5 = some ⟨oc5, od5, .func (PySem.W.fnOf "due_of" "due_of" (defArgs s_due_of) (defBody s_due_of) (defScope s_due_of) .none kV5 dc5 pm5 an5 cd5 ct5), sl5⟩) (c5 : PySem.W.codeIn K cd5 "due_of" = true) (k5 : PySem.W.keepIn K (.ref f5) = true)
    {od6 an6 : Option Addr} {sl6 : Array (Option Value)} {oc6 kV6 dc6 pm6 cd6 ct6 : Value}
    (a6 : PySem.W.nsIn K mainGlobals "good_from" = some (some (.ref f6))) (l6 : K.lookup f6 = some ⟨oc6, od6, .func (PySem.W.fnOf "good_from" "good_from" (defArgs s_good_from) (defBody s_good_from) (defScope s_good_from) .none kV6 dc6 pm6 an6 cd6 ct6), sl6⟩) (c6 : PySem.W.codeIn K cd6 "good_from" = true) (k6 : PySem.W.keepIn K (.ref f6) = true)
    {od7 an7 : Option Addr} {sl7 : Array (Option Value)} {oc7 kV7 dc7 pm7 cd7 ct7 : Value}
    (a7 : PySem.W.nsIn K mainGlobals "good_plan" = some (some (.ref f7))) (l7 : K.lookup f7 = some ⟨oc7, od7, .func (PySem.W.fnOf "good_plan" "good_plan" (defArgs s_good_plan) (defBody s_good_plan) (defScope s_good_plan) .none kV7 dc7 pm7 an7 cd7 ct7), sl7⟩) (c7 : PySem.W.codeIn K cd7 "good_plan" = true) (k7 : PySem.W.keepIn K (.ref f7) = true)
    {od8 an8 : Option Addr} {sl8 : Array (Option Value)} {oc8 kV8 dc8 pm8 cd8 ct8 : Value}
    (a8 : PySem.W.nsIn K mainGlobals "is_plan" = some (some (.ref f8))) (l8 : K.lookup f8 = some ⟨oc8, od8, .func (PySem.W.fnOf "is_plan" "is_plan" (defArgs s_is_plan) (defBody s_is_plan) (defScope s_is_plan) .none kV8 dc8 pm8 an8 cd8 ct8), sl8⟩) (c8 : PySem.W.codeIn K cd8 "is_plan" = true) (k8 : PySem.W.keepIn K (.ref f8) = true)
    {od9 an9 : Option Addr} {sl9 : Array (Option Value)} {oc9 kV9 dc9 pm9 cd9 ct9 : Value}
    (a9 : PySem.W.nsIn K mainGlobals "need_plan" = some (some (.ref f9))) (l9 : K.lookup f9 = some ⟨oc9, od9, .func (PySem.W.fnOf "need_plan" "need_plan" (defArgs s_need_plan) (defBody s_need_plan) (defScope s_need_plan) .none kV9 dc9 pm9 an9 cd9 ct9), sl9⟩) (c9 : PySem.W.codeIn K cd9 "need_plan" = true) (k9 : PySem.W.keepIn K (.ref f9) = true)
    {od10 an10 : Option Addr} {sl10 : Array (Option Value)} {oc10 kV10 dc10 pm10 cd10 ct10 : Value}
    (a10 : PySem.W.nsIn K mainGlobals "need_thing" = some (some (.ref f10))) (l10 : K.lookup f10 = some ⟨oc10, od10, .func (PySem.W.fnOf "need_thing" "need_thing" (defArgs s_need_thing) (defBody s_need_thing) (defScope s_need_thing) .none kV10 dc10 pm10 an10 cd10 ct10), sl10⟩) (c10 : PySem.W.codeIn K cd10 "need_thing" = true) (k10 : PySem.W.keepIn K (.ref f10) = true)
    {od11 an11 : Option Addr} {sl11 : Array (Option Value)} {oc11 kV11 dc11 pm11 cd11 ct11 : Value}
    (a11 : PySem.W.nsIn K mainGlobals "answer_to" = some (some (.ref f11))) (l11 : K.lookup f11 = some ⟨oc11, od11, .func (PySem.W.fnOf "answer_to" "answer_to" (defArgs s_answer_to) (defBody s_answer_to) (defScope s_answer_to) .none kV11 dc11 pm11 an11 cd11 ct11), sl11⟩) (c11 : PySem.W.codeIn K cd11 "answer_to" = true) (k11 : PySem.W.keepIn K (.ref f11) = true)
    {od12 an12 : Option Addr} {sl12 : Array (Option Value)} {oc12 kV12 dc12 pm12 cd12 ct12 : Value}
    (a12 : PySem.W.nsIn K mainGlobals "way_of" = some (some (.ref f12))) (l12 : K.lookup f12 = some ⟨oc12, od12, .func (PySem.W.fnOf "way_of" "way_of" (defArgs s_way_of) (defBody s_way_of) (defScope s_way_of) .none kV12 dc12 pm12 an12 cd12 ct12), sl12⟩) (c12 : PySem.W.codeIn K cd12 "way_of" = true) (k12 : PySem.W.keepIn K (.ref f12) = true)
    {od13 an13 : Option Addr} {sl13 : Array (Option Value)} {oc13 kV13 dc13 pm13 cd13 ct13 : Value}
    (a13 : PySem.W.nsIn K mainGlobals "answers_to" = some (some (.ref f13))) (l13 : K.lookup f13 = some ⟨oc13, od13, .func (PySem.W.fnOf "answers_to" "answers_to" (defArgs s_answers_to) (defBody s_answers_to) (defScope s_answers_to) .none kV13 dc13 pm13 an13 cd13 ct13), sl13⟩) (c13 : PySem.W.codeIn K cd13 "answers_to" = true) (k13 : PySem.W.keepIn K (.ref f13) = true)
    {od14 an14 : Option Addr} {sl14 : Array (Option Value)} {oc14 kV14 dc14 pm14 cd14 ct14 : Value}
    (a14 : PySem.W.nsIn K mainGlobals "need_all" = some (some (.ref f14))) (l14 : K.lookup f14 = some ⟨oc14, od14, .func (PySem.W.fnOf "need_all" "need_all" (defArgs s_need_all) (defBody s_need_all) (defScope s_need_all) .none kV14 dc14 pm14 an14 cd14 ct14), sl14⟩) (c14 : PySem.W.codeIn K cd14 "need_all" = true) (k14 : PySem.W.keepIn K (.ref f14) = true)
    {od15 an15 : Option Addr} {sl15 : Array (Option Value)} {oc15 kV15 dc15 pm15 cd15 ct15 : Value}
    (a15 : PySem.W.nsIn K mainGlobals "way" = some (some (.ref f15))) (l15 : K.lookup f15 = some ⟨oc15, od15, .func (PySem.W.fnOf "way" "way" (defArgs s_way) (defBody s_way) (defScope s_way) .none kV15 dc15 pm15 an15 cd15 ct15), sl15⟩) (c15 : PySem.W.codeIn K cd15 "way" = true) (k15 : PySem.W.keepIn K (.ref f15) = true)
    {od16 an16 : Option Addr} {sl16 : Array (Option Value)} {oc16 kV16 dc16 pm16 cd16 ct16 : Value}
    (a16 : PySem.W.nsIn K mainGlobals "heard" = some (some (.ref f16))) (l16 : K.lookup f16 = some ⟨oc16, od16, .func (PySem.W.fnOf "heard" "heard" (defArgs s_heard) (defBody s_heard) (defScope s_heard) .none kV16 dc16 pm16 an16 cd16 ct16), sl16⟩) (c16 : PySem.W.codeIn K cd16 "heard" = true) (k16 : PySem.W.keepIn K (.ref f16) = true)
    {od17 an17 : Option Addr} {sl17 : Array (Option Value)} {oc17 kV17 dc17 pm17 cd17 ct17 : Value}
    (a17 : PySem.W.nsIn K mainGlobals "looks_of" = some (some (.ref f17))) (l17 : K.lookup f17 = some ⟨oc17, od17, .func (PySem.W.fnOf "looks_of" "looks_of" (defArgs s_looks_of) (defBody s_looks_of) (defScope s_looks_of) .none kV17 dc17 pm17 an17 cd17 ct17), sl17⟩) (c17 : PySem.W.codeIn K cd17 "looks_of" = true) (k17 : PySem.W.keepIn K (.ref f17) = true)
    {od18 an18 : Option Addr} {sl18 : Array (Option Value)} {oc18 kV18 dc18 pm18 cd18 ct18 : Value}
    (a18 : PySem.W.nsIn K mainGlobals "parts_of" = some (some (.ref f18))) (l18 : K.lookup f18 = some ⟨oc18, od18, .func (PySem.W.fnOf "parts_of" "parts_of" (defArgs s_parts_of) (defBody s_parts_of) (defScope s_parts_of) .none kV18 dc18 pm18 an18 cd18 ct18), sl18⟩) (c18 : PySem.W.codeIn K cd18 "parts_of" = true) (k18 : PySem.W.keepIn K (.ref f18) = true)
    {od19 an19 : Option Addr} {sl19 : Array (Option Value)} {oc19 kV19 dc19 pm19 cd19 ct19 : Value}
    (a19 : PySem.W.nsIn K mainGlobals "parts" = some (some (.ref f19))) (l19 : K.lookup f19 = some ⟨oc19, od19, .func (PySem.W.fnOf "parts" "parts" (defArgs s_parts) (defBody s_parts) (defScope s_parts) .none kV19 dc19 pm19 an19 cd19 ct19), sl19⟩) (c19 : PySem.W.codeIn K cd19 "parts" = true) (k19 : PySem.W.keepIn K (.ref f19) = true)
    {od20 an20 : Option Addr} {sl20 : Array (Option Value)} {oc20 kV20 dc20 pm20 cd20 ct20 : Value}
    (a20 : PySem.W.nsIn K mainGlobals "finds_all" = some (some (.ref f20))) (l20 : K.lookup f20 = some ⟨oc20, od20, .func (PySem.W.fnOf "finds_all" "finds_all" (defArgs s_finds_all) (defBody s_finds_all) (defScope s_finds_all) .none kV20 dc20 pm20 an20 cd20 ct20), sl20⟩) (c20 : PySem.W.codeIn K cd20 "finds_all" = true) (k20 : PySem.W.keepIn K (.ref f20) = true)
    {od21 an21 : Option Addr} {sl21 : Array (Option Value)} {oc21 kV21 dc21 pm21 cd21 ct21 : Value}
    (a21 : PySem.W.nsIn K mainGlobals "not_parted" = some (some (.ref f21))) (l21 : K.lookup f21 = some ⟨oc21, od21, .func (PySem.W.fnOf "not_parted" "not_parted" (defArgs s_not_parted) (defBody s_not_parted) (defScope s_not_parted) .none kV21 dc21 pm21 an21 cd21 ct21), sl21⟩) (c21 : PySem.W.codeIn K cd21 "not_parted" = true) (k21 : PySem.W.keepIn K (.ref f21) = true)
    {od22 an22 : Option Addr} {sl22 : Array (Option Value)} {oc22 kV22 dc22 pm22 cd22 ct22 : Value}
    (a22 : PySem.W.nsIn K mainGlobals "narrowed" = some (some (.ref f22))) (l22 : K.lookup f22 = some ⟨oc22, od22, .func (PySem.W.fnOf "narrowed" "narrowed" (defArgs s_narrowed) (defBody s_narrowed) (defScope s_narrowed) .none kV22 dc22 pm22 an22 cd22 ct22), sl22⟩) (c22 : PySem.W.codeIn K cd22 "narrowed" = true) (k22 : PySem.W.keepIn K (.ref f22) = true)
    {od23 an23 : Option Addr} {sl23 : Array (Option Value)} {oc23 kV23 dc23 pm23 cd23 ct23 : Value}
    (a23 : PySem.W.nsIn K mainGlobals "idle" = some (some (.ref f23))) (l23 : K.lookup f23 = some ⟨oc23, od23, .func (PySem.W.fnOf "idle" "idle" (defArgs s_idle) (defBody s_idle) (defScope s_idle) .none kV23 dc23 pm23 an23 cd23 ct23), sl23⟩) (c23 : PySem.W.codeIn K cd23 "idle" = true) (k23 : PySem.W.keepIn K (.ref f23) = true)
    {od24 an24 : Option Addr} {sl24 : Array (Option Value)} {oc24 kV24 dc24 pm24 cd24 ct24 : Value}
    (a24 : PySem.W.nsIn K mainGlobals "_law_cell_at" = some (some (.ref f24))) (l24 : K.lookup f24 = some ⟨oc24, od24, .func (PySem.W.fnOf "_law_cell_at" "_law_cell_at" (defArgs s__law_cell_at) (defBody s__law_cell_at) (defScope s__law_cell_at) .none kV24 dc24 pm24 an24 cd24 ct24), sl24⟩) (c24 : PySem.W.codeIn K cd24 "_law_cell_at" = true) (k24 : PySem.W.keepIn K (.ref f24) = true)
    {od25 an25 : Option Addr} {sl25 : Array (Option Value)} {oc25 kV25 dc25 pm25 cd25 ct25 : Value}
    (a25 : PySem.W.nsIn K mainGlobals "_law_mixed" = some (some (.ref f25))) (l25 : K.lookup f25 = some ⟨oc25, od25, .func (PySem.W.fnOf "_law_mixed" "_law_mixed" (defArgs s__law_mixed) (defBody s__law_mixed) (defScope s__law_mixed) .none kV25 dc25 pm25 an25 cd25 ct25), sl25⟩) (c25 : PySem.W.codeIn K cd25 "_law_mixed" = true) (k25 : PySem.W.keepIn K (.ref f25) = true)
    {od26 an26 : Option Addr} {sl26 : Array (Option Value)} {oc26 kV26 dc26 pm26 cd26 ct26 : Value}
    (a26 : PySem.W.nsIn K mainGlobals "_law_draw" = some (some (.ref f26))) (l26 : K.lookup f26 = some ⟨oc26, od26, .func (PySem.W.fnOf "_law_draw" "_law_draw" (defArgs s__law_draw) (defBody s__law_draw) (defScope s__law_draw) .none kV26 dc26 pm26 an26 cd26 ct26), sl26⟩) (c26 : PySem.W.codeIn K cd26 "_law_draw" = true) (k26 : PySem.W.keepIn K (.ref f26) = true)
    {od27 an27 : Option Addr} {sl27 : Array (Option Value)} {oc27 kV27 dc27 pm27 cd27 ct27 : Value}
    (a27 : PySem.W.nsIn K mainGlobals "_law_pick" = some (some (.ref f27))) (l27 : K.lookup f27 = some ⟨oc27, od27, .func (PySem.W.fnOf "_law_pick" "_law_pick" (defArgs s__law_pick) (defBody s__law_pick) (defScope s__law_pick) .none kV27 dc27 pm27 an27 cd27 ct27), sl27⟩) (c27 : PySem.W.codeIn K cd27 "_law_pick" = true) (k27 : PySem.W.keepIn K (.ref f27) = true)
    {od28 an28 : Option Addr} {sl28 : Array (Option Value)} {oc28 kV28 dc28 pm28 cd28 ct28 : Value}
    (a28 : PySem.W.nsIn K mainGlobals "_law_same_truth" = some (some (.ref f28))) (l28 : K.lookup f28 = some ⟨oc28, od28, .func (PySem.W.fnOf "_law_same_truth" "_law_same_truth" (defArgs s__law_same_truth) (defBody s__law_same_truth) (defScope s__law_same_truth) .none kV28 dc28 pm28 an28 cd28 ct28), sl28⟩) (c28 : PySem.W.codeIn K cd28 "_law_same_truth" = true) (k28 : PySem.W.keepIn K (.ref f28) = true)
    {od29 an29 : Option Addr} {sl29 : Array (Option Value)} {oc29 kV29 dc29 pm29 cd29 ct29 : Value}
    (a29 : PySem.W.nsIn K mainGlobals "_law_count" = some (some (.ref f29))) (l29 : K.lookup f29 = some ⟨oc29, od29, .func (PySem.W.fnOf "_law_count" "_law_count" (defArgs s__law_count) (defBody s__law_count) (defScope s__law_count) .none kV29 dc29 pm29 an29 cd29 ct29), sl29⟩) (c29 : PySem.W.codeIn K cd29 "_law_count" = true) (k29 : PySem.W.keepIn K (.ref f29) = true)
    {od30 an30 : Option Addr} {sl30 : Array (Option Value)} {oc30 kV30 dc30 pm30 cd30 ct30 : Value}
    (a30 : PySem.W.nsIn K mainGlobals "_law_some_beats" = some (some (.ref f30))) (l30 : K.lookup f30 = some ⟨oc30, od30, .func (PySem.W.fnOf "_law_some_beats" "_law_some_beats" (defArgs s__law_some_beats) (defBody s__law_some_beats) (defScope s__law_some_beats) .none kV30 dc30 pm30 an30 cd30 ct30), sl30⟩) (c30 : PySem.W.codeIn K cd30 "_law_some_beats" = true) (k30 : PySem.W.keepIn K (.ref f30) = true)
    {od31 an31 : Option Addr} {sl31 : Array (Option Value)} {oc31 kV31 dc31 pm31 cd31 ct31 : Value}
    (a31 : PySem.W.nsIn K mainGlobals "_law_some_game" = some (some (.ref f31))) (l31 : K.lookup f31 = some ⟨oc31, od31, .func (PySem.W.fnOf "_law_some_game" "_law_some_game" (defArgs s__law_some_game) (defBody s__law_some_game) (defScope s__law_some_game) .none kV31 dc31 pm31 an31 cd31 ct31), sl31⟩) (c31 : PySem.W.codeIn K cd31 "_law_some_game" = true) (k31 : PySem.W.keepIn K (.ref f31) = true)
    {od32 an32 : Option Addr} {sl32 : Array (Option Value)} {oc32 kV32 dc32 pm32 cd32 ct32 : Value}
    (a32 : PySem.W.nsIn K mainGlobals "_law_due" = some (some (.ref f32))) (l32 : K.lookup f32 = some ⟨oc32, od32, .func (PySem.W.fnOf "_law_due" "_law_due" (defArgs s__law_due) (defBody s__law_due) (defScope s__law_due) .none kV32 dc32 pm32 an32 cd32 ct32), sl32⟩) (c32 : PySem.W.codeIn K cd32 "_law_due" = true) (k32 : PySem.W.keepIn K (.ref f32) = true)
    {od33 an33 : Option Addr} {sl33 : Array (Option Value)} {oc33 kV33 dc33 pm33 cd33 ct33 : Value}
    (a33 : PySem.W.nsIn K mainGlobals "_law_reply" = some (some (.ref f33))) (l33 : K.lookup f33 = some ⟨oc33, od33, .func (PySem.W.fnOf "_law_reply" "_law_reply" (defArgs s__law_reply) (defBody s__law_reply) (defScope s__law_reply) .none kV33 dc33 pm33 an33 cd33 ct33), sl33⟩) (c33 : PySem.W.codeIn K cd33 "_law_reply" = true) (k33 : PySem.W.keepIn K (.ref f33) = true)
    {od34 an34 : Option Addr} {sl34 : Array (Option Value)} {oc34 kV34 dc34 pm34 cd34 ct34 : Value}
    (a34 : PySem.W.nsIn K mainGlobals "_law_some_cuts" = some (some (.ref f34))) (l34 : K.lookup f34 = some ⟨oc34, od34, .func (PySem.W.fnOf "_law_some_cuts" "_law_some_cuts" (defArgs s__law_some_cuts) (defBody s__law_some_cuts) (defScope s__law_some_cuts) .none kV34 dc34 pm34 an34 cd34 ct34), sl34⟩) (c34 : PySem.W.codeIn K cd34 "_law_some_cuts" = true) (k34 : PySem.W.keepIn K (.ref f34) = true)
    {od35 an35 : Option Addr} {sl35 : Array (Option Value)} {oc35 kV35 dc35 pm35 cd35 ct35 : Value}
    (a35 : PySem.W.nsIn K mainGlobals "_law_some_plan" = some (some (.ref f35))) (l35 : K.lookup f35 = some ⟨oc35, od35, .func (PySem.W.fnOf "_law_some_plan" "_law_some_plan" (defArgs s__law_some_plan) (defBody s__law_some_plan) (defScope s__law_some_plan) .none kV35 dc35 pm35 an35 cd35 ct35), sl35⟩) (c35 : PySem.W.codeIn K cd35 "_law_some_plan" = true) (k35 : PySem.W.keepIn K (.ref f35) = true)
    {od36 an36 : Option Addr} {sl36 : Array (Option Value)} {oc36 kV36 dc36 pm36 cd36 ct36 : Value}
    (a36 : PySem.W.nsIn K mainGlobals "_law_path" = some (some (.ref f36))) (l36 : K.lookup f36 = some ⟨oc36, od36, .func (PySem.W.fnOf "_law_path" "_law_path" (defArgs s__law_path) (defBody s__law_path) (defScope s__law_path) .none kV36 dc36 pm36 an36 cd36 ct36), sl36⟩) (c36 : PySem.W.codeIn K cd36 "_law_path" = true) (k36 : PySem.W.keepIn K (.ref f36) = true)
    {od37 an37 : Option Addr} {sl37 : Array (Option Value)} {oc37 kV37 dc37 pm37 cd37 ct37 : Value}
    (a37 : PySem.W.nsIn K mainGlobals "_law_classes" = some (some (.ref f37))) (l37 : K.lookup f37 = some ⟨oc37, od37, .func (PySem.W.fnOf "_law_classes" "_law_classes" (defArgs s__law_classes) (defBody s__law_classes) (defScope s__law_classes) .none kV37 dc37 pm37 an37 cd37 ct37), sl37⟩) (c37 : PySem.W.codeIn K cd37 "_law_classes" = true) (k37 : PySem.W.keepIn K (.ref f37) = true)
    {od38 an38 : Option Addr} {sl38 : Array (Option Value)} {oc38 kV38 dc38 pm38 cd38 ct38 : Value}
    (a38 : PySem.W.nsIn K mainGlobals "_law_idle" = some (some (.ref f38))) (l38 : K.lookup f38 = some ⟨oc38, od38, .func (PySem.W.fnOf "_law_idle" "_law_idle" (defArgs s__law_idle) (defBody s__law_idle) (defScope s__law_idle) .none kV38 dc38 pm38 an38 cd38 ct38), sl38⟩) (c38 : PySem.W.codeIn K cd38 "_law_idle" = true) (k38 : PySem.W.keepIn K (.ref f38) = true)
    {od39 an39 : Option Addr} {sl39 : Array (Option Value)} {oc39 kV39 dc39 pm39 cd39 ct39 : Value}
    (a39 : PySem.W.nsIn K mainGlobals "law" = some (some (.ref f39))) (l39 : K.lookup f39 = some ⟨oc39, od39, .func (PySem.W.fnOf "law" "law" (defArgs s_law) (defBody s_law) (defScope s_law) .none kV39 dc39 pm39 an39 cd39 ct39), sl39⟩) (c39 : PySem.W.codeIn K cd39 "law" = true) (k39 : PySem.W.keepIn K (.ref f39) = true)
    (b_all : PySem.W.nsIn K mainGlobals "all" = some none)
    (b_bool : PySem.W.nsIn K mainGlobals "bool" = some none)
    (b_enumerate : PySem.W.nsIn K mainGlobals "enumerate" = some none)
    (b_int : PySem.W.nsIn K mainGlobals "int" = some none)
    (b_isinstance : PySem.W.nsIn K mainGlobals "isinstance" = some none)
    (b_len : PySem.W.nsIn K mainGlobals "len" = some none)
    (b_list : PySem.W.nsIn K mainGlobals "list" = some none)
    (b_max : PySem.W.nsIn K mainGlobals "max" = some none)
    (b_min : PySem.W.nsIn K mainGlobals "min" = some none)
    (b_range : PySem.W.nsIn K mainGlobals "range" = some none)
    (b_sorted : PySem.W.nsIn K mainGlobals "sorted" = some none)
    (b_str : PySem.W.nsIn K mainGlobals "str" = some none)
    (b_sum : PySem.W.nsIn K mainGlobals "sum" = some none)
    (b_tuple : PySem.W.nsIn K mainGlobals "tuple" = some none)
    (b_zip : PySem.W.nsIn K mainGlobals "zip" = some none)
    {t_THINGS : Tok} (g_THINGS : PySem.W.nsIn K mainGlobals "THINGS" = some (some (.int 64 t_THINGS)))
    {t_LATE : Tok} (g_LATE : PySem.W.nsIn K mainGlobals "LATE" = some (some (.int 5 t_LATE)))
    {t_BEATS : Tok} (g_BEATS : PySem.W.nsIn K mainGlobals "BEATS" = some (some (.int 8 t_BEATS)))
    {t_CUTS : Tok} (g_CUTS : PySem.W.nsIn K mainGlobals "CUTS" = some (some (.int 3 t_CUTS))) :
    ∃ fd : FuncData, (∀ (s : Shared) (u : Value), BindsTo s fd ⟨[u], []⟩ [("_law_script", u)]) ∧ ∀ base : Heap, K.In base → base.Ns mainGlobals mg → FnOk P w K mg base (L2.CX P w) 20 fa fd ["_law_script"] (spLw K) := by
  have e := hfa.symm.trans (PySem.W.mg_of X G a39)
  cases e
  have B : Bl mg := ⟨PySem.W.mg_none_of X G b_all, PySem.W.mg_none_of X G b_bool, PySem.W.mg_none_of X G b_enumerate, PySem.W.mg_none_of X G b_int, PySem.W.mg_none_of X G b_isinstance, PySem.W.mg_none_of X G b_len, PySem.W.mg_none_of X G b_list, PySem.W.mg_none_of X G b_max, PySem.W.mg_none_of X G b_min, PySem.W.mg_none_of X G b_range, PySem.W.mg_none_of X G b_sorted, PySem.W.mg_none_of X G b_str, PySem.W.mg_none_of X G b_sum, PySem.W.mg_none_of X G b_tuple, PySem.W.mg_none_of X G b_zip, ⟨_, PySem.W.mg_of X G g_THINGS⟩, ⟨_, PySem.W.mg_of X G g_LATE⟩, ⟨_, PySem.W.mg_of X G g_BEATS⟩, ⟨_, PySem.W.mg_of X G g_CUTS⟩⟩
  have F0 := fun_mk (st := s_is_whole) l0 c0 k0
  have d0 : Df K mg "is_whole" s_is_whole ["thing", "low", "high"] _ _ := ⟨F0, PySem.W.mg_of X G a0, a0, F0.binds (ps := ["thing", "low", "high"]) fun _ _ _ _ _ _ us hl => match us, hl with | [_, _, _], _ => rfl⟩
  have F1 := fun_mk (st := s_are_beats) l1 c1 k1
  have d1 : Df K mg "are_beats" s_are_beats ["thing", "many"] _ _ := ⟨F1, PySem.W.mg_of X G a1, a1, F1.binds (ps := ["thing", "many"]) fun _ _ _ _ _ _ us hl => match us, hl with | [_, _], _ => rfl⟩
  have F2 := fun_mk (st := s_good_game) l2 c2 k2
  have d2 : Df K mg "good_game" s_good_game ["thing"] _ _ := ⟨F2, PySem.W.mg_of X G a2, a2, F2.binds (ps := ["thing"]) fun _ _ _ _ _ _ us hl => match us, hl with | [_], _ => rfl⟩
  have F3 := fun_mk (st := s_need_game) l3 c3 k3
  have d3 : Df K mg "need_game" s_need_game ["game"] _ _ := ⟨F3, PySem.W.mg_of X G a3, a3, F3.binds (ps := ["game"]) fun _ _ _ _ _ _ us hl => match us, hl with | [_], _ => rfl⟩
  have F4 := fun_mk (st := s_are_cuts) l4 c4 k4
  have d4 : Df K mg "are_cuts" s_are_cuts ["things", "many", "thing"] _ _ := ⟨F4, PySem.W.mg_of X G a4, a4, F4.binds (ps := ["things", "many", "thing"]) fun _ _ _ _ _ _ us hl => match us, hl with | [_, _, _], _ => rfl⟩
  have F5 := fun_mk (st := s_due_of) l5 c5 k5
  have d5 : Df K mg "due_of" s_due_of ["late", "put"] _ _ := ⟨F5, PySem.W.mg_of X G a5, a5, F5.binds (ps := ["late", "put"]) fun _ _ _ _ _ _ us hl => match us, hl with | [_, _], _ => rfl⟩
  have F6 := fun_mk (st := s_good_from) l6 c6 k6
  have d6 : Df K mg "good_from" s_good_from ["game", "put", "thing"] _ _ := ⟨F6, PySem.W.mg_of X G a6, a6, F6.binds (ps := ["game", "put", "thing"]) fun _ _ _ _ _ _ us hl => match us, hl with | [_, _, _], _ => rfl⟩
  have F7 := fun_mk (st := s_good_plan) l7 c7 k7
  have d7 : Df K mg "good_plan" s_good_plan ["game", "thing"] _ _ := ⟨F7, PySem.W.mg_of X G a7, a7, F7.binds (ps := ["game", "thing"]) fun _ _ _ _ _ _ us hl => match us, hl with | [_, _], _ => rfl⟩
  have F8 := fun_mk (st := s_is_plan) l8 c8 k8
  have d8 : Df K mg "is_plan" s_is_plan ["game", "thing"] _ _ := ⟨F8, PySem.W.mg_of X G a8, a8, F8.binds (ps := ["game", "thing"]) fun _ _ _ _ _ _ us hl => match us, hl with | [_, _], _ => rfl⟩
  have F9 := fun_mk (st := s_need_plan) l9 c9 k9
  have d9 : Df K mg "need_plan" s_need_plan ["game", "plan"] _ _ := ⟨F9, PySem.W.mg_of X G a9, a9, F9.binds (ps := ["game", "plan"]) fun _ _ _ _ _ _ us hl => match us, hl with | [_, _], _ => rfl⟩
  have F10 := fun_mk (st := s_need_thing) l10 c10 k10
  have d10 : Df K mg "need_thing" s_need_thing ["game", "thing"] _ _ := ⟨F10, PySem.W.mg_of X G a10, a10, F10.binds (ps := ["game", "thing"]) fun _ _ _ _ _ _ us hl => match us, hl with | [_, _], _ => rfl⟩
  have F11 := fun_mk (st := s_answer_to) l11 c11 k11
  have d11 : Df K mg "answer_to" s_answer_to ["cuts", "thing"] _ _ := ⟨F11, PySem.W.mg_of X G a11, a11, F11.binds (ps := ["cuts", "thing"]) fun _ _ _ _ _ _ us hl => match us, hl with | [_, _], _ => rfl⟩
  have F12 := fun_mk (st := s_way_of) l12 c12 k12
  have d12 : Df K mg "way_of" s_way_of ["game", "plan", "thing"] _ _ := ⟨F12, PySem.W.mg_of X G a12, a12, F12.binds (ps := ["game", "plan", "thing"]) fun _ _ _ _ _ _ us hl => match us, hl with | [_, _, _], _ => rfl⟩
  have F13 := fun_mk (st := s_answers_to) l13 c13 k13
  have d13 : Df K mg "answers_to" s_answers_to ["put", "thing"] _ _ := ⟨F13, PySem.W.mg_of X G a13, a13, F13.binds (ps := ["put", "thing"]) fun _ _ _ _ _ _ us hl => match us, hl with | [_, _], _ => rfl⟩
  have F14 := fun_mk (st := s_need_all) l14 c14 k14
  have d14 : Df K mg "need_all" s_need_all ["game", "plan", "thing"] _ _ := ⟨F14, PySem.W.mg_of X G a14, a14, F14.binds (ps := ["game", "plan", "thing"]) fun _ _ _ _ _ _ us hl => match us, hl with | [_, _, _], _ => rfl⟩
  have F15 := fun_mk (st := s_way) l15 c15 k15
  have d15 : Df K mg "way" s_way ["game", "plan", "thing"] _ _ := ⟨F15, PySem.W.mg_of X G a15, a15, F15.binds (ps := ["game", "plan", "thing"]) fun _ _ _ _ _ _ us hl => match us, hl with | [_, _, _], _ => rfl⟩
  have F16 := fun_mk (st := s_heard) l16 c16 k16
  have d16 : Df K mg "heard" s_heard ["game", "plan", "thing"] _ _ := ⟨F16, PySem.W.mg_of X G a16, a16, F16.binds (ps := ["game", "plan", "thing"]) fun _ _ _ _ _ _ us hl => match us, hl with | [_, _, _], _ => rfl⟩
  have F17 := fun_mk (st := s_looks_of) l17 c17 k17
  have d17 : Df K mg "looks_of" s_looks_of ["game", "plan"] _ _ := ⟨F17, PySem.W.mg_of X G a17, a17, F17.binds (ps := ["game", "plan"]) fun _ _ _ _ _ _ us hl => match us, hl with | [_, _], _ => rfl⟩
  have F18 := fun_mk (st := s_parts_of) l18 c18 k18
  have d18 : Df K mg "parts_of" s_parts_of ["game", "plan"] _ _ := ⟨F18, PySem.W.mg_of X G a18, a18, F18.binds (ps := ["game", "plan"]) fun _ _ _ _ _ _ us hl => match us, hl with | [_, _], _ => rfl⟩
  have F19 := fun_mk (st := s_parts) l19 c19 k19
  have d19 : Df K mg "parts" s_parts ["game", "plan"] _ _ := ⟨F19, PySem.W.mg_of X G a19, a19, F19.binds (ps := ["game", "plan"]) fun _ _ _ _ _ _ us hl => match us, hl with | [_, _], _ => rfl⟩
  have F20 := fun_mk (st := s_finds_all) l20 c20 k20
  have d20 : Df K mg "finds_all" s_finds_all ["game", "plan"] _ _ := ⟨F20, PySem.W.mg_of X G a20, a20, F20.binds (ps := ["game", "plan"]) fun _ _ _ _ _ _ us hl => match us, hl with | [_, _], _ => rfl⟩
  have F21 := fun_mk (st := s_not_parted) l21 c21 k21
  have d21 : Df K mg "not_parted" s_not_parted ["game", "plan"] _ _ := ⟨F21, PySem.W.mg_of X G a21, a21, F21.binds (ps := ["game", "plan"]) fun _ _ _ _ _ _ us hl => match us, hl with | [_, _], _ => rfl⟩
  have F22 := fun_mk (st := s_narrowed) l22 c22 k22
  have d22 : Df K mg "narrowed" s_narrowed ["stretch", "cuts", "thing"] _ _ := ⟨F22, PySem.W.mg_of X G a22, a22, F22.binds (ps := ["stretch", "cuts", "thing"]) fun _ _ _ _ _ _ us hl => match us, hl with | [_, _, _], _ => rfl⟩
  have F23 := fun_mk (st := s_idle) l23 c23 k23
  have d23 : Df K mg "idle" s_idle ["game", "plan", "thing"] _ _ := ⟨F23, PySem.W.mg_of X G a23, a23, F23.binds (ps := ["game", "plan", "thing"]) fun _ _ _ _ _ _ us hl => match us, hl with | [_, _, _], _ => rfl⟩
  have F24 := fun_mk (st := s__law_cell_at) l24 c24 k24
  have d24 : Df K mg "_law_cell_at" s__law_cell_at ["_law_script", "_law_k"] _ _ := ⟨F24, PySem.W.mg_of X G a24, a24, F24.binds (ps := ["_law_script", "_law_k"]) fun _ _ _ _ _ _ us hl => match us, hl with | [_, _], _ => rfl⟩
  have F25 := fun_mk (st := s__law_mixed) l25 c25 k25
  have d25 : Df K mg "_law_mixed" s__law_mixed ["_law_script", "_law_k", "_law_bound"] _ _ := ⟨F25, PySem.W.mg_of X G a25, a25, F25.binds (ps := ["_law_script", "_law_k", "_law_bound"]) fun _ _ _ _ _ _ us hl => match us, hl with | [_, _, _], _ => rfl⟩
  have F26 := fun_mk (st := s__law_draw) l26 c26 k26
  have d26 : Df K mg "_law_draw" s__law_draw ["_law_script", "_law_town", "_law_bound"] _ _ := ⟨F26, PySem.W.mg_of X G a26, a26, F26.binds (ps := ["_law_script", "_law_town", "_law_bound"]) fun _ _ _ _ _ _ us hl => match us, hl with | [_, _, _], _ => rfl⟩
  have F27 := fun_mk (st := s__law_pick) l27 c27 k27
  have d27 : Df K mg "_law_pick" s__law_pick ["_law_script", "_law_town", "_law_some"] _ _ := ⟨F27, PySem.W.mg_of X G a27, a27, F27.binds (ps := ["_law_script", "_law_town", "_law_some"]) fun _ _ _ _ _ _ us hl => match us, hl with | [_, _, _], _ => rfl⟩
  have F28 := fun_mk (st := s__law_same_truth) l28 c28 k28
  have d28 : Df K mg "_law_same_truth" s__law_same_truth ["_law_got", "_law_due_here"] _ _ := ⟨F28, PySem.W.mg_of X G a28, a28, F28.binds (ps := ["_law_got", "_law_due_here"]) fun _ _ _ _ _ _ us hl => match us, hl with | [_, _], _ => rfl⟩
  have F29 := fun_mk (st := s__law_count) l29 c29 k29
  have d29 : Df K mg "_law_count" s__law_count ["_law_late", "_law_beats"] _ _ := ⟨F29, PySem.W.mg_of X G a29, a29, F29.binds (ps := ["_law_late", "_law_beats"]) fun _ _ _ _ _ _ us hl => match us, hl with | [_, _], _ => rfl⟩
  have F30 := fun_mk (st := s__law_some_beats) l30 c30 k30
  have d30 : Df K mg "_law_some_beats" s__law_some_beats ["_law_script", "_law_town", "_law_most_there"] _ _ := ⟨F30, PySem.W.mg_of X G a30, a30, F30.binds (ps := ["_law_script", "_law_town", "_law_most_there"]) fun _ _ _ _ _ _ us hl => match us, hl with | [_, _, _], _ => rfl⟩
  have F31 := fun_mk (st := s__law_some_game) l31 c31 k31
  have d31 : Df K mg "_law_some_game" s__law_some_game ["_law_script", "_law_town", "_law_most_there"] _ _ := ⟨F31, PySem.W.mg_of X G a31, a31, F31.binds (ps := ["_law_script", "_law_town", "_law_most_there"]) fun _ _ _ _ _ _ us hl => match us, hl with | [_, _, _], _ => rfl⟩
  have F32 := fun_mk (st := s__law_due) l32 c32 k32
  have d32 : Df K mg "_law_due" s__law_due ["_law_late", "_law_put"] _ _ := ⟨F32, PySem.W.mg_of X G a32, a32, F32.binds (ps := ["_law_late", "_law_put"]) fun _ _ _ _ _ _ us hl => match us, hl with | [_, _], _ => rfl⟩
  have F33 := fun_mk (st := s__law_reply) l33 c33 k33
  have d33 : Df K mg "_law_reply" s__law_reply ["_law_cuts", "_law_thing"] _ _ := ⟨F33, PySem.W.mg_of X G a33, a33, F33.binds (ps := ["_law_cuts", "_law_thing"]) fun _ _ _ _ _ _ us hl => match us, hl with | [_, _], _ => rfl⟩
  have F34 := fun_mk (st := s__law_some_cuts) l34 c34 k34
  have d34 : Df K mg "_law_some_cuts" s__law_some_cuts ["_law_script", "_law_town", "_law_things", "_law_many", "_law_stretch"] _ _ := ⟨F34, PySem.W.mg_of X G a34, a34, F34.binds (ps := ["_law_script", "_law_town", "_law_things", "_law_many", "_law_stretch"]) fun _ _ _ _ _ _ us hl => match us, hl with | [_, _, _, _, _], _ => rfl⟩
  have F35 := fun_mk (st := s__law_some_plan) l35 c35 k35
  have d35 : Df K mg "_law_some_plan" s__law_some_plan ["_law_script", "_law_town", "_law_game", "_law_put", "_law_stretch"] _ _ := ⟨F35, PySem.W.mg_of X G a35, a35, F35.binds (ps := ["_law_script", "_law_town", "_law_game", "_law_put", "_law_stretch"]) fun _ _ _ _ _ _ us hl => match us, hl with | [_, _, _, _, _], _ => rfl⟩
  have F36 := fun_mk (st := s__law_path) l36 c36 k36
  have d36 : Df K mg "_law_path" s__law_path ["_law_game", "_law_plan", "_law_thing"] _ _ := ⟨F36, PySem.W.mg_of X G a36, a36, F36.binds (ps := ["_law_game", "_law_plan", "_law_thing"]) fun _ _ _ _ _ _ us hl => match us, hl with | [_, _, _], _ => rfl⟩
  have F37 := fun_mk (st := s__law_classes) l37 c37 k37
  have d37 : Df K mg "_law_classes" s__law_classes ["_law_game", "_law_plan"] _ _ := ⟨F37, PySem.W.mg_of X G a37, a37, F37.binds (ps := ["_law_game", "_law_plan"]) fun _ _ _ _ _ _ us hl => match us, hl with | [_, _], _ => rfl⟩
  have F38 := fun_mk (st := s__law_idle) l38 c38 k38
  have d38 : Df K mg "_law_idle" s__law_idle ["_law_looks", "_law_thing"] _ _ := ⟨F38, PySem.W.mg_of X G a38, a38, F38.binds (ps := ["_law_looks", "_law_thing"]) fun _ _ _ _ _ _ us hl => match us, hl with | [_, _], _ => rfl⟩
  have F39 := fun_mk (st := s_law) l39 c39 k39
  have d39 : Df K mg "law" s_law ["_law_script"] _ _ := ⟨F39, PySem.W.mg_of X G a39, a39, F39.binds (ps := ["_law_script"]) fun _ _ _ _ _ _ us hl => match us, hl with | [_], _ => rfl⟩
  exact ⟨PySem.W.fnOf "law" "law" (defArgs s_law) (defBody s_law) (defScope s_law) .none kV39 dc39 pm39 an39 cd39 ct39, fun s u => .of_eq rfl, fun base _ _ => lw_ok (ok_law B ⟨_, _, d0, _, _, d1, _, _, d2, _, _, d3, _, _, d4, _, _, d5, _, _, d6, _, _, d7, _, _, d8, _, _, d9, _, _, d10, _, _, d11, _, _, d12, _, _, d13, _, _, d14, _, _, d15, _, _, d16, _, _, d17, _, _, d18, _, _, d19, _, _, d20, _, _, d21, _, _, d22, _, _, d23, _, _, d24, _, _, d25, _, _, d26, _, _, d27, _, _, d28, _, _, d29, _, _, d30, _, _, d31, _, _, d32, _, _, d33, _, _, d34, _, _, d35, _, _, d36, _, _, d37, _, _, d38, _, _, d39⟩) law_true⟩
end LK
open PySem PySem.W PyProof.Rows in
set_option maxRecDepth 100000 in
set_option maxHeartbeats 0 in
theorem PySem.Challenge.cw_askahead_k02_whole_ways_holds : PySem.Challenge.rw_askahead_k02_whole_ways.Holds := by
  w_on; o_law; k_head; (case hw => w_witness2)
  k_fill
  refine MM.walk_mm (l := PySem.Challenge.rw_askahead_k02_whole_ways) (k := 20) rfl rfl ⟨rfl, by decide, by decide⟩ (fun w h Y => PySem.W.kIn_of Y) ?F
  case F =>
    intro w mg fa h KX G hmg
    refine' LK.all_mk KX G hmg ?a0 ?l0 ?c0 ?k0 ?a1 ?l1 ?c1 ?k1 ?a2 ?l2 ?c2 ?k2 ?a3 ?l3 ?c3 ?k3 ?a4 ?l4 ?c4 ?k4 ?a5 ?l5 ?c5 ?k5 ?a6 ?l6 ?c6 ?k6 ?a7 ?l7 ?c7 ?k7 ?a8 ?l8 ?c8 ?k8 ?a9 ?l9 ?c9 ?k9 ?a10 ?l10 ?c10 ?k10 ?a11 ?l11 ?c11 ?k11 ?a12 ?l12 ?c12 ?k12 ?a13 ?l13 ?c13 ?k13 ?a14 ?l14 ?c14 ?k14 ?a15 ?l15 ?c15 ?k15 ?a16 ?l16 ?c16 ?k16 ?a17 ?l17 ?c17 ?k17 ?a18 ?l18 ?c18 ?k18 ?a19 ?l19 ?c19 ?k19 ?a20 ?l20 ?c20 ?k20 ?a21 ?l21 ?c21 ?k21 ?a22 ?l22 ?c22 ?k22 ?a23 ?l23 ?c23 ?k23 ?a24 ?l24 ?c24 ?k24 ?a25 ?l25 ?c25 ?k25 ?a26 ?l26 ?c26 ?k26 ?a27 ?l27 ?c27 ?k27 ?a28 ?l28 ?c28 ?k28 ?a29 ?l29 ?c29 ?k29 ?a30 ?l30 ?c30 ?k30 ?a31 ?l31 ?c31 ?k31 ?a32 ?l32 ?c32 ?k32 ?a33 ?l33 ?c33 ?k33 ?a34 ?l34 ?c34 ?k34 ?a35 ?l35 ?c35 ?k35 ?a36 ?l36 ?c36 ?k36 ?a37 ?l37 ?c37 ?k37 ?a38 ?l38 ?c38 ?k38 ?a39 ?l39 ?c39 ?k39 ?b_all ?b_bool ?b_enumerate ?b_int ?b_isinstance ?b_len ?b_list ?b_max ?b_min ?b_range ?b_sorted ?b_str ?b_sum ?b_tuple ?b_zip ?g_THINGS ?g_LATE ?g_BEATS ?g_CUTS
    (case a0 => k_is)
    (case l0 => k_is)
    (case c0 => k_is)
    (case k0 => k_is)
    (case a1 => k_is)
    (case l1 => k_is)
    (case c1 => k_is)
    (case k1 => k_is)
    (case a2 => k_is)
    (case l2 => k_is)
    (case c2 => k_is)
    (case k2 => k_is)
    (case a3 => k_is)
    (case l3 => k_is)
    (case c3 => k_is)
    (case k3 => k_is)
    (case a4 => k_is)
    (case l4 => k_is)
    (case c4 => k_is)
    (case k4 => k_is)
    (case a5 => k_is)
    (case l5 => k_is)
    (case c5 => k_is)
    (case k5 => k_is)
    (case a6 => k_is)
    (case l6 => k_is)
    (case c6 => k_is)
    (case k6 => k_is)
    (case a7 => k_is)
    (case l7 => k_is)
    (case c7 => k_is)
    (case k7 => k_is)
    (case a8 => k_is)
    (case l8 => k_is)
    (case c8 => k_is)
    (case k8 => k_is)
    (case a9 => k_is)
    (case l9 => k_is)
    (case c9 => k_is)
    (case k9 => k_is)
    (case a10 => k_is)
    (case l10 => k_is)
    (case c10 => k_is)
    (case k10 => k_is)
    (case a11 => k_is)
    (case l11 => k_is)
    (case c11 => k_is)
    (case k11 => k_is)
    (case a12 => k_is)
    (case l12 => k_is)
    (case c12 => k_is)
    (case k12 => k_is)
    (case a13 => k_is)
    (case l13 => k_is)
    (case c13 => k_is)
    (case k13 => k_is)
    (case a14 => k_is)
    (case l14 => k_is)
    (case c14 => k_is)
    (case k14 => k_is)
    (case a15 => k_is)
    (case l15 => k_is)
    (case c15 => k_is)
    (case k15 => k_is)
    (case a16 => k_is)
    (case l16 => k_is)
    (case c16 => k_is)
    (case k16 => k_is)
    (case a17 => k_is)
    (case l17 => k_is)
    (case c17 => k_is)
    (case k17 => k_is)
    (case a18 => k_is)
    (case l18 => k_is)
    (case c18 => k_is)
    (case k18 => k_is)
    (case a19 => k_is)
    (case l19 => k_is)
    (case c19 => k_is)
    (case k19 => k_is)
    (case a20 => k_is)
    (case l20 => k_is)
    (case c20 => k_is)
    (case k20 => k_is)
    (case a21 => k_is)
    (case l21 => k_is)
    (case c21 => k_is)
    (case k21 => k_is)
    (case a22 => k_is)
    (case l22 => k_is)
    (case c22 => k_is)
    (case k22 => k_is)
    (case a23 => k_is)
    (case l23 => k_is)
    (case c23 => k_is)
    (case k23 => k_is)
    (case a24 => k_is)
    (case l24 => k_is)
    (case c24 => k_is)
    (case k24 => k_is)
    (case a25 => k_is)
    (case l25 => k_is)
    (case c25 => k_is)
    (case k25 => k_is)
    (case a26 => k_is)
    (case l26 => k_is)
    (case c26 => k_is)
    (case k26 => k_is)
    (case a27 => k_is)
    (case l27 => k_is)
    (case c27 => k_is)
    (case k27 => k_is)
    (case a28 => k_is)
    (case l28 => k_is)
    (case c28 => k_is)
    (case k28 => k_is)
    (case a29 => k_is)
    (case l29 => k_is)
    (case c29 => k_is)
    (case k29 => k_is)
    (case a30 => k_is)
    (case l30 => k_is)
    (case c30 => k_is)
    (case k30 => k_is)
    (case a31 => k_is)
    (case l31 => k_is)
    (case c31 => k_is)
    (case k31 => k_is)
    (case a32 => k_is)
    (case l32 => k_is)
    (case c32 => k_is)
    (case k32 => k_is)
    (case a33 => k_is)
    (case l33 => k_is)
    (case c33 => k_is)
    (case k33 => k_is)
    (case a34 => k_is)
    (case l34 => k_is)
    (case c34 => k_is)
    (case k34 => k_is)
    (case a35 => k_is)
    (case l35 => k_is)
    (case c35 => k_is)
    (case k35 => k_is)
    (case a36 => k_is)
    (case l36 => k_is)
    (case c36 => k_is)
    (case k36 => k_is)
    (case a37 => k_is)
    (case l37 => k_is)
    (case c37 => k_is)
    (case k37 => k_is)
    (case a38 => k_is)
    (case l38 => k_is)
    (case c38 => k_is)
    (case k38 => k_is)
    (case a39 => k_is)
    (case l39 => k_is)
    (case c39 => k_is)
    (case k39 => k_is)
    (case b_all => k_is)
    (case b_bool => k_is)
    (case b_enumerate => k_is)
    (case b_int => k_is)
    (case b_isinstance => k_is)
    (case b_len => k_is)
    (case b_list => k_is)
    (case b_max => k_is)
    (case b_min => k_is)
    (case b_range => k_is)
    (case b_sorted => k_is)
    (case b_str => k_is)
    (case b_sum => k_is)
    (case b_tuple => k_is)
    (case b_zip => k_is)
    (case g_THINGS => k_is)
    (case g_LATE => k_is)
    (case g_BEATS => k_is)
    (case g_CUTS => k_is)
#print axioms PySem.Challenge.cw_askahead_k02_whole_ways_holds

