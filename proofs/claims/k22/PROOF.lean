import PyProof.Rows.All
import HandS.ForMost
import HandS.ForExc
import HandS.Conv
import HandS.Zip
import HandS.Defaults
import HandS.IsInst
import HandS.Flow
import HandS.TupAny
import HandS.Deep
import HandS.Style
import HandS.Lambda
import KE.KeyNested
import HandS.Wide
import HandS.TupMul
import KE.GoesEnum
import HandS.Star
import HandS.SortInts
import HandS.NoneIn
import HandS.Ends
import HandS.EndTab
import HandS.HeadEnd
import HandS.Dict
import KE.DataCmp
import KE.SortData
import HandS.DictComp
import HandS.SetFor
import KE.KDictZip
import HandS.GenList
import HandS.TupSets
import HandS.Strs
import HandS.Nested
import HandS.ExcInit
import KE.KExcSuper
import KE.KExcIs
import HandS.ExcField
import HandS.HeadHook1
import HandS.HeadHook2
import HandS.HeadHook3
import HandS.HeadHook4
import HandS.Property
import KE.DatumOrd
import HandS.Text
import HandS.RaiseMore
import HandS.Iter
import HandS.HotCalls
import HandS.ExcInitHot
import KE.KTupSum
import HandS.FStr
import KE.KxIndex
import HandS.MakeKw
import HandS.Head0
import HandS.Head1
import HandS.Head2
import KE.SortCalls
import PySem.Challenge.RW_neverbest_k22_weak_strikes_told
set_option Elab.async false
set_option linter.all false
set_option maxRecDepth 100000
/-! Pv, part A: data, worlds, outcomes. -/
namespace Pv
open PySem PySem.Spec PyProof.Rows L2

abbrev PD := PyData
/-- what is told of a dict of draws: what it will give -/
class Fed where
  P : List (PD × PD) → List (Int × Int) → Prop
  /-- the classes of errors, their fields (the last one first) -/
  xc : PySem.W.Frag → Nat → Addr := fun _ _ => 0
  xf : Nat → List Str := fun _ => []
  /-- the tables of those that make lambdas -/
  tb : PySem.W.Frag → List (Addr × Str) := fun _ => []
  /-- the defs that may be held by a name -/
  fa : PySem.W.Frag → Nat → Addr := fun _ _ => 0
  /-- the plain classes -/
  kc : PySem.W.Frag → Nat → Addr := fun _ _ => 0
/-- what a slot holds: data, or an object of the abstract heap -/
inductive Sl where
  | dat (d : PD) | obj (k : Nat) | scr (ns : List Int) | rep (d : PD) | exv (c : Nat) (fs : List PD) | fnv (i : Nat) | tpn (ds : List PD) | dcn (kvs : List (PD × PD)) | unk | anyI (n : Int)
/-- an object that may change -/
inductive AO where
  | lst (xs : List PD) | dct (kvs : List (PD × PD)) | frz (d : PD) | fed (os : List (Int × Int)) (qs : List Int) | dead | ins (c : Nat) (fs : List (Str × PD))
abbrev AH := List AO
inductive Res (α : Type) where
  | ok (a : α) (h : AH) | exc (c : Nat) (fs : List PD) (h : AH) | no
abbrev Ev := List (Option Sl)
abbrev Ex := Ev → AH → Res Sl
abbrev Tx := Ev → AH → Res Bool
abbrev Ax := Ev → AH → Res (List Sl)
def Res.bind {α β : Type} : Res α → (α → AH → Res β) → Res β
  | .ok a h, f => f a h
  | .exc c fs h, _ => .exc c fs h
  | .no, _ => .no

/-- constants of the run: the written part, the classes of errors and their fields -/
structure Cn where
  K : PySem.W.Frag
/-- neither a table nor a thing told by what is true of it -/
structure NoX (o : HO) : Prop where
  tbl : ∀ ps, o ≠ .tbl ps
  ext : ∀ c q, o ≠ LamX.CodeO c q
  own : ∀ x, o ≠ .own x
/-- an exception that is kept as a value: its object -/
def exU (a : Addr) : HO := .ext fun h => ∃ o, h.get? a = some o

structure Gr (F U F' U' : Hp) : Prop where
  f : Same F F'
  u : Same U U'
  n : ∀ a o, U a = some o → F' a = some o → F a = some o
theorem Gr.refl [Fed] {F U : Hp} : Gr F U F U := ⟨Same.refl _, Same.refl _, fun _ _ _ h => h⟩
theorem Gr.trans [Fed] {F U F1 U1 F2 U2 : Hp} (a : Gr F U F1 U1) (b : Gr F1 U1 F2 U2) : Gr F U F2 U2 :=
  ⟨a.f.trans b.f, a.u.trans b.u, fun x o h1 h2 => a.n x o h1 (b.n x o (a.u _ _ h1) h2)⟩

theorem sqT_mono [Fed] {K : PySem.W.Frag} {H H' : Hp} {a : Addr} {xs : List V} (e : Same H H') (h : SqT K H a xs) : SqT K H' a xs := by
  rcases h with (h | ⟨o, h⟩) | h
  · exact .inl (.inl (e _ _ h))
  · exact .inl (.inr ⟨o, e _ _ h⟩)
  · exact .inr h
def keyD : Key → PD
  | .inl i => .int i
  | .inr x => .str x
mutual
/-- data: frozen, at any depth -/
inductive RD (K : PySem.W.Frag) (F : Hp) : V → PD → Prop
  | non : RD K F .non .none
  | bl (b : Bool) : RD K F (.bl b) (.bool b)
  | int (i : Int) : RD K F (.int i) (.int i)
  | str (x : Str) : RD K F (.str x) (.str x)
  | lst {a : Addr} {xs : List V} {ds : List PD} : F a = some (.lst xs) → RDs K F xs ds → RD K F (.ref a) (.list ds)
  | tup {a : Addr} {xs : List V} {ds : List PD} : SqT K F a xs → RDs K F xs ds → RD K F (.ref a) (.tuple ds)
  | dct {a : Addr} {kvs : List (Key × V)} {kds : List (PD × PD)} : F a = some (.dK kvs) → RKs K F kvs kds → RD K F (.ref a) (.dict kds)
inductive RDs (K : PySem.W.Frag) (F : Hp) : List V → List PD → Prop
  | nil : RDs K F [] []
  | cons {v : V} {vs : List V} {d : PD} {ds : List PD} : RD K F v d → RDs K F vs ds → RDs K F (v :: vs) (d :: ds)
inductive RKs (K : PySem.W.Frag) (F : Hp) : List (Key × V) → List (PD × PD) → Prop
  | nil : RKs K F [] []
  | cons {k : Key} {v : V} {kvs : List (Key × V)} {d : PD} {kds : List (PD × PD)} : RD K F v d → RKs K F kvs kds → RKs K F ((k, v) :: kvs) ((keyD k, d) :: kds)
end
mutual
theorem RD.mono [Fed] {K : PySem.W.Frag} {H H' : Hp} (e : Same H H') : ∀ {v : V} {d : PD}, RD K H v d → RD K H' v d
  | _, _, .non => .non
  | _, _, .bl b => .bl b
  | _, _, .int i => .int i
  | _, _, .str x => .str x
  | _, _, .lst h a => .lst (e _ _ h) (RDs.mono e a)
  | _, _, .tup h a => .tup (sqT_mono e h) (RDs.mono e a)
  | _, _, .dct h a => .dct (e _ _ h) (RKs.mono e a)
theorem RKs.mono [Fed] {K : PySem.W.Frag} {H H' : Hp} (e : Same H H') : ∀ {vs : List (Key × V)} {ds : List (PD × PD)}, RKs K H vs ds → RKs K H' vs ds
  | _, _, .nil => .nil
  | _, _, .cons a b => .cons (RD.mono e a) (RKs.mono e b)
theorem RDs.mono [Fed] {K : PySem.W.Frag} {H H' : Hp} (e : Same H H') : ∀ {vs : List V} {ds : List PD}, RDs K H vs ds → RDs K H' vs ds
  | _, _, .nil => .nil
  | _, _, .cons a b => .cons (RD.mono e a) (RDs.mono e b)
end
mutual
theorem RD.dp [Fed] {K : PySem.W.Frag} {H H' : Hp} (e : Same H H') : ∀ {v : V} {d : PD}, RD K H v d → d.canLay0 = true → Dp K H' v d
  | _, _, .non, _ => .non
  | _, _, .bl b, _ => .bl b
  | _, _, .int i, _ => .int i
  | _, _, .str x, _ => .str x
  | _, _, .lst h a, c => .lst (.inl (.inl (e _ _ h))) (RDs.dp e a (by simpa [PyData.canLay0] using c))
  | _, _, .tup h a, c => .tup (sqT_mono e h) (RDs.dp e a (by simpa [PyData.canLay0] using c))
  | _, _, .dct h a, c => by simp [PyData.canLay0] at c
theorem RDs.dp [Fed] {K : PySem.W.Frag} {H H' : Hp} (e : Same H H') : ∀ {vs : List V} {ds : List PD}, RDs K H vs ds → PyData.canLayAll0 ds = true → DpAll K H' vs ds
  | _, _, .nil, _ => .nil
  | _, _, .cons a b, c => by
    simp only [PyData.canLayAll0, Bool.and_eq_true] at c
    exact .cons (RD.dp e a c.1) (RDs.dp e b c.2)
end
theorem RDs.len [Fed] {K : PySem.W.Frag} {H : Hp} : ∀ {vs : List V} {ds : List PD}, RDs K H vs ds → vs.length = ds.length
  | _, _, .nil => rfl
  | _, _, .cons _ b => congrArg Nat.succ b.len
theorem RDs.app [Fed] {K : PySem.W.Frag} {H : Hp} : ∀ {vs ws : List V} {ds es : List PD}, RDs K H vs ds → RDs K H ws es → RDs K H (vs ++ ws) (ds ++ es)
  | _, _, _, _, .nil, b => b
  | _, _, _, _, .cons a r, b => .cons a (r.app b)
theorem RDs.get [Fed] {K : PySem.W.Frag} {H : Hp} : ∀ {vs : List V} {ds : List PD} {i : Nat} {d : PD}, RDs K H vs ds → ds[i]? = some d → ∃ v, vs[i]? = some v ∧ RD K H v d
  | _, _, _, _, .nil, e => by simp at e
  | _, _, 0, _, .cons a r, e => by simp at e; subst e; exact ⟨_, rfl, a⟩
  | _, _, i + 1, d, .cons a r, e => by
    obtain ⟨v, h1, h2⟩ := RDs.get (i := i) (d := d) r (by simpa using e)
    exact ⟨v, by simpa using h1, h2⟩
theorem RDs.drop [Fed] {K : PySem.W.Frag} {H : Hp} : ∀ {vs : List V} {ds : List PD} (n : Nat), RDs K H vs ds → RDs K H (vs.drop n) (ds.drop n)
  | _, _, 0, r => r
  | _, _, _ + 1, .nil => .nil
  | _, _, n + 1, .cons _ t => t.drop n
theorem RDs.take [Fed] {K : PySem.W.Frag} {H : Hp} : ∀ {vs : List V} {ds : List PD} (n : Nat), RDs K H vs ds → RDs K H (vs.take n) (ds.take n)
  | _, _, 0, _ => .nil
  | _, _, _ + 1, .nil => .nil
  | _, _, n + 1, .cons r t => .cons r (t.take n)
theorem RDs.rep [Fed] {K : PySem.W.Frag} {H : Hp} {vs : List V} {ds : List PD} (r : RDs K H vs ds) : ∀ n : Nat, RDs K H (List.replicate n vs).flatten (List.replicate n ds).flatten
  | 0 => .nil
  | n + 1 => by rw [List.replicate_succ, List.replicate_succ, List.flatten_cons, List.flatten_cons]; exact r.app (RDs.rep r n)
theorem RDs.ints [Fed] {K : PySem.W.Frag} {H : Hp} : ∀ ns : List Int, RDs K H (ns.map V.int) (ns.map PyData.int)
  | [] => .nil
  | n :: ns => .cons (.int n) (RDs.ints ns)
theorem RDs.set [Fed] {K : PySem.W.Frag} {H : Hp} {v : V} {d : PD} (r : RD K H v d) : ∀ {vs : List V} {ds : List PD} (i : Nat), RDs K H vs ds → RDs K H (vs.set i v) (ds.set i d)
  | _, _, _, .nil => .nil
  | _, _, 0, .cons _ t => .cons r t
  | _, _, i + 1, .cons q t => .cons q (RDs.set r i t)

/-- all that may come of the asked -/
def combos : List Int → List (List (Int × Int))
  | [] => [[]]
  | q :: qs => (List.range q.toNat).flatMap fun (n : Nat) => (combos qs).map fun os => (q, Int.ofNat n) :: os
def ObjR [Fed] (K : PySem.W.Frag) (F U H : Hp) (a : Addr) : AO → Prop
  | .lst ds => U a = none ∧ ∃ vs, H a = some (.lst vs) ∧ RDs K F vs ds
  | .dct kvs => U a = none ∧ ∃ vs : List (Key × V), H a = some (.dK vs) ∧ RKs K F vs kvs
  | .frz d => RD K F (.ref a) d
  | .fed os qs => U a = none ∧ ∃ (vs : List (Key × V)) (kvs : List (PD × PD)), H a = some (.dK vs) ∧ RKs K F vs kvs ∧ ∃ os2 ∈ combos qs, Fed.P kvs (os ++ os2)
  | .dead => True
  | .ins c fs => U a = none ∧ ∃ (dx : Addr) (vs : List V), H a = some (.ins (Fed.kc K c) dx ((fs.map (·.1)).zip vs)) ∧ H dx = some (.own a) ∧ RDs K F vs (fs.map (·.2))
theorem ObjR.mono [Fed] {K : PySem.W.Frag} {F F' U U' H H' : Hp} {a : Addr} {o : AO} (e : Same F F') (u : U a = none → U' a = none) (h : U a = none → H' a = H a) (ow : ∀ d, H d = some (.own a) → H' d = some (.own a)) (r : ObjR K F U H a o) : ObjR K F' U' H' a o := by
  cases o with
  | lst ds => obtain ⟨h0, vs, h1, h2⟩ := r; exact ⟨u h0, vs, (h h0).trans h1, RDs.mono e h2⟩
  | dct kvs => obtain ⟨h0, vs, h1, h2⟩ := r; exact ⟨u h0, vs, (h h0).trans h1, RKs.mono e h2⟩
  | frz d => exact RD.mono e r
  | fed os qs => obtain ⟨h0, vs, kvs, h1, h2, h3⟩ := r; exact ⟨u h0, vs, kvs, (h h0).trans h1, RKs.mono e h2, h3⟩
  | dead => trivial
  | ins c fs => obtain ⟨h0, dx, vs, h1, h2, h3⟩ := r; exact ⟨u h0, dx, vs, (h h0).trans h1, ow _ h2, RDs.mono e h3⟩

structure Lk [Fed] (K : PySem.W.Frag) (F U : Hp) (μ : List Addr) (H : Hp) (h : AH) : Prop where
  fu : Same F U
  uh : Same U H
  nod : μ.Nodup
  len : μ.length = h.length
  trk : ∀ a ∈ μ, ∃ o, H a = some o ∧ NoX o
  obj : ∀ (k : Nat) a o, μ[k]? = some a → h[k]? = some o → ObjR K F U H a o
  tab : LamX.Tabs (Fed.tb K) H
  ntb : ∀ b ps, U b ≠ some (.tbl ps)
theorem Lk.fh [Fed] {K : PySem.W.Frag} {F U H : Hp} {μ : List Addr} {h : AH} (l : Lk K F U μ H h) : Same F H := l.fu.trans l.uh

/-! ### dicts whose keys are tuples -/
mutual
def nkey : PD → Option NestedKey
  | .int i => some (.num i)
  | .tuple ds => match nkeys ds with
    | some ks => some (.tup ks)
    | none => none
  | _ => none
def nkeys : List PD → Option (List NestedKey)
  | [] => some []
  | d :: ds => match nkey d, nkeys ds with
    | some k, some ks => some (k :: ks)
    | _, _ => none
end
/-- a dict at a with the keys, their addresses, the values of L -/
def DN (a : Addr) (L : List (NestedKey × Addr × V)) (h : Heap) : Prop := L.length ≤ sizeLine ∧ (a == sysModules) = false ∧ (L.map (·.1)).Nodup ∧
  ∃ (xs : List (NestedKey × Addr × Value)) (o : Obj) (es : Array DictEntry) (ep : Nat), Paired (fun (p : NestedKey × Addr × V) (q : NestedKey × Addr × Value) => p.1 = q.1 ∧ p.2.1 = q.2.1 ∧ RelV p.2.2 q.2.2) L xs ∧
    h.get? a = some o ∧ o.ExactDict ∧ o.data = .dict es ep ∧ ∀ w : World, es.toList = xs.map fun x => ⟨x.1.hash w, .ref x.2.1, x.2.2⟩
def dnO (a : Addr) (L : List (NestedKey × Addr × V)) : HO := .ext (DN a L)
inductive RN (K : PySem.W.Frag) (F : Hp) : List (NestedKey × Addr × V) → List (PD × PD) → Prop
  | nil : RN K F [] []
  | cons {k : NestedKey} {a : Addr} {v : V} {dk d : PD} {L : List (NestedKey × Addr × V)} {kvs : List (PD × PD)} : nkey dk = some k → k.depth ≤ 8 → RD K F (.ref a) dk → RD K F v d → RN K F L kvs → RN K F ((k, a, v) :: L) ((dk, d) :: kvs)
theorem RN.mono [Fed] {K : PySem.W.Frag} {H H' : Hp} (e : Same H H') : ∀ {L : List (NestedKey × Addr × V)} {kvs : List (PD × PD)}, RN K H L kvs → RN K H' L kvs
  | _, _, .nil => .nil
  | _, _, .cons a b c d r => .cons a b (c.mono e) (d.mono e) (r.mono e)
def SlR [Fed] (K : PySem.W.Frag) (F : Hp) (μ : List Addr) (v : V) : Sl → Prop
  | .dat d => RD K F v d
  | .obj k => ∃ a, μ[k]? = some a ∧ v = .ref a
  | .scr ns => ∃ a, v = .ref a ∧ SqL K F a (ns.map V.int)
  | .rep d => v = .str d.shown
  | .exv c fs => ∃ (a dd : Addr) (oe : Obj) (us : Array Value) (vs : List V), v = .ref a ∧ F a = some (.frz oe (exU a)) ∧ oe.cls = .ref (Fed.xc K c) ∧ oe.dict = some dd ∧ oe.data = .fields us ∧ F dd = some (.xd ((Fed.xf c).zip vs)) ∧ RDs K F vs fs ∧ (Fed.xf c).length = fs.length
  | .fnv i => v = .ref (Fed.fa K i)
  | .tpn ds => ∃ (a : Addr) (oe : Obj) (vs : List V), v = .ref a ∧ F a = some (.frz oe (.tup vs)) ∧ oe.dict = none ∧ RDs K F vs ds
  | .dcn kvs => ∃ (a : Addr) (L : List (NestedKey × Addr × V)), v = .ref a ∧ F a = some (dnO a L) ∧ RN K F L kvs
  | .unk => True
  | .anyI n => ∃ i : Int, v = .int i ∧ 0 ≤ i ∧ i < n
theorem pre_get [Fed] {μ μ' : List Addr} {k : Nat} {a : Addr} (p : μ <+: μ') (h : μ[k]? = some a) : μ'[k]? = some a := by
  obtain ⟨t, rfl⟩ := p
  obtain ⟨h1, h2⟩ := List.getElem?_eq_some_iff.mp h
  rw [List.getElem?_append_left h1]
  exact h
theorem SlR.mono [Fed] {K : PySem.W.Frag} {F F' : Hp} {μ μ' : List Addr} {v : V} {x : Sl} (e : Same F F') (p : μ <+: μ') (r : SlR K F μ v x) : SlR K F' μ' v x := by
  cases x with
  | dat d => exact RD.mono e r
  | obj k => obtain ⟨a, h1, h2⟩ := r; exact ⟨a, pre_get p h1, h2⟩
  | scr ns => obtain ⟨a, h1, h2⟩ := r; exact ⟨a, h1, e.seq h2⟩
  | rep d => exact r
  | exv c fs => obtain ⟨a, dd, oe, us, vs, h1, h2, h3, h4, h5, h6, h7, h8⟩ := r; exact ⟨a, dd, oe, us, vs, h1, e _ _ h2, h3, h4, h5, e _ _ h6, RDs.mono e h7, h8⟩
  | fnv i => exact r
  | tpn ds => obtain ⟨a, oe, vs, h1, h2, h3, h4⟩ := r; exact ⟨a, oe, vs, h1, e _ _ h2, h3, RDs.mono e h4⟩
  | dcn kvs => obtain ⟨a, L, h1, h2, h3⟩ := r; exact ⟨a, L, h1, e _ _ h2, h3.mono e⟩
  | unk => trivial
  | anyI n => exact r
abbrev SlRs [Fed] (K : PySem.W.Frag) (F : Hp) (μ : List Addr) : List V → List Sl → Prop := Paired (SlR K F μ)
theorem SlRs.mono [Fed] {K : PySem.W.Frag} {F F' : Hp} {μ μ' : List Addr} {vs : List V} {xs : List Sl} (e : Same F F') (p : μ <+: μ') (r : SlRs K F μ vs xs) : SlRs K F' μ' vs xs :=
  Paired.mapP r fun _ _ z => z.mono e p
def EvR [Fed] (K : PySem.W.Frag) (F : Hp) (μ : List Addr) (σ : L2.St) (env : Ev) : Prop :=
  σ.length = env.length ∧ ∀ (i : Nat) x, env[i]? = some (some x) → ∃ v, σ[i]? = some (some v) ∧ SlR K F μ v x
theorem EvR.mono [Fed] {K : PySem.W.Frag} {F F' : Hp} {μ μ' : List Addr} {σ : L2.St} {env : Ev} (e : Same F F') (p : μ <+: μ') (r : EvR K F μ σ env) : EvR K F' μ' σ env :=
  ⟨r.1, fun i x h => let ⟨v, h1, h2⟩ := r.2 i x h; ⟨v, h1, h2.mono e p⟩⟩

/-- an error as it stands: its class, its own dict -/
def ExR [Fed] (C : Cn) (F U H : Hp) (c : Nat) (fs : List PD) (cls : Value) (d : Option Addr) : Prop :=
  cls = .ref (Fed.xc C.K c) ∧ ∃ (dd : Addr) (vs : List V), d = some dd ∧ F dd = some (.xd ((Fed.xf c).zip vs)) ∧ RDs C.K F vs fs ∧ (Fed.xf c).length = fs.length

/-- the outcome r is good: what comes of it satisfies Q (or W, an error) -/
def Out [Fed] {α β : Type} (C : Cn) (F U : Hp) (μ : List Addr) (W : Value → Option Addr → Hp → Prop) (R : α → Hp → Hp → List Addr → β → Prop) (Q : β → Hp → Prop) : Res α → Prop
  | .ok a h' => ∀ b F' U' μ' H', Gr F U F' U' → μ <+: μ' → Lk C.K F' U' μ' H' h' → R a F' U' μ' b → Q b H'
  | .exc c fs h' => ∀ cls d F' U' μ' H', Gr F U F' U' → μ <+: μ' → Lk C.K F' U' μ' H' h' → ExR C F' U' H' c fs cls d → W cls d H'
  | .no => False
section
variable {α β γ δ : Type} {C : Cn} {F U F' U' : Hp} {μ μ' : List Addr} {W : Value → Option Addr → Hp → Prop} {R : α → Hp → Hp → List Addr → β → Prop} {Q : β → Hp → Prop}
theorem Out.mono [Fed] {r : Res α} (g : Gr F U F' U') (p : μ <+: μ') (o : Out C F U μ W R Q r) : Out C F' U' μ' W R Q r := by
  cases r with
  | ok a h' => exact fun b F2 U2 μ2 H2 g2 p2 => o b F2 U2 μ2 H2 (g.trans g2) (p.trans p2)
  | exc c fs h' => exact fun cls d F2 U2 μ2 H2 g2 p2 => o cls d F2 U2 μ2 H2 (g.trans g2) (p.trans p2)
  | no => exact o
theorem Out.bind [Fed] {R2 : γ → Hp → Hp → List Addr → δ → Prop} {Q2 : δ → Hp → Prop} {r : Res α} {f : α → AH → Res γ} (o : Out C F U μ W R2 Q2 (r.bind f))
    (h : ∀ a b F' U' μ' H' h', Gr F U F' U' → μ <+: μ' → Lk C.K F' U' μ' H' h' → R a F' U' μ' b → Out C F' U' μ' W R2 Q2 (f a h') → Q b H') : Out C F U μ W R Q r := by
  cases r with
  | ok a h' => exact fun b F2 U2 μ2 H2 g2 p2 l2 r2 => h a b F2 U2 μ2 H2 h' g2 p2 l2 r2 (Out.mono (r := f a h') g2 p2 o)
  | exc c fs h' => exact o
  | no => exact o
end

abbrev rSl [Fed] (K : PySem.W.Frag) : Sl → Hp → Hp → List Addr → V → Prop := fun x F _ μ v => SlR K F μ v x
abbrev rBo : Bool → Hp → Hp → List Addr → Bool → Prop := fun b _ _ _ b' => b' = b
abbrev rSls [Fed] (K : PySem.W.Frag) : List Sl → Hp → Hp → List Addr → List V → Prop := fun xs F _ μ vs => SlRs K F μ vs xs

/-! ### readings -/
def rdG [Fed] {α β : Type} (C : Cn) (Wx : XK) (R : α → Hp → Hp → List Addr → β → Prop) (t : Ev → AH → Res α) : L2.St → Hp → (β → Hp → Prop) → Prop := fun σ H Q =>
  ∃ F U μ env h, Lk C.K F U μ H h ∧ EvR C.K F μ σ env ∧ Out C F U μ Wx R Q (t env h)
abbrev rdE [Fed] (C : Cn) (Wx : XK) (t : Ex) : TE := rdG C Wx (rSl C.K) t
abbrev rdT [Fed] (C : Cn) (Wx : XK) (t : Tx) : TT := rdG C Wx rBo t
abbrev rdA [Fed] (C : Cn) (Wx : XK) (t : Ax) : TA := rdG C Wx (rSls C.K) t

/-- one step: t is evaluated, then f goes on -/
theorem rd_step [Fed] {α β γ δ : Type} {C : Cn} {Wx : XK} {R : α → Hp → Hp → List Addr → β → Prop} {t : Ev → AH → Res α} {σ : L2.St} {F U H : Hp} {μ : List Addr} {env : Ev} {h : AH} {f : α → AH → Res γ}
    {R2 : γ → Hp → Hp → List Addr → δ → Prop} {Q2 : δ → Hp → Prop} {K1 : β → Hp → Prop} (l : Lk C.K F U μ H h) (e : EvR C.K F μ σ env) (o : Out C F U μ Wx R2 Q2 ((t env h).bind f))
    (k : ∀ a b F' U' μ' H' h', Gr F U F' U' → μ <+: μ' → Lk C.K F' U' μ' H' h' → R a F' U' μ' b → EvR C.K F' μ' σ env → Out C F' U' μ' Wx R2 Q2 (f a h') → K1 b H') : rdG C Wx R t σ H K1 :=
  ⟨F, U, μ, env, h, l, e, o.bind fun a b F' U' μ' H' h' g p l' r o' => k a b F' U' μ' H' h' g p l' r (e.mono g.f p) o'⟩

structure SE [Fed] (C : Cn) (Wx : XK) (X : Cx) (e : Expr) (t : Ex) : Prop where pe : PE X e (rdE C Wx t)
structure STt [Fed] (C : Cn) (Wx : XK) (X : Cx) (e : Expr) (t : Tx) : Prop where pt : PT X e (rdT C Wx t)
structure SA [Fed] (C : Cn) (Wx : XK) (X : Cx) (es : List Expr) (t : Ax) : Prop where pa : PA X es (rdA C Wx t)
theorem pe_imp [Fed] {X : Cx} {e : Expr} {t t' : TE} (h : PE X e t) (i : ∀ σ H Q, t' σ H Q → t σ H Q) : PE X e t' := ⟨fun pins s σ H Q I q => h.run pins s σ H Q I (i _ _ _ q)⟩
theorem pt_imp [Fed] {X : Cx} {e : Expr} {t t' : TT} (h : PT X e t) (i : ∀ σ H Q, t' σ H Q → t σ H Q) : PT X e t' := ⟨fun pins s σ H Q I q => h.run pins s σ H Q I (i _ _ _ q)⟩
theorem pa_imp [Fed] {X : Cx} {e : List Expr} {t t' : TA} (h : PA X e t) (i : ∀ σ H Q, t' σ H Q → t σ H Q) : PA X e t' := ⟨fun pos pins s σ H Q I q => h.run pos pins s σ H Q I (i _ _ _ q)⟩
theorem ps_imp [Fed] {X : Cx} {e : Stmt} {t t' : TS} (h : PS X e t) (i : ∀ D σ H, t' D σ H → t D σ H) : PS X e t' := ⟨fun pins s σ H D I q => h.run pins s σ H D I (i _ _ _ q)⟩
theorem pss_imp [Fed] {X : Cx} {e : List Stmt} {t t' : TS} (h : PSs X e t) (i : ∀ D σ H, t' D σ H → t D σ H) : PSs X e t' := ⟨fun pins s σ H D I q => h.run pins s σ H D I (i _ _ _ q)⟩
theorem rdG_mono [Fed] {α β : Type} {C : Cn} {Wx : XK} {R : α → Hp → Hp → List Addr → β → Prop} {t : Ev → AH → Res α} {σ : L2.St} {H : Hp} {Q Q' : β → Hp → Prop} (h : rdG C Wx R t σ H Q) (i : ∀ b H', Q b H' → Q' b H') : rdG C Wx R t σ H Q' := by
  obtain ⟨F, U, μ, env, hh, l, e, o⟩ := h
  refine ⟨F, U, μ, env, hh, l, e, ?_⟩
  cases q : t env hh with
  | ok a h' => rw [q] at o; exact fun b F' U' μ' H' g p l' r => i _ _ (o b F' U' μ' H' g p l' r)
  | exc c fs h' => rw [q] at o; exact o
  | no => rw [q] at o; exact o

/-! ### views -/
def vw : Sl → AH → Option PD
  | .dat d, _ => some d
  | .obj k, h => match h[k]? with
    | some (.lst xs) => some (.list xs)
    | some (.dct kvs) => some (.dict kvs)
    | some (.frz (.list xs)) => some (.list xs)
    | some (.frz (.dict kvs)) => some (.dict kvs)
    | _ => none
  | .scr ns, _ => some (.list (ns.map PyData.int))
  | .rep _, _ => none
  | .exv _ _, _ => none
  | .fnv _, _ => none
  | .tpn ds, _ => some (.tuple ds)
  | .dcn _, _ => none
  | .unk, _ => none
  | .anyI _, _ => none
/-- a value whose parts are frozen -/
inductive VwR (K : PySem.W.Frag) (F H : Hp) : V → PD → Prop
  | non : VwR K F H .non .none
  | bl (b : Bool) : VwR K F H (.bl b) (.bool b)
  | int (i : Int) : VwR K F H (.int i) (.int i)
  | str (x : Str) : VwR K F H (.str x) (.str x)
  | lst {a : Addr} {xs : List V} {ds : List PD} : SqL K H a xs → RDs K F xs ds → VwR K F H (.ref a) (.list ds)
  | tup {a : Addr} {xs : List V} {ds : List PD} : SqT K H a xs → RDs K F xs ds → VwR K F H (.ref a) (.tuple ds)
  | dct {a : Addr} {kvs : List (Key × V)} {kds : List (PD × PD)} : H a = some (.dK kvs) → RKs K F kvs kds → VwR K F H (.ref a) (.dict kds)
theorem VwR.of [Fed] {K : PySem.W.Frag} {F H : Hp} (e : Same F H) {v : V} {d : PD} (h : RD K F v d) : VwR K F H v d := by
  cases h with
  | non => exact .non
  | bl b => exact .bl b
  | int i => exact .int i
  | str x => exact .str x
  | lst h a => exact .lst (.inl (.inl (e _ _ h))) a
  | tup h a => exact .tup (sqT_mono e h) a
  | dct h a => exact .dct (e _ _ h) a
theorem VwR.dp [Fed] {K : PySem.W.Frag} {F H : Hp} (e : Same F H) {v : V} {d : PD} (h : VwR K F H v d) (c : d.canLay0 = true) : Dp K H v d := by
  cases h with
  | non => exact .non
  | bl b => exact .bl b
  | int i => exact .int i
  | str x => exact .str x
  | lst h a => exact .lst h (RDs.dp e a (by simpa [PyData.canLay0] using c))
  | tup h a => exact .tup h (RDs.dp e a (by simpa [PyData.canLay0] using c))
  | dct h a => simp [PyData.canLay0] at c
theorem vw_ok [Fed] {K : PySem.W.Frag} {F U H : Hp} {μ : List Addr} {h : AH} {v : V} {x : Sl} {d : PD} (l : Lk K F U μ H h) (r : SlR K F μ v x) (e : vw x h = some d) : VwR K F H v d := by
  cases x with
  | dat d' =>
    have e' : d' = d := Option.some.inj e
    subst e'
    exact .of l.fh r
  | scr ns =>
    have e' : PyData.list (ns.map PyData.int) = d := Option.some.inj e
    subst e'
    obtain ⟨a, rfl, h2⟩ := r
    exact .lst (l.fh.seq h2) (RDs.ints ns)
  | rep d => cases e
  | exv c fs => cases e
  | fnv _ => cases e
  | tpn ds =>
    have e' : PyData.tuple ds = d := Option.some.inj e
    subst e'
    obtain ⟨a, oe, vs, rfl, h2, _, h4⟩ := r
    exact .tup (sqT_mono l.fh (.inl (.inr ⟨oe, h2⟩))) h4
  | dcn _ => cases e
  | unk => cases e
  | anyI _ => cases e
  | obj k =>
    obtain ⟨a, h1, rfl⟩ := r
    unfold vw at e
    dsimp only at e
    cases q : h[k]? with
    | none => rw [q] at e; cases e
    | some o =>
      rw [q] at e
      cases o with
      | lst xs =>
        have e' : PyData.list xs = d := Option.some.inj e
        subst e'
        obtain ⟨_, vs, h2, h3⟩ := l.obj k a _ h1 q
        exact .lst (.inl (.inl h2)) h3
      | dct kvs =>
        have e' : PyData.dict kvs = d := Option.some.inj e
        subst e'
        obtain ⟨_, vs, h2, h3⟩ := l.obj k a _ h1 q
        exact .dct h2 h3
      | frz d' =>
        cases d' with
        | list xs =>
          have e' : PyData.list xs = d := Option.some.inj e
          subst e'
          exact .of l.fh (l.obj k a _ h1 q)
        | dict xs =>
          have e' : PyData.dict xs = d := Option.some.inj e
          subst e'
          exact .of l.fh (l.obj k a _ h1 q)
        | _ => cases e
      | fed os qs => cases e
      | ins _ _ => cases e
      | dead => cases e
/-- a tracked list (no script) -/
def vwL : Sl → AH → Option (List PD)
  | .dat (.list xs), _ => some xs
  | .obj k, h => match h[k]? with
    | some (.lst xs) => some xs
    | some (.frz (.list xs)) => some xs
    | _ => none
  | _, _ => none
theorem vwL_ok [Fed] {K : PySem.W.Frag} {F U H : Hp} {μ : List Addr} {h : AH} {v : V} {x : Sl} {ds : List PD} (l : Lk K F U μ H h) (r : SlR K F μ v x) (e : vwL x h = some ds) : ∃ a vs, v = .ref a ∧ H a = some (.lst vs) ∧ RDs K F vs ds := by
  cases x with
  | dat d' =>
    cases d' with
    | list xs =>
      have e' : xs = ds := Option.some.inj e
      subst e'
      cases r with
      | lst h a => exact ⟨_, _, rfl, l.fh _ _ h, a⟩
    | _ => cases e
  | scr ns => cases e
  | rep d => cases e
  | exv c fs => cases e
  | fnv _ => cases e
  | tpn _ => cases e
  | dcn _ => cases e
  | unk => cases e
  | anyI _ => cases e
  | obj k =>
    obtain ⟨a, h1, rfl⟩ := r
    unfold vwL at e
    dsimp only at e
    cases q : h[k]? with
    | none => rw [q] at e; cases e
    | some o =>
      rw [q] at e
      cases o with
      | lst xs =>
        have e' : xs = ds := Option.some.inj e
        subst e'
        obtain ⟨_, vs, h2, h3⟩ := l.obj k a _ h1 q
        exact ⟨a, vs, rfl, h2, h3⟩
      | dct kvs => cases e
      | frz d =>
        cases d with
        | list xs =>
          have e' : xs = ds := Option.some.inj e
          subst e'
          have r := l.obj k a _ h1 q
          cases (show RD K F (.ref a) (.list xs) from r) with
          | lst h b => exact ⟨_, _, rfl, l.fh _ _ h, b⟩
        | _ => cases e
      | fed os qs => cases e
      | ins _ _ => cases e
      | dead => cases e
/-! ### what is made new -/
theorem same_new [Fed] {H : Hp} {p : Addr} {o : HO} (hp : H p = none) : Same H (upd H p o) := fun b x e => by
  rw [upd_ne (ne_of_none e hp)]
  exact e
theorem same_upd2 [Fed] {F H : Hp} {p : Addr} {o : HO} (s : Same F H) : Same (upd F p o) (upd H p o) := fun b x e => by
  by_cases hb : b = p
  · subst hb; rw [upd_same] at e ⊢; exact e
  · rw [upd_ne hb] at e ⊢; exact s _ _ e
theorem same_none [Fed] {F H : Hp} {p : Addr} (s : Same F H) (h : H p = none) : F p = none := s.free h
theorem ntb_upd {U : Hp} {p : Addr} {o : HO} (h : ∀ b ps, U b ≠ some (.tbl ps)) (n : ∀ ps, o ≠ .tbl ps) : ∀ b ps, upd U p o b ≠ some (.tbl ps) := fun b ps z => by
  by_cases hb : b = p
  · rw [hb, upd_same] at z
    exact n ps (Option.some.inj z)
  · rw [upd_ne hb] at z
    exact h b ps z
/-- a new frozen object -/
theorem Lk.new [Fed] {K : PySem.W.Frag} {F U H : Hp} {μ : List Addr} {h : AH} {p : Addr} {o : HO} (l : Lk K F U μ H h) (hp : H p = none) (nt : ∀ ps, o ≠ .tbl ps := by exact fun _ z => (nomatch z)) :
    Gr F U (upd F p o) (upd U p o) ∧ Lk K (upd F p o) (upd U p o) μ (upd H p o) h := by
  have hU := same_none l.uh hp
  have hF := same_none l.fu hU
  refine ⟨⟨same_new hF, same_new hU, fun a x h1 h2 => ?_⟩, ⟨same_upd2 l.fu, same_upd2 l.uh, l.nod, l.len, fun a ha => ?_, fun k a x h1 h2 => ?_, l.tab.ext (same_new hp), ntb_upd l.ntb nt⟩⟩
  · rw [upd_ne (ne_of_none h1 hU)] at h2
    exact h2
  · obtain ⟨x, e, en⟩ := l.trk a ha
    exact ⟨x, by rw [upd_ne (ne_of_none e hp)]; exact e, en⟩
  · obtain ⟨y, e, _⟩ := l.trk a (List.mem_of_getElem? h1)
    have hne : a ≠ p := ne_of_none e hp
    exact (l.obj k a x h1 h2).mono (same_new hF) (fun z => by rw [upd_ne hne]; exact z) (fun _ => upd_ne hne) fun d e => by rw [upd_ne (ne_of_none e hp)]; exact e
/-- a new object that may change -/
theorem Lk.newO [Fed] {K : PySem.W.Frag} {F U H : Hp} {μ : List Addr} {h : AH} {p : Addr} {o : HO} {a' : AO} (l : Lk K F U μ H h) (hp : H p = none) (r : ObjR K F U (upd H p o) p a') (no : NoX o := by exact ⟨fun _ z => (nomatch z), fun _ _ z => (by unfold LamX.CodeO at z; cases z), fun _ z => (nomatch z)⟩) :
    Lk K F U (μ ++ [p]) (upd H p o) (h ++ [a']) := by
  have hU := same_none l.uh hp
  refine ⟨l.fu, l.uh.trans (same_new hp), ?_, by rw [List.length_append, List.length_append, l.len]; rfl, fun a ha => ?_, fun k a x h1 h2 => ?_, l.tab.ext (same_new hp), l.ntb⟩
  · refine List.nodup_append.mpr ⟨l.nod, by simp, fun a ha b hb => ?_⟩
    obtain ⟨x, e, _⟩ := l.trk a ha
    have : b = p := by simpa using hb
    subst this
    exact ne_of_none e hp
  · rcases List.mem_append.mp ha with ha | ha
    · obtain ⟨x, e, en⟩ := l.trk a ha
      exact ⟨x, by rw [upd_ne (ne_of_none e hp)]; exact e, en⟩
    · have : a = p := by simpa using ha
      subst this
      exact ⟨o, upd_same, no⟩
  · by_cases hk : k < h.length
    · rw [List.getElem?_append_left hk] at h2
      rw [List.getElem?_append_left (by rw [l.len]; exact hk)] at h1
      obtain ⟨y, e, _⟩ := l.trk a (List.mem_of_getElem? h1)
      have hne : a ≠ p := ne_of_none e hp
      exact (l.obj k a x h1 h2).mono (Same.refl _) id (fun _ => upd_ne hne) fun d e => by rw [upd_ne (ne_of_none e hp)]; exact e
    · have hlen : k < (h ++ [a']).length := (List.getElem?_eq_some_iff.mp h2).1
      rw [List.length_append] at hlen
      have ek : k = h.length := by simp at hlen; omega
      subst ek
      rw [List.getElem?_append_right (Nat.le_refl _)] at h2
      rw [← l.len, List.getElem?_append_right (Nat.le_refl _)] at h1
      simp at h1 h2
      subst h1 h2
      exact r
theorem tabs_put {T : List (Addr × Str)} {H : Hp} {a : Addr} {o o' : HO} (t : LamX.Tabs T H) (h : H a = some o) (n : NoX o) : LamX.Tabs T (upd H a o') := fun p hp => by
  obtain ⟨ps, h1, h2, h3⟩ := t p hp
  refine ⟨ps, ?_, h2, fun pos cv hc => ?_⟩
  · rw [upd_ne (fun z => n.tbl ps (by rw [z, h] at h1; exact Option.some.inj h1))]
    exact h1
  · obtain ⟨c, e1, e2⟩ := h3 pos cv hc
    refine ⟨c, e1, ?_⟩
    rw [upd_ne (fun z => n.ext _ _ (by rw [z, h] at e2; exact Option.some.inj e2))]
    rw [e2]
/-- an object is changed -/
theorem Lk.put [Fed] {K : PySem.W.Frag} {F U H : Hp} {μ : List Addr} {h : AH} {k : Nat} {a : Addr} {x x' : AO} {o : HO} (l : Lk K F U μ H h) (h1 : μ[k]? = some a) (h2 : h[k]? = some x) (hU : U a = none) (r : ObjR K F U (upd H a o) a x') (no : NoX o := by exact ⟨fun _ z => (nomatch z), fun _ _ z => (by unfold LamX.CodeO at z; cases z), fun _ z => (nomatch z)⟩) :
    Lk K F U μ (upd H a o) (h.set k x') := by
  obtain ⟨oa, eoa, na⟩ := l.trk a (List.mem_of_getElem? h1)
  refine ⟨l.fu, fun b y e => ?_, l.nod, by rw [List.length_set, l.len], fun b hb => ?_, fun j b y g1 g2 => ?_, tabs_put l.tab eoa na, l.ntb⟩
  · rw [upd_ne (ne_of_none e hU)]
    exact l.uh _ _ e
  · by_cases e : b = a
    · exact ⟨o, by rw [e, upd_same], no⟩
    · obtain ⟨y, q, qn⟩ := l.trk b hb
      exact ⟨y, by rw [upd_ne e]; exact q, qn⟩
  · by_cases e : j = k
    · subst e
      rw [h1] at g1; cases g1
      rw [List.getElem?_set_self (List.getElem?_eq_some_iff.mp h2).1] at g2
      cases g2
      exact r
    · rw [List.getElem?_set_ne (Ne.symm e)] at g2
      have hne : b ≠ a := fun z => e (by
        subst z
        obtain ⟨b1, c1⟩ := List.getElem?_eq_some_iff.mp g1
        obtain ⟨b2, c2⟩ := List.getElem?_eq_some_iff.mp h1
        exact (List.getElem_inj l.nod).mp (c1.trans c2.symm))
      exact (l.obj j b y g1 g2).mono (Same.refl _) id (fun _ => upd_ne hne) fun d e => by
        rw [upd_ne (fun z => na.own b (by rw [z, eoa] at e; exact Option.some.inj e))]
        exact e
/-- an object is frozen: from now on its content is data -/
theorem Lk.frzO [Fed] {K : PySem.W.Frag} {F U H : Hp} {μ : List Addr} {h : AH} {k : Nat} {a : Addr} {o : HO} {x : AO} {d : PD} (l : Lk K F U μ H h) (h1 : μ[k]? = some a) (h2 : h[k]? = some x) (hU : U a = none) (hH : H a = some o) (r : RD K (upd F a o) (.ref a) d) :
    Gr F U (upd F a o) (upd U a o) ∧ Lk K (upd F a o) (upd U a o) μ H (h.set k (.frz d)) := by
  have hF := same_none l.fu hU
  refine ⟨⟨same_new hF, same_new hU, fun b x g1 g2 => ?_⟩, ⟨same_upd2 l.fu, fun b x e => ?_, l.nod, by rw [List.length_set, l.len], l.trk, fun j b y g1 g2 => ?_, l.tab, ntb_upd l.ntb fun ps z => by
    obtain ⟨oo, e1, en⟩ := l.trk a (List.mem_of_getElem? h1)
    rw [hH] at e1
    cases e1
    exact en.tbl ps z⟩⟩
  · rw [upd_ne (ne_of_none g1 hU)] at g2
    exact g2
  · by_cases hb : b = a
    · subst hb; rw [upd_same] at e; rw [← e]; exact hH
    · rw [upd_ne hb] at e; exact l.uh _ _ e
  · by_cases e : j = k
    · subst e
      rw [h1] at g1; cases g1
      rw [List.getElem?_set_self (List.getElem?_eq_some_iff.mp h2).1] at g2
      cases g2
      exact r
    · rw [List.getElem?_set_ne (Ne.symm e)] at g2
      have hne : b ≠ a := fun z => e (by
        subst z
        obtain ⟨b1, c1⟩ := List.getElem?_eq_some_iff.mp g1
        obtain ⟨b2, c2⟩ := List.getElem?_eq_some_iff.mp h1
        exact (List.getElem_inj l.nod).mp (c1.trans c2.symm))
      exact (l.obj j b y g1 g2).mono (same_new hF) (fun z => by rw [upd_ne hne]; exact z) (fun _ => rfl) fun _ e => e
/-- what holds of an object may be told in another way -/
theorem Lk.retell [Fed] {K : PySem.W.Frag} {F U H : Hp} {μ : List Addr} {h : AH} {k : Nat} {x' : AO} (l : Lk K F U μ H h) (r : ∀ a, μ[k]? = some a → ObjR K F U H a x') : Lk K F U μ H (h.set k x') := by
  refine ⟨l.fu, l.uh, l.nod, by rw [List.length_set, l.len], l.trk, fun j b y g1 g2 => ?_, l.tab, l.ntb⟩
  by_cases e : j = k
  · subst e
    by_cases hj : j < h.length
    · rw [List.getElem?_set_self hj] at g2
      cases g2
      exact r _ g1
    · rw [List.getElem?_eq_none (by rw [List.length_set]; omega)] at g2
      cases g2
  · rw [List.getElem?_set_ne (Ne.symm e)] at g2
    exact l.obj j b y g1 g2
/-- an object's content as data -/
def frzAt (k : Nat) (h : AH) : Option (PD × AH) := match h[k]? with
  | some (.lst ds) => some (.list ds, h.set k (.frz (.list ds)))
  | some (.dct kvs) => some (.dict kvs, h.set k (.frz (.dict kvs)))
  | some (.frz d) => some (d, h)
  | _ => none
theorem Lk.frz [Fed] {K : PySem.W.Frag} {F U H : Hp} {μ : List Addr} {h h' : AH} {k : Nat} {a : Addr} {d : PD} (l : Lk K F U μ H h) (h1 : μ[k]? = some a) (e : frzAt k h = some (d, h')) :
    ∃ F' U', Gr F U F' U' ∧ Lk K F' U' μ H h' ∧ RD K F' (.ref a) d := by
  unfold frzAt at e
  cases q : h[k]? with
  | none => rw [q] at e; cases e
  | some o =>
    rw [q] at e
    cases o with
    | lst ds =>
      cases e
      obtain ⟨hU, vs, hH, hd⟩ := l.obj k a _ h1 q
      have r : RD K (upd F a (.lst vs)) (.ref a) (.list ds) := .lst upd_same (hd.mono (same_new (same_none l.fu hU)))
      obtain ⟨g, l'⟩ := l.frzO h1 q hU hH r
      exact ⟨_, _, g, l', r⟩
    | dct kvs =>
      cases e
      obtain ⟨hU, vs, hH, hd⟩ := l.obj k a _ h1 q
      have r : RD K (upd F a (.dK vs)) (.ref a) (.dict kvs) := .dct upd_same (hd.mono (same_new (same_none l.fu hU)))
      obtain ⟨g, l'⟩ := l.frzO h1 q hU hH r
      exact ⟨_, _, g, l', r⟩
    | frz d' =>
      cases e
      exact ⟨F, U, Gr.refl, l, l.obj k a _ h1 q⟩
    | fed os qs => cases e
    | ins _ _ => cases e
    | dead => cases e
/-- the youngest objects forgotten -/
theorem Lk.cut [Fed] {K : PySem.W.Frag} {F U H : Hp} {μ : List Addr} {h : AH} (l : Lk K F U μ H h) (n : Nat) : Lk K F U (μ.take n) H (h.take n) := by
  refine ⟨l.fu, l.uh, l.nod.sublist (List.take_sublist _ _), by rw [List.length_take, List.length_take, l.len], fun a ha => l.trk a (List.mem_of_mem_take ha), fun k a o h1 h2 => ?_, l.tab, l.ntb⟩
  rw [List.getElem?_take] at h1 h2
  split at h1
  · rename_i hk
    rw [if_pos hk] at h2
    exact l.obj k a o h1 h2
  · cases h1
end Pv

/-! Pv, part B: expressions. -/
namespace Pv
open PySem PySem.Spec PyProof.Rows L2

section
variable {C : Cn} {Wx : XK} {X : Cx} {F U H : Hp} {μ : List Addr} {h : AH} {W : Value → Option Addr → Hp → Prop}
theorem Out.here [Fed] {Q : VK} {v : V} {x : Sl} (o : Out C F U μ W (rSl C.K) Q (.ok x h)) (l : Lk C.K F U μ H h) (r : SlR C.K F μ v x) : Q v H := o v F U μ H Gr.refl (List.prefix_refl _) l r
theorem Out.hereB [Fed] {Q : Bool → Hp → Prop} {b : Bool} (o : Out C F U μ W rBo Q (.ok b h)) (l : Lk C.K F U μ H h) : Q b H := o b F U μ H Gr.refl (List.prefix_refl _) l rfl
theorem Out.hereA [Fed] {Q : List V → Hp → Prop} {vs : List V} {xs : List Sl} (o : Out C F U μ W (rSls C.K) Q (.ok xs h)) (l : Lk C.K F U μ H h) (r : SlRs C.K F μ vs xs) : Q vs H := o vs F U μ H Gr.refl (List.prefix_refl _) l r
/-- a new frozen list, tuple -/
theorem Out.newL [Fed] {Q : VK} {vs : List V} {ds : List PD} (o : Out C F U μ W (rSl C.K) Q (.ok (.dat (.list ds)) h)) (l : Lk C.K F U μ H h) (r : RDs C.K F vs ds) {p : Addr} (hp : H p = none) : Q (.ref p) (upd H p (.lst vs)) := by
  obtain ⟨g, l'⟩ := l.new (o := .lst vs) hp
  exact o _ _ _ μ _ g (List.prefix_refl _) l' (RD.lst upd_same (r.mono g.f))
theorem Out.newT [Fed] {Q : VK} {vs : List V} {ds : List PD} (o : Out C F U μ W (rSl C.K) Q (.ok (.dat (.tuple ds)) h)) (l : Lk C.K F U μ H h) (r : RDs C.K F vs ds) {p : Addr} (hp : H p = none) : Q (.ref p) (upd H p (.tup vs)) := by
  obtain ⟨g, l'⟩ := l.new (o := .tup vs) hp
  exact o _ _ _ μ _ g (List.prefix_refl _) l' (RD.tup (.inl (.inl upd_same)) (r.mono g.f))
/-- a new list that may change -/
theorem Out.newO [Fed] {Q : VK} {vs : List V} {ds : List PD} (o : Out C F U μ W (rSl C.K) Q (.ok (.obj h.length) (h ++ [.lst ds]))) (l : Lk C.K F U μ H h) (r : RDs C.K F vs ds) {p : Addr} (hp : H p = none) : Q (.ref p) (upd H p (.lst vs)) := by
  have l' := l.newO (o := .lst vs) (a' := .lst ds) hp ⟨same_none l.uh hp, vs, upd_same, r⟩
  exact o _ F U (μ ++ [p]) _ Gr.refl (List.prefix_append _ _) l' ⟨p, by rw [← l.len, List.getElem?_append_right (Nat.le_refl _)]; simp, rfl⟩
end

/-! ### names and constants -/
def cDat (d : PD) : Ex := fun _ h => .ok (.dat d) h
def nth : Ev → Nat → Option (Option Sl)
  | [], _ => none
  | x :: _, 0 => some x
  | _ :: xs, n + 1 => nth xs n
theorem nth_eq : ∀ (e : Ev) (n : Nat), nth e n = e[n]?
  | [], _ => by simp [nth]
  | _ :: _, 0 => by simp [nth]
  | _ :: xs, n + 1 => by simp [nth, nth_eq xs n]
def cVar (i : Nat) : Ex := fun env h => match nth env i with
  | some (some x) => .ok x h
  | _ => .no
section
variable {C : Cn} {Wx : XK} {X : Cx}
theorem rd_dat [Fed] {d : PD} {v : V} (hd : ∀ F, RD C.K F v d) {σ : L2.St} {H : Hp} {Q : VK} (q : rdE C Wx (cDat d) σ H Q) : tC v σ H Q := by
  obtain ⟨F, U, μ, env, h, l, e, o⟩ := q
  exact o.here l (hd F)
theorem se_int [Fed] {i : Int} {j pos} : SE C Wx X (.Constant (.int i) j pos) (cDat (.int i)) := ⟨pe_imp pe_int fun _ _ _ => rd_dat fun _ => .int i⟩
theorem se_bl [Fed] {b : Bool} {j pos} : SE C Wx X (.Constant (.bool b) j pos) (cDat (.bool b)) := ⟨pe_imp pe_bl fun _ _ _ => rd_dat fun _ => .bl b⟩
theorem se_non [Fed] {j pos} : SE C Wx X (.Constant .none j pos) (cDat .none) := ⟨pe_imp pe_non fun _ _ _ => rd_dat fun _ => .non⟩
theorem se_str [Fed] {x y : Str} {j pos} (e : x = y := by rfl) : SE C Wx X (.Constant (.str x) j pos) (cDat (.str y)) := by subst e; exact ⟨pe_imp pe_str fun _ _ _ => rd_dat fun _ => .str x⟩
theorem se_var [Fed] (i : Nat) {x : Str} {pos : Pos} (hN : X.N[i]? = some x := by rfl) (hv : Vis X.env.scope x := by first | exact Or.inl rfl | exact Or.inr (Or.inl rfl) | exact Or.inr (Or.inr rfl)) (hd : (x == ("__debug__" : Str)) = false := by decide)
    (hcd : (x == ("__classdict__" : Str)) = false := by decide) : SE C Wx X (.Name x pos) (cVar i) := ⟨pe_imp (pe_var hN hv hd hcd) fun σ H Q q => by
  obtain ⟨F, U, μ, env, h, l, e, o⟩ := q
  unfold cVar at o
  rw [nth_eq] at o
  cases q : env[i]? with
  | none => rw [q] at o; exact o.elim
  | some y =>
    rw [q] at o
    cases y with
    | none => exact o.elim
    | some y =>
      obtain ⟨v, h1, h2⟩ := e.2 i y q
      exact ⟨v, h1, o.here l h2⟩⟩
/-- a module's constant: a text, an int -/
theorem se_gstr [Fed] {x : Str} {t : Tok} {u y : Str} {pos : Pos} (hg : Gl X x) (hm : X.mg x = some (.str u t)) (e : u = y := by rfl) (hd : (x == ("__debug__" : Str)) = false := by decide) : SE C Wx X (.Name x pos) (cDat (.str y)) := by
  subst e; exact ⟨pe_imp (pe_glob (v := .str u) hg hm ⟨_, rfl⟩ hd) fun _ _ _ => rd_dat fun _ => .str u⟩
theorem se_gint [Fed] {x : Str} {t : Tok} {i : Int} {pos : Pos} (hg : Gl X x) (hm : X.mg x = some (.int i t)) (hd : (x == ("__debug__" : Str)) = false := by decide) : SE C Wx X (.Name x pos) (cDat (.int i)) :=
  ⟨pe_imp (pe_glob (v := .int i) hg hm ⟨_, rfl⟩ hd) fun _ _ _ => rd_dat fun _ => .int i⟩
end

/-! ### operators -/
abbrev G2 := Sl → Sl → AH → Res Sl
def cBin (g : G2) (ta tb : Ex) : Ex := fun env h => (ta env h).bind fun x h1 => (tb env h1).bind fun y h2 => g x y h2
def OpD [Fed] (K : PySem.W.Frag) (r : R2) (g : G2) : Prop := ∀ (C : Cn), C.K = K → ∀ (F U : Hp) (μ : List Addr) (H : Hp) (h : AH) (W : Value → Option Addr → Hp → Prop) (x y : V) (a b : Sl) (Q : VK), Lk C.K F U μ H h → SlR C.K F μ x a → SlR C.K F μ y b →
  Out C F U μ W (rSl C.K) Q (g a b h) → r x y H Q
section
variable {C : Cn} {Wx : XK} {X : Cx} {a b : Expr} {ta tb : Ex} {pos : Pos}
theorem rd_bin [Fed] {r : R2} {g : G2} (hg : OpD C.K r g) {σ : L2.St} {H : Hp} {Q : VK} (q : rdE C Wx (cBin g ta tb) σ H Q) : tOp r (rdE C Wx ta) (rdE C Wx tb) σ H Q := by
  obtain ⟨F, U, μ, env, h, l, e, o⟩ := q
  exact rd_step l e o fun x vx F1 U1 μ1 H1 h1 g1 p1 l1 r1 e1 o1 => rd_step l1 e1 o1 fun y vy F2 U2 μ2 H2 h2 g2 p2 l2 r2 e2 o2 => hg C rfl F2 U2 μ2 H2 h2 _ vx vy x y Q l2 (r1.mono g2.f p2) r2 o2
theorem se_bin [Fed] {op : Operator} {r : R2} {g : G2} (ho : OpR X (binaryOp op) r) (hg : OpD C.K r g) (ha : SE C Wx X a ta) (hb : SE C Wx X b tb) : SE C Wx X (.BinOp a op b pos) (cBin g ta tb) :=
  ⟨pe_imp (pe_op ho ha.pe hb.pe) fun _ _ _ => rd_bin hg⟩
theorem se_cmp [Fed] {op : CmpOp} {r : R2} {g : G2} (ho : OpR X (compareOp op) r) (hg : OpD C.K r g) (ha : SE C Wx X a ta) (hb : SE C Wx X b tb) (hm : behindInMarks op b = false := by rfl) : SE C Wx X (.Compare a [op] [b] pos) (cBin g ta tb) :=
  ⟨pe_imp (pe_cmpR ho ha.pe hb.pe hm) fun _ _ _ => rd_bin hg⟩
theorem OpD.or [Fed] {K : PySem.W.Frag} {r r' : R2} {g g' : G2} (h : OpD K r g) (h' : OpD K r' g') (p : Sl → Sl → AH → Bool) : OpD K (fun x y H Q => r x y H Q ∨ r' x y H Q) (fun a b hh => if p a b hh then g a b hh else g' a b hh) := by
  intro C hC F U μ H hh W x y a b Q l ra rb o
  cases e : p a b hh with
  | true => simp only [e, ↓reduceIte] at o; exact .inl (h C hC F U μ H hh W x y a b Q l ra rb o)
  | false => simp only [e, ↓reduceIte, Bool.false_eq_true] at o; exact .inr (h' C hC F U μ H hh W x y a b Q l ra rb o)
end
/-- two ints -/
def gI (c : Int → Int → Bool) (f : Int → Int → PD) : G2
  | .dat (.int i), .dat (.int j), h => if c i j then .ok (.dat (f i j)) h else .no
  | _, _, _ => .no
theorem opd_I [Fed] {K : PySem.W.Frag} {Cd : Int → Int → Prop} {c : Int → Int → Bool} {f : Int → Int → V} {fd : Int → Int → PD} (hc : ∀ i j, c i j = true → Cd i j) (hr : ∀ F i j, RD K F (f i j) (fd i j)) : OpD K (rI Cd f) (gI c fd) := by
  intro C hC F U μ H h W x y a b Q l ra rb o
  subst hC
  cases a with
  | dat a =>
    cases b with
    | dat b =>
      cases a <;> cases b <;> first | exact o.elim | skip
      rename_i i j
      cases ra
      cases rb
      have o : Out C F U μ W (rSl C.K) Q (if c i j then .ok (.dat (fd i j)) h else .no) := o
      cases e : c i j with
      | true =>
        rw [e, if_pos rfl] at o
        exact ⟨i, j, rfl, rfl, hc _ _ e, o.here l (hr F i j)⟩
      | false => rw [e, if_neg Bool.false_ne_true] at o; exact o.elim
    | _ => cases a <;> exact o.elim
  | _ => exact o.elim
theorem opd_I0 [Fed] {K : PySem.W.Frag} {f : Int → Int → V} {fd : Int → Int → PD} (hr : ∀ F i j, RD K F (f i j) (fd i j)) : OpD K (rI0 f) (gI (fun _ _ => true) fd) := by
  intro C hC F U μ H h W x y a b Q l ra rb o
  obtain ⟨i, j, e1, e2, _, q⟩ := opd_I (Cd := fun _ _ => True) (c := fun _ _ => true) (f := f) (fd := fd) (fun _ _ _ => trivial) hr C hC F U μ H h W x y a b Q l ra rb o
  exact ⟨i, j, e1, e2, q⟩
def isI : Sl → Bool
  | .dat (.int _) => true
  | _ => false
def isS : Sl → Bool
  | .dat (.str _) => true
  | _ => false
def isT : Sl → Bool
  | .dat (.tuple _) => true
  | _ => false
def gSub : G2 := gI (fun _ _ => true) fun i j => .int (i - j)
def gLt : G2 := gI (fun _ _ => true) fun i j => .bool (decide (i < j))
def gLe : G2 := gI (fun _ _ => true) fun i j => .bool (decide (i ≤ j))
def gGt : G2 := gI (fun _ _ => true) fun i j => .bool (decide (j < i))
def gGe : G2 := gI (fun _ _ => true) fun i j => .bool (decide (j ≤ i))
def gMod : G2 := gI (fun _ j => decide (j ≠ 0)) fun i j => .int (i.fmod j)
def gPow : G2 := gI (fun i j => decide (0 ≤ j ∧ j ≤ 1000000 ∧ i.natAbs < 2 ^ 64)) fun i j => .int (i ^ j.toNat)
def gDiv : G2 := gI (fun _ j => decide (0 < j) && decide (j.natAbs.log2 < 9000)) fun i j => .int (i / j)
section
variable {K : PySem.W.Frag}
theorem od_sub [Fed] : OpD K (rI0 fun i j => .int (i - j)) gSub := opd_I0 fun _ _ _ => .int _
theorem od_lt [Fed] : OpD K (rI0 fun i j => .bl (decide (i < j))) gLt := opd_I0 fun _ _ _ => .bl _
theorem od_le [Fed] : OpD K (rI0 fun i j => .bl (decide (i ≤ j))) gLe := opd_I0 fun _ _ _ => .bl _
theorem od_gt [Fed] : OpD K (rI0 fun i j => .bl (decide (j < i))) gGt := opd_I0 fun _ _ _ => .bl _
theorem od_ge [Fed] : OpD K (rI0 fun i j => .bl (decide (j ≤ i))) gGe := opd_I0 fun _ _ _ => .bl _
theorem od_mod [Fed] : OpD K (rI (fun _ j => j ≠ 0) fun i j => .int (i.fmod j)) gMod := opd_I (fun _ _ e => of_decide_eq_true e) fun _ _ _ => .int _
theorem od_pow [Fed] : OpD K (rI CPow fun i j => .int (i ^ j.toNat)) gPow := opd_I (fun i j e => show 0 ≤ j ∧ j ≤ 1000000 ∧ i.natAbs < 2 ^ 64 from of_decide_eq_true e) fun _ _ _ => .int _
theorem od_div [Fed] : OpD K (rI CDivW fun i j => .int (i / j)) gDiv := opd_I (fun i j e => by
  rw [Bool.and_eq_true] at e
  exact ⟨of_decide_eq_true e.1, of_decide_eq_true e.2⟩) fun _ _ _ => .int _
end
/-- + -/
def gAddS : G2
  | .dat (.str x), .dat (.str y), h => if x.length + y.length ≤ sizeLine then .ok (.dat (.str (x ++ y))) h else .no
  | _, _, _ => .no
def gAddT : G2
  | .dat (.tuple xs), .dat (.tuple ys), h => if xs.length + ys.length ≤ sizeLine then .ok (.dat (.tuple (xs ++ ys))) h else .no
  | _, _, _ => .no
def gAddL (ob : Bool) : G2 := fun x y h => match vwL x h, vwL y h with
  | some xs, some ys => if xs.length + ys.length ≤ sizeLine then (if ob then .ok (.obj h.length) (h ++ [.lst (xs ++ ys)]) else .ok (.dat (.list (xs ++ ys))) h) else .no
  | _, _ => .no
def gMulI : G2 := gI (fun i j => decide (i.natAbs.log2 + j.natAbs.log2 < 1000000)) fun i j => .int (i * j)
def gAddI : G2 := gI (fun _ _ => true) fun i j => .int (i + j)
def gAdd (ob : Bool) : G2 := fun a b h => if isI a then gAddI a b h else if isT a then gAddT a b h else if isS a then gAddS a b h else gAddL ob a b h
def rAdd4 (K : PySem.W.Frag) : R2 := fun x y H Q => rI0 (fun i j => .int (i + j)) x y H Q ∨ rCatA K x y H Q ∨ (∃ i j, x = .str i ∧ y = .str j ∧ i.length + j.length ≤ sizeLine ∧ Q (.str (i ++ j)) H) ∨ rCat x y H Q
theorem or_add [Fed] {X : Cx} : OpR X (binaryOp .Add) (rAdd4 X.K) := OpR.or op_add (OpR.or op_catA (OpR.or op_add_str op_cat))
section
variable {K : PySem.W.Frag}
theorem od_addI [Fed] : OpD K (rI0 fun i j => .int (i + j)) gAddI := opd_I0 fun _ _ _ => .int _
theorem od_mulI [Fed] : OpD K (rI CMulW fun i j => .int (i * j)) gMulI := opd_I (fun i j e => show i.natAbs.log2 + j.natAbs.log2 < 1000000 from of_decide_eq_true e) fun _ _ _ => .int _
theorem od_addS [Fed] : OpD K (fun x y H Q => ∃ i j, x = .str i ∧ y = .str j ∧ i.length + j.length ≤ sizeLine ∧ Q (.str (i ++ j)) H) gAddS := by
  intro C hC F U μ H h W x y a b Q l ra rb o
  unfold gAddS at o
  split at o
  · split at o
    · rename_i hz
      cases ra; cases rb
      exact ⟨_, _, rfl, rfl, hz, o.here l (.str _)⟩
    · exact o.elim
  · exact o.elim
theorem od_addT [Fed] : OpD K (rCatA K) gAddT := by
  intro C hC F U μ H h W x y a b Q l ra rb o
  subst hC
  unfold gAddT at o
  split at o
  · split at o
    · rename_i xs ys hz
      cases ra with
      | tup s1 d1 =>
        cases rb with
        | tup s2 d2 =>
          refine ⟨_, _, _, _, rfl, rfl, sqT_mono l.fh s1, sqT_mono l.fh s2, by rw [d1.len, d2.len]; exact hz, fun e => ?_, fun _ e => ?_, fun _ _ p hp => o.newT l (d1.app d2) hp⟩
          · subst e
            cases d1
            exact o.here l (.tup s2 d2)
          · subst e
            cases d2
            rw [List.append_nil] at o
            exact o.here l (.tup s1 d1)
    · exact o.elim
  · exact o.elim
theorem od_addL [Fed] {ob : Bool} : OpD K rCat (gAddL ob) := by
  intro C hC F U μ H h W x y a b Q l ra rb o
  subst hC
  unfold gAddL at o
  split at o
  · rename_i xs ys e1 e2
    obtain ⟨p1, vs, rfl, h1, d1⟩ := vwL_ok l ra e1
    obtain ⟨p2, ws, rfl, h2, d2⟩ := vwL_ok l rb e2
    split at o
    · rename_i hz
      refine ⟨p1, p2, vs, ws, rfl, rfl, h1, h2, by rw [d1.len, d2.len]; exact hz, fun p hp => ?_⟩
      cases ob with
      | true => exact Out.newO (by simpa using o) l (d1.app d2) hp
      | false => exact Out.newL (by simpa using o) l (d1.app d2) hp
    · exact o.elim
  · exact o.elim
theorem od_add [Fed] {ob : Bool} : OpD K (rAdd4 K) (gAdd ob) := by
  intro C hC F U μ H h W x y a b Q l ra rb o
  unfold gAdd at o
  split at o
  · exact .inl (od_addI C hC F U μ H h W x y a b Q l ra rb o)
  · split at o
    · exact .inr (.inl (od_addT C hC F U μ H h W x y a b Q l ra rb o))
    · split at o
      · exact .inr (.inr (.inl (od_addS C hC F U μ H h W x y a b Q l ra rb o)))
      · exact .inr (.inr (.inr (od_addL C hC F U μ H h W x y a b Q l ra rb o)))
end
/-- * -/
def gMulT : G2
  | .dat (.tuple xs), .dat (.int k), h => if xs ≠ [] ∧ 2 ≤ k ∧ k ≤ 1000 ∧ xs.length ≤ 1000 then .ok (.dat (.tuple (List.replicate k.toNat xs).flatten)) h else .no
  | _, _, _ => .no
def gMulL (ob : Bool) : G2 := fun x y h => match vwL x h, y with
  | some xs, .dat (.int k) => if k < 2 ^ 62 ∧ -(2 ^ 62) < k ∧ xs.length * k.toNat ≤ sizeLine then (if ob then .ok (.obj h.length) (h ++ [.lst (List.replicate k.toNat xs).flatten]) else .ok (.dat (.list (List.replicate k.toNat xs).flatten)) h) else .no
  | _, _ => .no
def gMul (ob : Bool) : G2 := fun a b h => if isI a then gMulI a b h else if isT a then gMulT a b h else gMulL ob a b h
def rMul3 (K : PySem.W.Frag) : R2 := fun x y H Q => rI CMulW (fun i j => .int (i * j)) x y H Q ∨ rRepT K x y H Q ∨ rRep x y H Q
theorem or_mul [Fed] {X : Cx} : OpR X (binaryOp .Mult) (rMul3 X.K) := OpR.or op_mulW (OpR.or op_repT op_rep)
section
variable {K : PySem.W.Frag}
theorem nil_iff [Fed] {K : PySem.W.Frag} {F : Hp} {vs : List V} {ds : List PD} (r : RDs K F vs ds) : vs = [] ↔ ds = [] := by
  cases r with
  | nil => exact ⟨fun _ => rfl, fun _ => rfl⟩
  | cons _ _ => exact ⟨fun e => (nomatch e), fun e => (nomatch e)⟩
theorem od_mulT [Fed] : OpD K (rRepT K) gMulT := by
  intro C hC F U μ H h W x y a b Q l ra rb o
  subst hC
  unfold gMulT at o
  split at o
  · split at o
    · rename_i hz
      cases ra with
      | tup s1 d1 =>
        cases rb
        exact ⟨_, _, _, rfl, rfl, sqT_mono l.fh s1, fun z => hz.1 ((nil_iff d1).mp z), hz.2.1, hz.2.2.1, by rw [d1.len]; exact hz.2.2.2, fun p hp => o.newT l (d1.rep _) hp⟩
    · exact o.elim
  · exact o.elim
theorem od_mulL [Fed] {ob : Bool} : OpD K rRep (gMulL ob) := by
  intro C hC F U μ H h W x y a b Q l ra rb o
  subst hC
  unfold gMulL at o
  split at o
  · rename_i xs k e3
    obtain ⟨p1, vs, rfl, h1, d1⟩ := vwL_ok l ra e3
    cases rb
    split at o
    · rename_i hz
      refine ⟨p1, k, vs, rfl, rfl, h1, by omega, by omega, by rw [d1.len]; exact hz.2.2, fun p hp => ?_⟩
      cases ob with
      | true => exact Out.newO (by simpa using o) l (d1.rep _) hp
      | false => exact Out.newL (by simpa using o) l (d1.rep _) hp
    · exact o.elim
  · exact o.elim
theorem od_mul [Fed] {ob : Bool} : OpD K (rMul3 K) (gMul ob) := by
  intro C hC F U μ H h W x y a b Q l ra rb o
  unfold gMul at o
  split at o
  · exact .inl (od_mulI C hC F U μ H h W x y a b Q l ra rb o)
  · split at o
    · exact .inr (.inl (od_mulT C hC F U μ H h W x y a b Q l ra rb o))
    · exact .inr (.inr (od_mulL C hC F U μ H h W x y a b Q l ra rb o))
end
/-! ### texts and data compared fast -/
def natsEq : List Nat → List Nat → Bool
  | [], [] => true
  | a :: as, b :: bs => Nat.beq a b && natsEq as bs
  | _, _ => false
theorem natsEq_iff : ∀ {a b : List Nat}, natsEq a b = true ↔ a = b
  | [], [] => by simp [natsEq]
  | [], _ :: _ => by simp [natsEq]
  | _ :: _, [] => by simp [natsEq]
  | a :: as, b :: bs => by simp [natsEq, natsEq_iff (a := as) (b := bs)]
def strEq (a b : Str) : Bool := natsEq a.cps.toList b.cps.toList
theorem strEq_iff {a b : Str} : strEq a b = true ↔ a = b := by
  unfold strEq
  rw [natsEq_iff]
  constructor
  · intro h
    cases a
    cases b
    simp only [Array.toList_inj] at h
    rw [h]
  · intro h; rw [h]
theorem strEq_eq (a b : Str) : strEq a b = (a == b) := by
  by_cases h : a = b
  · rw [strEq_iff.mpr h]
    subst h
    simp
  · have : strEq a b = false := by
      cases z : strEq a b with
      | false => rfl
      | true => exact absurd (strEq_iff.mp z) h
    rw [this]
    exact (beq_eq_false_iff_ne.mpr h).symm
mutual
def eqvF : PD → PD → Bool
  | .none, .none => true
  | .bool a, .bool b => a == b
  | .bool a, .int j => (if a then 1 else 0) == j
  | .int i, .bool b => i == (if b then 1 else 0)
  | .int i, .int j => i == j
  | .str x, .str y => strEq x y
  | .list xs, .list ys => eqvFs xs ys
  | .tuple xs, .tuple ys => eqvFs xs ys
  | _, _ => false
def eqvFs : List PD → List PD → Bool
  | [], [] => true
  | x :: xs, y :: ys => eqvF x y && eqvFs xs ys
  | _, _ => false
end
mutual
theorem eqvF_eq : ∀ x y : PD, eqvF x y = PyData.eqv x y
  | .none, y => by cases y <;> simp [eqvF, PyData.eqv]
  | .bool a, y => by cases y <;> simp [eqvF, PyData.eqv]
  | .int i, y => by cases y <;> simp [eqvF, PyData.eqv]
  | .str x, y => by cases y <;> simp [eqvF, PyData.eqv, strEq_eq]
  | .list xs, y => by cases y <;> simp [eqvF, PyData.eqv, eqvFs_eq xs]
  | .tuple xs, y => by cases y <;> simp [eqvF, PyData.eqv, eqvFs_eq xs]
  | .dict _, y => by cases y <;> simp [eqvF, PyData.eqv]
theorem eqvFs_eq : ∀ xs ys : List PD, eqvFs xs ys = PyData.eqvAll xs ys
  | [], ys => by cases ys <;> simp [eqvFs, PyData.eqvAll]
  | x :: xs, ys => by
    cases ys with
    | nil => simp [eqvFs, PyData.eqvAll]
    | cons y ys => simp [eqvFs, PyData.eqvAll, eqvF_eq x y, eqvFs_eq xs ys]
end
def okN : List Nat → Bool
  | [] => true
  | c :: cs => Nat.blt c 1114112 && okN cs
mutual
def okF : Nat → PD → Bool
  | _, .none => true
  | _, .bool _ => true
  | _, .int _ => true
  | _, .str x => okN x.cps.toList
  | n + 1, .list xs => okFs n xs
  | n + 1, .tuple xs => okFs n xs
  | _, _ => false
def okFs : Nat → List PD → Bool
  | _, [] => true
  | n, x :: xs => okF n x && okFs n xs
end
theorem okN_ok : ∀ {l : List Nat}, okN l = true → ∀ c ∈ l, c < 1114112
  | [], _, c, h => by cases h
  | d :: l, h, c, hc => by
    simp only [okN, Bool.and_eq_true] at h
    rcases List.mem_cons.mp hc with e | e
    · rw [e]; exact Nat.le_of_ble_eq_true h.1
    · exact okN_ok h.2 c e
theorem okS {x : Str} (h : okN x.cps.toList = true) : PyData.strOk x = true := by
  unfold PyData.strOk
  rw [Array.all_eq_true_iff_forall_mem]
  intro c hc
  exact decide_eq_true (okN_ok h c (Array.mem_toList_iff.mpr hc))
mutual
theorem okF_ok : ∀ (n : Nat) {d : PD}, okF n d = true → d.canLay0 = true ∧ d.depth ≤ n
  | n, .none, _ => by simp [PyData.canLay0, PyData.depth]
  | n, .bool _, _ => by simp [PyData.canLay0, PyData.depth]
  | n, .int _, _ => by simp [PyData.canLay0, PyData.depth]
  | n, .str x, h => by
    have h : okN x.cps.toList = true := by cases n <;> simpa only [okF] using h
    simp [PyData.canLay0, PyData.depth, okS h]
  | 0, .list xs, h => by simp [okF] at h
  | 0, .tuple xs, h => by simp [okF] at h
  | n + 1, .list xs, h => by
    obtain ⟨h1, h2⟩ := okFs_ok n (show okFs n xs = true by simpa only [okF] using h)
    simp only [PyData.canLay0, PyData.depth]
    exact ⟨h1, by omega⟩
  | n + 1, .tuple xs, h => by
    obtain ⟨h1, h2⟩ := okFs_ok n (show okFs n xs = true by simpa only [okF] using h)
    simp only [PyData.canLay0, PyData.depth]
    exact ⟨h1, by omega⟩
  | n, .dict _, h => by cases n <;> simp [okF] at h
theorem okFs_ok : ∀ (n : Nat) {ds : List PD}, okFs n ds = true → PyData.canLayAll0 ds = true ∧ PyData.depthAll ds ≤ n
  | n, [], _ => by simp [PyData.canLayAll0, PyData.depthAll]
  | n, d :: ds, h => by
    simp only [okFs, Bool.and_eq_true] at h
    obtain ⟨a1, a2⟩ := okF_ok n h.1
    obtain ⟨b1, b2⟩ := okFs_ok n h.2
    simp only [PyData.canLayAll0, PyData.depthAll, a1, b1]
    exact ⟨rfl, by omega⟩
end
def shp (d : PD) : Bool := okF 64 d
theorem shp_ok {d : PD} (h : shp d = true) : SeqAt.shaped d = true := by
  obtain ⟨h1, h2⟩ := okF_ok 64 h
  unfold SeqAt.shaped
  rw [h1, decide_eq_true h2]
  rfl
/-! ### equality, in, is None -/
def gEq : G2 := fun a b h => match vw a h, vw b h with
  | some x, some y => if shp x && shp y then .ok (.dat (.bool (eqvF x y))) h else .no
  | _, _ => .no
def gNe : G2 := fun a b h => match vw a h, vw b h with
  | some x, some y => if shp x && shp y then .ok (.dat (.bool (!eqvF x y))) h else .no
  | _, _ => .no
def gIn (neg : Bool) : G2 := fun a b h => match vw a h, vw b h with
  | some x, some (.list ys) => if shp x && shp (.list ys) then .ok (.dat (.bool (neg ^^ ys.any fun z => eqvF z x))) h else .no
  | some x, some (.tuple ys) => if shp x && shp (.tuple ys) then .ok (.dat (.bool (neg ^^ ys.any fun z => eqvF z x))) h else .no
  | _, _ => .no
def isNone : Sl → Bool
  | .dat .none => true
  | _ => false
def gIsN : G2
  | .unk, _, _ => .no
  | a, .dat .none, h => .ok (.dat (.bool (isNone a))) h
  | _, _, _ => .no
def gNotN : G2
  | .unk, _, _ => .no
  | a, .dat .none, h => .ok (.dat (.bool (!isNone a))) h
  | _, _, _ => .no
section
variable {K : PySem.W.Frag}
theorem od_eq [Fed] : OpD K (rEqD K) gEq := by
  intro C hC F U μ H h W x y a b Q l ra rb o
  subst hC
  unfold gEq at o
  split at o
  · rename_i d e e1 e2
    split at o
    · rename_i hz
      rw [Bool.and_eq_true] at hz
      rw [eqvF_eq] at o
      have z1 := shp_ok hz.1
      have z2 := shp_ok hz.2
      exact ⟨d, e, (vw_ok l ra e1).dp l.fh (SeqAt.canLay_of_shaped z1), (vw_ok l rb e2).dp l.fh (SeqAt.canLay_of_shaped z2), z1, z2, o.here l (.bl _)⟩
    · exact o.elim
  · exact o.elim
theorem od_ne [Fed] : OpD K (rNeD K) gNe := by
  intro C hC F U μ H h W x y a b Q l ra rb o
  subst hC
  unfold gNe at o
  split at o
  · rename_i d e e1 e2
    split at o
    · rename_i hz
      rw [Bool.and_eq_true] at hz
      rw [eqvF_eq] at o
      have z1 := shp_ok hz.1
      have z2 := shp_ok hz.2
      exact ⟨d, e, (vw_ok l ra e1).dp l.fh (SeqAt.canLay_of_shaped z1), (vw_ok l rb e2).dp l.fh (SeqAt.canLay_of_shaped z2), z1, z2, o.here l (.bl _)⟩
    · exact o.elim
  · exact o.elim
theorem isNone_iff [Fed] {F : Hp} {μ : List Addr} {x : V} {a : Sl} (r : SlR K F μ x a) (hu : a ≠ .unk) : isNone a = decide (x = .non) := by
  cases a with
  | dat d => cases r <;> rfl
  | obj k => obtain ⟨p, _, rfl⟩ := r; rfl
  | scr ns => obtain ⟨p, rfl, _⟩ := r; rfl
  | rep d => cases (show x = .str d.shown from r); rfl
  | exv c fs => obtain ⟨a, dd, oe, us, vs, rfl, _⟩ := r; rfl
  | fnv i => cases (show x = .ref (Fed.fa K i) from r); rfl
  | tpn ds => obtain ⟨p, oe, vs, rfl, _⟩ := r; rfl
  | dcn kvs => obtain ⟨p, L, rfl, _⟩ := r; rfl
  | unk => exact absurd rfl hu
  | anyI n => obtain ⟨i, rfl, _⟩ := r; rfl
theorem od_isN [Fed] : OpD K (fun x y H Q => y = .non ∧ Q (.bl (decide (x = .non))) H) gIsN := by
  intro C hC F U μ H h W x y a b Q l ra rb o
  subst hC
  unfold gIsN at o
  split at o
  · exact o.elim
  · rename_i hu
    cases rb
    exact ⟨rfl, o.here l (by rw [isNone_iff ra hu]; exact .bl _)⟩
  · exact o.elim
theorem od_notN [Fed] : OpD K (fun x y H Q => y = .non ∧ Q (.bl (!decide (x = .non))) H) gNotN := by
  intro C hC F U μ H h W x y a b Q l ra rb o
  subst hC
  unfold gNotN at o
  split at o
  · exact o.elim
  · rename_i hu
    cases rb
    exact ⟨rfl, o.here l (by rw [isNone_iff ra hu]; exact .bl _)⟩
  · exact o.elim
end
/-! ### unary -/
def cNeg (ta : Ex) : Ex := fun env h => (ta env h).bind fun x h1 => match x with
  | .dat (.int i) => .ok (.dat (.int (-i))) h1
  | _ => .no
def cNot (ta : Ex) : Ex := fun env h => (ta env h).bind fun x h1 => match x with
  | .dat (.bool b) => .ok (.dat (.bool (!b))) h1
  | _ => .no
section
variable {C : Cn} {Wx : XK} {X : Cx} {a b c : Expr} {ta tb tc : Ex} {rest : List Expr} {pos : Pos}
theorem se_neg [Fed] (ha : SE C Wx X a ta) : SE C Wx X (.UnaryOp .USub a pos) (cNeg ta) := ⟨pe_imp (pe_un un_neg ha.pe) fun σ H Q q => by
  obtain ⟨F, U, μ, env, h, l, e, o⟩ := q
  refine rd_step l e o fun x vx F1 U1 μ1 H1 h1 g1 p1 l1 r1 e1 o1 => ?_
  split at o1
  · cases r1
    exact ⟨_, rfl, o1.here l1 (.int _)⟩
  · exact o1.elim⟩
theorem se_not [Fed] (ha : SE C Wx X a ta) : SE C Wx X (.UnaryOp .Not a pos) (cNot ta) := ⟨pe_imp (pe_not ha.pe) fun σ H Q q => by
  obtain ⟨F, U, μ, env, h, l, e, o⟩ := q
  refine rd_step l e o fun x vx F1 U1 μ1 H1 h1 g1 p1 l1 r1 e1 o1 => ?_
  split at o1
  · cases r1
    exact ⟨_, rfl, o1.here l1 (.bl _)⟩
  · exact o1.elim⟩
end
/-! ### and, or (bools) -/
def cAnd (ta tb : Ex) : Ex := fun env h => (ta env h).bind fun x h1 => match x with
  | .dat (.bool true) => tb env h1
  | .dat (.bool false) => .ok (.dat (.bool false)) h1
  | _ => .no
def cOr (ta tb : Ex) : Ex := fun env h => (ta env h).bind fun x h1 => match x with
  | .dat (.bool true) => .ok (.dat (.bool true)) h1
  | .dat (.bool false) => tb env h1
  | _ => .no
section
variable {C : Cn} {Wx : XK} {X : Cx} {a b c : Expr} {ta tb tc : Ex} {rest : List Expr} {pos : Pos}
theorem rd_go [Fed] {α β : Type} {R : α → Hp → Hp → List Addr → β → Prop} {t : Ev → AH → Res α} {σ : L2.St} {F U H : Hp} {μ : List Addr} {env : Ev} {h : AH} {Q : β → Hp → Prop} (l : Lk C.K F U μ H h) (e : EvR C.K F μ σ env)
    (o : Out C F U μ Wx R Q (t env h)) : rdG C Wx R t σ H Q := ⟨F, U, μ, env, h, l, e, o⟩
theorem se_one [Fed] {op} (ha : SE C Wx X a ta) : SE C Wx X (.BoolOp op [a] pos) ta := ⟨pe_one ha.pe⟩
theorem se_and [Fed] (ha : SE C Wx X a ta) (hb : SE C Wx X (.BoolOp .And (b :: rest) pos) tb) : SE C Wx X (.BoolOp .And (a :: b :: rest) pos) (cAnd ta tb) := ⟨pe_imp (pe_and ha.pe hb.pe) fun σ H Q q => by
  obtain ⟨F, U, μ, env, h, l, e, o⟩ := q
  refine rd_step l e o fun x vx F1 U1 μ1 H1 h1 g1 p1 l1 r1 e1 o1 => ?_
  split at o1
  · cases r1
    exact ⟨true, rfl, by rw [if_pos rfl]; exact rd_go l1 e1 o1⟩
  · cases r1
    exact ⟨false, rfl, by rw [if_neg Bool.false_ne_true]; exact o1.here l1 (.bl _)⟩
  · exact o1.elim⟩
theorem se_or [Fed] (ha : SE C Wx X a ta) (hb : SE C Wx X (.BoolOp .Or (b :: rest) pos) tb) : SE C Wx X (.BoolOp .Or (a :: b :: rest) pos) (cOr ta tb) := ⟨pe_imp (pe_or ha.pe hb.pe) fun σ H Q q => by
  obtain ⟨F, U, μ, env, h, l, e, o⟩ := q
  refine rd_step l e o fun x vx F1 U1 μ1 H1 h1 g1 p1 l1 r1 e1 o1 => ?_
  split at o1
  · cases r1
    exact ⟨true, rfl, by rw [if_pos rfl]; exact o1.here l1 (.bl _)⟩
  · cases r1
    exact ⟨false, rfl, by rw [if_neg Bool.false_ne_true]; exact rd_go l1 e1 o1⟩
  · exact o1.elim⟩
end
/-! ### tests -/
def uVal (ta : Ex) : Tx := fun env h => (ta env h).bind fun x h1 => match x with
  | .dat (.bool b) => .ok b h1
  | _ => .no
def uAnd (ta tb : Tx) : Tx := fun env h => (ta env h).bind fun x h1 => if x then tb env h1 else .ok false h1
def uOr (ta tb : Tx) : Tx := fun env h => (ta env h).bind fun x h1 => if x then .ok true h1 else tb env h1
def uNot (ta : Tx) : Tx := fun env h => (ta env h).bind fun x h1 => .ok (!x) h1
section
variable {C : Cn} {Wx : XK} {X : Cx} {a b c : Expr} {ta tb tc : Ex} {ua ub : Tx} {rest : List Expr} {pos : Pos}
theorem rd_val [Fed] {σ : L2.St} {H : Hp} {Q : Bool → Hp → Prop} (q : rdT C Wx (uVal ta) σ H Q) : tB (rdE C Wx ta) σ H Q := by
  obtain ⟨F, U, μ, env, h, l, e, o⟩ := q
  refine rd_step l e o fun x vx F1 U1 μ1 H1 h1 g1 p1 l1 r1 e1 o1 => ?_
  split at o1
  · cases r1
    exact ⟨_, rfl, o1.hereB l1⟩
  · exact o1.elim
/-- a value that is a bool -/
theorem st_val [Fed] (ha : SE C Wx X a ta) (he : ∀ whole, isTrue a X.env whole = (do let v ← whole; standAt a.pos; holding [v] (truthy v)) := by intro _; rfl) : STt C Wx X a (uVal ta) := ⟨pt_imp (pt_val ha.pe he) fun _ _ _ => rd_val⟩
theorem st_cmp [Fed] {op : CmpOp} {r : R2} {g : G2} (ho : OpR X (compareOp op) r) (hg : OpD C.K r g) (ha : SE C Wx X a ta) (hb : SE C Wx X b tb) (hm : behindInMarks op b = false := by rfl) : STt C Wx X (.Compare a [op] [b] pos) (uVal (cBin g ta tb)) :=
  ⟨pt_imp (pt_cmpR ho ha.pe hb.pe hm) fun σ H Q q => by
    have q2 := rd_val q
    obtain ⟨F, U, μ, env, h, l, e, o⟩ := q2
    exact rd_bin hg ⟨F, U, μ, env, h, l, e, o⟩⟩
theorem st_not [Fed] (ha : STt C Wx X a ua) : STt C Wx X (.UnaryOp .Not a pos) (uNot ua) := ⟨pt_imp (pt_not ha.pt) fun σ H Q q => by
  obtain ⟨F, U, μ, env, h, l, e, o⟩ := q
  refine rd_step l e o fun x vx F1 U1 μ1 H1 h1 g1 p1 l1 r1 e1 o1 => ?_
  cases r1
  exact o1.hereB l1⟩
structure SW [Fed] (C : Cn) (Wx : XK) (X : Cx) (e : Expr) (t : Tx) : Prop where pw : PW X e (rdT C Wx t)
theorem SW.pt [Fed] (h : SW C Wx X a ua) : STt C Wx X a ua := ⟨h.pw.pt⟩
theorem pw_imp [Fed] {X : Cx} {e : Expr} {t t' : TT} (h : PW X e t) (i : ∀ σ H Q, t' σ H Q → t σ H Q) : PW X e t' := ⟨fun wh pins s σ H Q I q => h.run wh pins s σ H Q I (i _ _ _ q)⟩
theorem sw_and1 [Fed] (ha : STt C Wx X a ua) : SW C Wx X (.BoolOp .And [a] pos) ua := ⟨pw_and1 ha.pt⟩
theorem sw_or1 [Fed] (ha : STt C Wx X a ua) : SW C Wx X (.BoolOp .Or [a] pos) ua := ⟨pw_or1 ha.pt⟩
theorem sw_and [Fed] (ha : STt C Wx X a ua) (hb : SW C Wx X (.BoolOp .And (b :: rest) pos) ub) : SW C Wx X (.BoolOp .And (a :: b :: rest) pos) (uAnd ua ub) := ⟨pw_imp (pw_and ha.pt hb.pw) fun σ H Q q => by
  obtain ⟨F, U, μ, env, h, l, e, o⟩ := q
  refine rd_step l e o fun x vx F1 U1 μ1 H1 h1 g1 p1 l1 r1 e1 o1 => ?_
  cases r1
  cases x with
  | true => exact rd_go l1 e1 (by simpa using o1)
  | false => exact Out.hereB (by simpa using o1) l1⟩
theorem sw_or [Fed] (ha : STt C Wx X a ua) (hb : SW C Wx X (.BoolOp .Or (b :: rest) pos) ub) : SW C Wx X (.BoolOp .Or (a :: b :: rest) pos) (uOr ua ub) := ⟨pw_imp (pw_or ha.pt hb.pw) fun σ H Q q => by
  obtain ⟨F, U, μ, env, h, l, e, o⟩ := q
  refine rd_step l e o fun x vx F1 U1 μ1 H1 h1 g1 p1 l1 r1 e1 o1 => ?_
  cases r1
  cases x with
  | true => exact Out.hereB (by simpa using o1) l1
  | false => exact rd_go l1 e1 (by simpa using o1)⟩
def cIf (u : Tx) (ta tb : Ex) : Ex := fun env h => (u env h).bind fun x h1 => if x then ta env h1 else tb env h1
theorem se_if [Fed] (hc : STt C Wx X c ua) (ha : SE C Wx X a ta) (hb : SE C Wx X b tb) : SE C Wx X (.IfExp c a b pos) (cIf ua ta tb) := ⟨pe_imp (pe_ifExp hc.pt ha.pe hb.pe) fun σ H Q q => by
  obtain ⟨F, U, μ, env, h, l, e, o⟩ := q
  refine rd_step l e o fun x vx F1 U1 μ1 H1 h1 g1 p1 l1 r1 e1 o1 => ?_
  cases r1
  cases x with
  | true => rw [if_pos rfl]; exact rd_go l1 e1 (by simpa using o1)
  | false => rw [if_neg Bool.false_ne_true]; exact rd_go l1 e1 (by simpa using o1)⟩
/-- a < b < c -/
def cChain (g g' : G2) (ta tb tc : Ex) : Ex := fun env h => (ta env h).bind fun x h1 => (tb env h1).bind fun y h2 => (g x y h2).bind fun z h3 => match z with
  | .dat (.bool true) => (tc env h3).bind fun w h4 => g' y w h4
  | .dat (.bool false) => .ok (.dat (.bool false)) h3
  | _ => .no
end
end Pv

/-! Pv, part Z: zip and enumerate over lists and tuples in any mix. -/
namespace Pv
open PySem PySem.Spec PyProof.Rows L2

/-- a list (true) or a tuple (false) -/
def SqB (b : Bool) (K : PySem.W.Frag) (H : Hp) (a : Addr) (xs : List V) : Prop := if b = true then SqL K H a xs else SqT K H a xs
def ItemsB (b : Bool) (h : Heap) (a : Addr) (its : Array Value) : Prop := if b = true then h.IsList a its else h.IsTuple a its
def IterB (b : Bool) (h : Heap) (i a : Addr) (n : Nat) : Prop := if b = true then h.IsListIter i a n else h.IsTupleIter i a n
def itO (b : Bool) (l : Addr) : Obj := if b = true then { cls := .type "list_iterator", data := .fields #[.ref l, .int 0 0] } else { cls := .type "tuple_iterator", data := .fields #[.ref l, .int 0 0] }
section
variable {X : Cx} {pins : List (Addr × Obj)} {σ : L2.St} {H : Hp} {s : Shared} {a it : Addr} {xs ys : List V} {its : Array Value} {b : Bool} {h h' : Heap} {n : Nat}
theorem Inv.seqB (I : Inv X pins σ H s) (q : SqB b X.K H a xs) : ∃ its : List Value, Vals xs its ∧ ItemsB b s.heap a its.toArray := by
  cases b with
  | true => obtain ⟨its, r, p, _⟩ := I.list q; exact ⟨its, r, p.isList⟩
  | false => obtain ⟨its, r, p, _⟩ := I.tuple q; exact ⟨its, r, p⟩
theorem Inv.seqB_inj (I : Inv X pins σ H s) (q : SqB b X.K H a xs) (q' : SqB b X.K H a ys) : xs = ys := by
  cases b with
  | true => exact I.list_inj q q'
  | false => exact I.tuple_inj q q'
theorem ItemsB.there (q : ItemsB b h a its) : ∃ o, h.get? a = some o := by
  cases b with
  | true => obtain ⟨o, e, _⟩ := q; exact ⟨o, e⟩
  | false => obtain ⟨o, e, _⟩ := q; exact ⟨o, e⟩
theorem IterB.rec (q : IterB b h it a n) : ∃ o, h.get? it = some o ∧ ∀ v, o.data ≠ .cell v := by
  cases b with
  | true => obtain ⟨o, e, _, d⟩ := q; exact ⟨o, e, fun v z => by rw [d] at z; cases z⟩
  | false => obtain ⟨o, e, _, d⟩ := q; exact ⟨o, e, fun v z => by rw [d] at z; cases z⟩
theorem IterB.at (q : IterB b h it a n) (k : ∀ o, h.get? it = some o → h'.get? it = some o) : IterB b h' it a n := by
  cases b with
  | true => obtain ⟨o, e, c⟩ := q; exact ⟨o, k o e, c⟩
  | false => obtain ⟨o, e, c⟩ := q; exact ⟨o, k o e, c⟩
theorem drawsB (b : Bool) {prog : Program} {w : World} {A : Around} (hh : A.handled = none) (it l : Addr) (hne : l ≠ it) (items : Array Value) :
    Draws prog w A it [it, l] items.size (fun i v => items[i]? = some v) (fun i h => IterB b h it l i ∧ ItemsB b h l items) := by
  cases b with
  | true => exact Draws.list hh it l hne items
  | false => exact Draws.tuple hh it l hne items
theorem beginsB (b : Bool) (l : Addr) (items : Array Value) : Begins (.ref l) (itO b l) fun h => ItemsB b h l items := by
  cases b with
  | true => exact begins_list l items
  | false => exact begins_tuple l items
theorem iterB_new (b : Bool) (l : Addr) (e : h.get? it = some (itO b l)) : IterB b h it l 0 := by
  cases b with
  | true => exact ⟨_, e, rfl, rfl⟩
  | false => exact ⟨_, e, rfl, rfl⟩
end
theorem in1_none {A : Around} (h : A.handled = none) : A.in1.handled = none := h

/-- zip of two: the pairs are new tuples -/
def ItzB (b c : Bool) (K : PySem.W.Frag) (p q : Addr) : It :=
  ⟨fun i H => ∃ (xs ys : List V) (x y : V), SqB b K H p xs ∧ SqB c K H q ys ∧ xs[i]? = some x ∧ ys[i]? = some y,
    fun i H v H' => ∃ T x y, v = .ref T ∧ H T = none ∧ H' = upd H T (.tup [x, y]) ∧ (∀ xs, SqB b K H p xs → xs[i]? = some x) ∧ ∀ ys, SqB c K H q ys → ys[i]? = some y,
    fun i H => ∃ xs ys : List V, SqB b K H p xs ∧ SqB c K H q ys ∧ i ≤ xs.length ∧ i ≤ ys.length ∧ (i = xs.length ∨ i = ys.length)⟩
def AtZ (b c : Bool) (z TI TO i1 i2 p q : Addr) (i : Nat) (h : Heap) : Prop := IsZip h z TI TO .none ∧ IsTupOf2 h TI (.ref i1) (.ref i2) ∧ (∃ x y, IsTupOf2 h TO x y) ∧ IterB b h i1 p i ∧ IterB c h i2 q i
theorem turn_zipB {P : Program} {w : World} {K : PySem.W.Frag} {elts : List Expr} {kk : Nat} {tpos : Pos} {b c : Bool} {p q z TI TO i1 i2 : Addr} (S : ZipSep2 z TI TO i1 i2 [i1, p] [i2, q]) :
    Turn P w K (.Tuple elts kk tpos) (ItzB b c K p q) [z, TI, TO, i1, i2] z (AtZ b c z TI TO i1 i2 p q) where
  mem := by simp
  obj := fun i h st a ha => by
    obtain ⟨hz, hTI, ⟨x, y, hTO⟩, h1, h2⟩ := st
    have e' : a = z ∨ a = TI ∨ a = TO ∨ a = i1 ∨ a = i2 := by simpa using ha
    rcases e' with e | e | e | e | e <;> subst e
    · exact ⟨_, hz, fun v r => nomatch r⟩
    · exact ⟨_, hTI, fun v r => nomatch r⟩
    · exact ⟨_, hTO, fun v r => nomatch r⟩
    · exact h1.rec
    · exact h2.rec
  keep := fun i h h' st k => by
    obtain ⟨hz, hTI, ⟨x, y, hTO⟩, h1, h2⟩ := st
    exact ⟨k z (by simp) _ hz, k TI (by simp) _ hTI, ⟨x, y, k TO (by simp) _ hTO⟩, h1.at fun o r => k i1 (by simp) o r, h2.at fun o r => k i2 (by simp) o r⟩
  item := by
    intro X hP hw hK hc i pins s σ H E I hf st hg
    subst hP hw hK
    obtain ⟨hz, hTI, ⟨x0, y0, hTO⟩, h1, h2⟩ := st
    obtain ⟨xs, ys, x, y, hqx, hqy, hx, hy⟩ := hg
    obtain ⟨its, rv, p1⟩ := Inv.seqB I hqx
    obtain ⟨its2, rv2, p2⟩ := Inv.seqB I hqy
    obtain ⟨u, hu, ru⟩ := rv.get hx
    obtain ⟨u2, hu2, ru2⟩ := rv2.get hy
    have hh := in1_none (I.ok.hd hc)
    have hpi : p ≠ i1 := fun e => by
      have := S.sep1_2
      obtain ⟨o, eo⟩ := p1.there
      obtain ⟨o', eo', d⟩ := h1.rec
      have n1 := (hf i1 (by simp)).1
      subst e
      cases b with
      | true => obtain ⟨o1, q1, q2, _, q3⟩ := p1; obtain ⟨o2, r1, r2, r3⟩ := h1; rw [q1] at r1; cases r1; rw [q2] at r2; simp at r2
      | false => obtain ⟨o1, q1, q2, _, q3⟩ := p1; obtain ⟨o2, r1, r2, r3⟩ := h1; rw [q1] at r1; cases r1; rw [q2] at r2; simp at r2
    have hqi : q ≠ i2 := fun e => by
      subst e
      cases c with
      | true => obtain ⟨o1, q1, q2, _, q3⟩ := p2; obtain ⟨o2, r1, r2, r3⟩ := h2; rw [q1] at r1; cases r1; rw [q2] at r2; simp at r2
      | false => obtain ⟨o1, q1, q2, _, q3⟩ := p2; obtain ⟨o2, r1, r2, r3⟩ := h2; rw [q1] at r1; cases r1; rw [q2] at r2; simp at r2
    have hzl : z < s.heap.objs.size := Heap.lt_size hz
    have l1 : i < its.toArray.size := by rw [List.size_toArray]; exact (List.getElem?_eq_some_iff.mp hu).1
    have l2 : i < its2.toArray.size := by rw [List.size_toArray]; exact (List.getElem?_eq_some_iff.mp hu2).1
    refine wpAny_pyNext_zipD2_item S (drawsB b hh i1 p hpi its.toArray) (drawsB c hh i2 q hqi its2.toArray) hz hTI hTO ⟨h1, p1⟩ ⟨h2, p2⟩ l1 l2 fun x1 x2 h' tk e1 e2 z' TO' d1 d2 hT hsz hk => ?_
    have ex1 : x1 = u := by simpa [hu] using e1.symm
    have ex2 : x2 = u2 := by simpa [hu2] using e2.symm
    subst ex1 ex2
    refine ⟨_, rfl, wpAny_letOwnedTupleGo_zip (s := { s with heap := h', toks := tk }) z' fun h'' z'' sb => ?_⟩
    have hT2 : h''.get? s.heap.objs.size = some { cls := .type "tuple", data := .seq #[x1, x2] } := (sb.2 _ (Nat.ne_of_gt hzl)).trans hT
    have new : ObjOk X.prog X.w (upd H s.heap.objs.size (.tup [x, y])) h'' s.heap.objs.size (.tup [x, y]) :=
      ⟨by show 2 ≤ sizeLine; decide, [x1, x2], .cons ru (.cons ru2 .nil), ⟨_, hT2, rfl, _, rfl⟩⟩
    have I1 : Inv X pins σ (upd H s.heap.objs.size (.tup [x, y])) { s with heap := h'', toks := tk } :=
      I.turnedNew (ch := [z, TI, TO, i1, i2]) (fun a o ha r => (sb.2 a (fun e => ha (by simp [e]))).trans (hk a o (fun e => ha (by simp [e])) (fun e => ha (by simp [e])) (fun e => ha (by simp [e])) (fun e => ha (by simp [e])) r)) hf (Nat.le_refl _) new
    refine ⟨.ref s.heap.objs.size, _, I1, rfl, ⟨_, x, y, rfl, I.hok.fresh (Nat.le_refl _), rfl, fun l hl => by rw [Inv.seqB_inj I hl hqx]; exact hx, fun l hl => by rw [Inv.seqB_inj I hl hqy]; exact hy⟩, ⟨z'', ?_, ⟨x1, x2, ?_⟩, ?_, ?_⟩, fun a ha => ?_⟩
    · exact (sb.2 _ S.TIz).trans (hk _ _ S.TIz S.TITO S.TIi1 S.TIi2 hTI)
    · exact (sb.2 _ S.TOz).trans TO'
    · exact d1.1.at fun o r => (sb.2 _ (Ne.symm S.zi1)).trans r
    · exact d2.1.at fun o r => (sb.2 _ (Ne.symm S.zi2)).trans r
    · have hlt : a < s.heap.objs.size := by
        have e' : a = z ∨ a = TI ∨ a = TO ∨ a = i1 ∨ a = i2 := by simpa using ha
        rcases e' with e | e | e | e | e <;> subst e
        · exact hzl
        · exact Heap.lt_size hTI
        · exact Heap.lt_size hTO
        · obtain ⟨_, e1, _⟩ := h1.rec; exact Heap.lt_size e1
        · obtain ⟨_, e2, _⟩ := h2.rec; exact Heap.lt_size e2
      rw [upd_ne (Nat.ne_of_lt hlt)]
      exact (hf a ha).1
  done := by
    intro X hP hw hK hc i pins s σ H E I hf st hg
    subst hP hw hK
    obtain ⟨hz, hTI, ⟨x0, y0, hTO⟩, h1, h2⟩ := st
    obtain ⟨xs, ys, hqx, hqy, hl1, hl2, hend⟩ := hg
    obtain ⟨its, rv, p1⟩ := Inv.seqB I hqx
    obtain ⟨its2, rv2, p2⟩ := Inv.seqB I hqy
    have hh := in1_none (I.ok.hd hc)
    have hpi : p ≠ i1 := fun e => by
      subst e
      cases b with
      | true => obtain ⟨o1, q1, q2, _, q3⟩ := p1; obtain ⟨o2, r1, r2, r3⟩ := h1; rw [q1] at r1; cases r1; rw [q2] at r2; simp at r2
      | false => obtain ⟨o1, q1, q2, _, q3⟩ := p1; obtain ⟨o2, r1, r2, r3⟩ := h1; rw [q1] at r1; cases r1; rw [q2] at r2; simp at r2
    have hqi : q ≠ i2 := fun e => by
      subst e
      cases c with
      | true => obtain ⟨o1, q1, q2, _, q3⟩ := p2; obtain ⟨o2, r1, r2, r3⟩ := h2; rw [q1] at r1; cases r1; rw [q2] at r2; simp at r2
      | false => obtain ⟨o1, q1, q2, _, q3⟩ := p2; obtain ⟨o2, r1, r2, r3⟩ := h2; rw [q1] at r1; cases r1; rw [q2] at r2; simp at r2
    have e1 := rv.length
    have e2 := rv2.length
    refine wpAny_pyNext_zipD2_end S (drawsB b hh i1 p hpi its.toArray) (drawsB c hh i2 q hqi its2.toArray) hz hTI hTO ⟨h1, p1⟩ ⟨h2, p2⟩ (by simp; omega) (by simp; omega) (by simp; omega) fun h' tk hk => ⟨rfl, ?_⟩
    exact I.turnedL (ch := [z, TI, TO, i1, i2]) (fun a o ha r => hk a o (fun e => ha (by simp [e])) (fun e => ha (by simp [e])) (fun e => ha (by simp [e])) (fun e => ha (by simp [e])) r) hf
  self := fun A i s Q E st h => wpAny_pyIter_zip st.1 h

def iZipB (K : PySem.W.Frag) (ta : TA) : TI := fun σ H R => ta σ H fun vs H1 => ∃ (b c : Bool) (p q : Addr) (xs ys : List V), vs = [.ref p, .ref q] ∧ SqB b K H1 p xs ∧ SqB c K H1 q ys ∧ R (ItzB b c K p q) H1
theorem pi_zipB {X : Cx} {e e2 : Expr} {ta : TA} {p pos tpos : Pos} {elts : List Expr} {kk : Nat} (hg : Gl X "zip") (hm : X.mg "zip" = none) (ha : PA X [e, e2] ta)
    (hs : starEach [e, e2] X.env = (false, eval e X.env) :: starEach [e2] X.env := by rfl) (hpl : (backTo pos (starEach [e2] X.env)).any (·.1) = false := by rfl) :
    PI X (.Tuple elts kk tpos) (.Call (.Name "zip" p) [e, e2] [] pos) (iZipB X.K ta) := by
  refine ⟨fun pins s σ H R I h => ?_⟩
  refine Call_ (ld_blt I hg hm PyProof.Rows.boot_zip (PyProof.Rows.callWith_type1 (thn (ha.run pos pins s σ H _ I h) fun us s1 ⟨vs, H1, I1, r1, q1⟩ => ?_) hs hpl))
  obtain ⟨b, c, a1, a2, xs, ys, ex, hqx, hqy, q⟩ := q1
  subst ex
  obtain ⟨v1, v2, rfl, r1, r2⟩ := vals2 r1
  cases r1
  cases r2
  obtain ⟨its, rv, p1⟩ := Inv.seqB I1 hqx
  obtain ⟨its2, rv2, p2⟩ := Inv.seqB I1 hqy
  obtain ⟨o1, ho1⟩ := p1.there
  obtain ⟨o2, ho2⟩ := p2.there
  have hl1 := Heap.lt_size ho1
  have hl2 := Heap.lt_size ho2
  refine zip_begins2 (beginsB b a1 its.toArray) (beginsB c a2 its2.toArray) p1 p2 fun h' hz hTI hTO h1 h2 hsz hk => wpAny_pyIter_zip hz ?_
  have I2 : Inv X pins σ H1 { s1 with heap := h' } := I1.kept (t' := s1.toks) hk
  refine ⟨s1.heap.objs.size + 4, [s1.heap.objs.size + 4, s1.heap.objs.size + 2, s1.heap.objs.size + 3, s1.heap.objs.size, s1.heap.objs.size + 1], _, _, H1, rfl, I2, turn_zipB (zip_sep2 (N := s1.heap.objs.size) (fp1 := [a1]) (fp2 := [a2]) ?_ ?_), ⟨hz, hTI, ⟨_, _, hTO⟩, iterB_new b a1 h1, iterB_new c a2 h2⟩, fun a ha => ?_, q⟩
  · intro x hx
    have : x = a1 := by simpa using hx
    subst this; exact hl1
  · intro x hx
    have : x = a2 := by simpa using hx
    subst this; exact hl2
  · have e' : a = s1.heap.objs.size + 4 ∨ a = s1.heap.objs.size + 2 ∨ a = s1.heap.objs.size + 3 ∨ a = s1.heap.objs.size ∨ a = s1.heap.objs.size + 1 := by simpa using ha
    have hle : s1.heap.objs.size ≤ a := by rcases e' with z | z | z | z | z <;> (rw [z]; first | exact Nat.le_add_right _ _ | exact Nat.le_refl _)
    exact I1.fpOk hle (I1.hok.fresh hle)

/-! ### enumerate -/
set_option maxHeartbeats 1000000 in
theorem meets_enum1 {v : Value} {o : Obj} {G : Heap → Prop} (B : Begins v o G) :
    Meets (Builtin.«enumerate.__new__» ⟨[.type "enumerate", v], []⟩) (fun _ R s => G s.heap ∧
      R (.ok (.ret (.ref (s.heap.push o).objs.size))) { s with heap := (s.heap.push o).push { cls := .type "enumerate", data := .fields #[.none, .bool false, .ref s.heap.objs.size, rawInt 0, .none, .none] } }) :=
  .of_wp fun prog w A R s h => by
    obtain ⟨hp, g, d, tk, os⟩ := s
    obtain ⟨h1, h⟩ := h
    have hsub := sub_enumerate
    have begin1 : ∀ {A' : Around} {E : Value → Shared → Prop} {Q : Value → Shared → Prop}, Q (.ref hp.objs.size) ⟨hp.push o, g, d, tk, os⟩ → wpAny (model prog w) A' (pyIter v) Q E ⟨hp, g, d, tk, os⟩ :=
      fun q => B.iter prog w _ _ ⟨hp, g, d, tk, os⟩ _ h1 q
    wp_walk using begin1
    refine wpAny_stack_any fun st => wpAny_pure ?_
    split
    · rename_i c _ _ _ _ _
      cases (c == Value.type "enumerate") <;> (wp_walk using begin1; exact ⟨_, rfl, h⟩)
    · wp_walk using begin1
      exact ⟨_, rfl, h⟩
theorem enum1 {prog : Program} {w : World} {A : Around} {E : Value → Shared → Prop} {s : Shared} {v : Value} {o : Obj} {G : Heap → Prop} {Q : Value → Shared → Prop} (B : Begins v o G) (h1 : G s.heap)
    (h : ∀ h', IsEnum h' (s.heap.objs.size + 1) s.heap.objs.size 0 .none → h'.get? s.heap.objs.size = some o → h'.objs.size = s.heap.objs.size + 2 →
      (∀ b o, s.heap.get? b = some o → h'.get? b = some o) → Q (.ref (s.heap.objs.size + 1)) { s with heap := h' }) : wpAny (model prog w) A (call (.type "enumerate") [v]) Q E s := by
  refine callType_new F.called_enumerate (by decide) (F.typeCall_enumerate_1 _) (F.newCall_enumerate_1 _) (fun obj => F.args_object_init_2 obj _) F.entry_enumerate_new (meets_enum1 B) ⟨h1, ?_⟩
  have hz : (s.heap.push o).objs.size = s.heap.objs.size + 1 := Heap.size_push ..
  show _ ∧ _
  rw [hz]
  have he : IsEnum ((s.heap.push o).push { cls := .type "enumerate", data := .fields #[.none, .bool false, .ref s.heap.objs.size, rawInt 0, .none, .none] }) (s.heap.objs.size + 1) s.heap.objs.size 0 .none := by
    have q := Heap.get?_push_size (s.heap.push o) (o := { cls := .type "enumerate", data := .fields #[.none, .bool false, .ref s.heap.objs.size, rawInt 0, .none, .none] }) rfl
    rw [hz] at q
    exact q
  exact ⟨⟨_, he, rfl⟩, h _ he (Heap.get?_push_of_some _ (Heap.get?_push_size _ B.free)) (by rw [Heap.size_push, hz]) fun b o x => Heap.get?_push_of_some _ (Heap.get?_push_of_some _ x)⟩
def IteB (b : Bool) (K : PySem.W.Frag) (p : Addr) : It :=
  ⟨fun i H => ∃ (xs : List V) (x : V), SqB b K H p xs ∧ xs[i]? = some x, fun i H v H' => ∃ T x, v = .ref T ∧ H T = none ∧ H' = upd H T (.tup [.int (i : Nat), x]) ∧ ∀ xs, SqB b K H p xs → xs[i]? = some x,
    fun i H => ∃ xs : List V, SqB b K H p xs ∧ i = xs.length⟩
theorem turn_enumB {P : Program} {w : World} {K : PySem.W.Frag} {elts : List Expr} {kk : Nat} {tpos : Pos} {b : Bool} (p e it : Addr) (hne : e ≠ it) (hep : e ≠ p) :
    Turn P w K (.Tuple elts kk tpos) (IteB b K p) [e, it] e (fun i h => (∃ old, IsEnum h e it ((i : Nat) : Int) old) ∧ IterB b h it p i) where
  mem := by simp
  obj := fun i h st a ha => by
    obtain ⟨⟨old, he⟩, hi⟩ := st
    have e' : a = e ∨ a = it := by simpa using ha
    rcases e' with z | z <;> subst z
    · exact ⟨_, he, fun v q => nomatch q⟩
    · exact hi.rec
  keep := fun i h h' st k => let ⟨⟨old, he⟩, hi⟩ := st; ⟨⟨old, k e (by simp) _ he⟩, hi.at fun o q => k it (by simp) o q⟩
  item := by
    intro X hP hw hK hc i pins s σ H E I hf st hg
    subst hP hw hK
    obtain ⟨⟨old, he⟩, hit⟩ := st
    obtain ⟨xs, x, hq, hx⟩ := hg
    obtain ⟨its, rv, p1⟩ := Inv.seqB I hq
    obtain ⟨u, hu, ru⟩ := rv.get hx
    have hh := in1_none (I.ok.hd hc)
    have hel : e < s.heap.objs.size := Heap.lt_size he
    have hil : it < s.heap.objs.size := by obtain ⟨_, q, _⟩ := hit.rec; exact Heap.lt_size q
    have hpi : p ≠ it := fun e => by
      subst e
      cases b with
      | true => obtain ⟨o1, q1, q2, _, q3⟩ := p1; obtain ⟨o2, r1, r2, r3⟩ := hit; rw [q1] at r1; cases r1; rw [q2] at r2; simp at r2
      | false => obtain ⟨o1, q1, q2, _, q3⟩ := p1; obtain ⟨o2, r1, r2, r3⟩ := hit; rw [q1] at r1; cases r1; rw [q2] at r2; simp at r2
    have l1 : i < its.toArray.size := by rw [List.size_toArray]; exact (List.getElem?_eq_some_iff.mp hu).1
    refine wpAny_pyNext_enum_itemC (drawsB b hh it p hpi its.toArray) he ⟨hit, p1⟩ l1 hne (by simp [hne, hep]) fun x1 h' tk e1 ho d1 hT hsz hk => ?_
    have ex1 : x1 = u := by simpa [hu] using e1.symm
    subst ex1
    refine ⟨_, rfl, wpAny_letOwnedTupleGo_enum (s := { s with heap := h', toks := tk + 1 }) ho fun h'' he' sb => ?_⟩
    have hT2 : h''.get? s.heap.objs.size = some { cls := .type "tuple", data := .seq #[.int i tk, x1] } := (sb.2 _ (Nat.ne_of_gt hel)).trans hT
    have new : ObjOk X.prog X.w (upd H s.heap.objs.size (.tup [.int (i : Nat), x])) h'' s.heap.objs.size (.tup [.int (i : Nat), x]) :=
      ⟨by show 2 ≤ sizeLine; decide, [.int i tk, x1], .cons ⟨_, rfl⟩ (.cons ru .nil), ⟨_, hT2, rfl, _, rfl⟩⟩
    have I1 : Inv X pins σ (upd H s.heap.objs.size (.tup [.int (i : Nat), x])) { s with heap := h'', toks := tk + 1 } :=
      I.turnedNew (ch := [e, it]) (fun a ob ha r => (sb.2 a (fun z => ha (by simp [z]))).trans (hk a ob (fun z => ha (by simp [z])) (fun z => ha (by simp [z])) r)) hf (Nat.le_refl _) new
    refine ⟨.ref s.heap.objs.size, _, I1, rfl, ⟨_, x, rfl, I.hok.fresh (Nat.le_refl _), rfl, fun ys hy => by rw [Inv.seqB_inj I hy hq]; exact hx⟩, ⟨⟨x1, ?_⟩, d1.1.at fun o r => (sb.2 it (Ne.symm hne)).trans r⟩, fun a ha => ?_⟩
    · have e1 : ((i + 1 : Nat) : Int) = (i : Int) + 1 := by omega
      rw [e1]; exact he'
    · have hb' : a < s.heap.objs.size := by
        have e' : a = e ∨ a = it := by simpa using ha
        rcases e' with z | z <;> subst z
        · exact hel
        · exact hil
      rw [upd_ne (Nat.ne_of_lt hb')]
      exact (hf a ha).1
  done := by
    intro X hP hw hK hc i pins s σ H E I hf st hg
    subst hP hw hK
    obtain ⟨⟨old, he⟩, hit⟩ := st
    obtain ⟨xs, hq, hx⟩ := hg
    obtain ⟨its, rv, p1⟩ := Inv.seqB I hq
    have hh := in1_none (I.ok.hd hc)
    have hpi : p ≠ it := fun e => by
      subst e
      cases b with
      | true => obtain ⟨o1, q1, q2, _, q3⟩ := p1; obtain ⟨o2, r1, r2, r3⟩ := hit; rw [q1] at r1; cases r1; rw [q2] at r2; simp at r2
      | false => obtain ⟨o1, q1, q2, _, q3⟩ := p1; obtain ⟨o2, r1, r2, r3⟩ := hit; rw [q1] at r1; cases r1; rw [q2] at r2; simp at r2
    have hl := rv.length
    have hi : i = its.toArray.size := by simp; omega
    subst hi
    exact wpAny_pyNext_enum_endD (drawsB b hh it p hpi its.toArray) he ⟨hit, p1⟩ fun h' eb => ⟨rfl, I.turnedL (t' := s.toks) (ch := [e, it]) (fun a o ha r => eb a o (fun z => ha (by simp [z])) r) hf⟩
  self := fun A i s Q E st h => let ⟨⟨_, he⟩, _⟩ := st; wpAny_pyIter_enum he h
def iEnumB (K : PySem.W.Frag) (ta : TA) : TI := fun σ H R => ta σ H fun vs H1 => ∃ (b : Bool) (p : Addr) (xs : List V), vs = [.ref p] ∧ SqB b K H1 p xs ∧ R (IteB b K p) H1
theorem pi_enumB {X : Cx} {e : Expr} {ta : TA} {p pos tpos : Pos} {elts : List Expr} {kk : Nat} (hg : Gl X "enumerate") (hm : X.mg "enumerate" = none) (ha : PA X [e] ta) (hs : starEach [e] X.env = [(false, eval e X.env)] := by rfl) :
    PI X (.Tuple elts kk tpos) (.Call (.Name "enumerate" p) [e] [] pos) (iEnumB X.K ta) := by
  refine ⟨fun pins s σ H R I h => ?_⟩
  refine Call_ (ld_blt I hg hm boot_enumerate (PyProof.Rows.callWith_type1 (thn (ha.run pos pins s σ H _ I h) fun us s1 ⟨vs, H1, I1, r1, q1⟩ => ?_) hs rfl))
  obtain ⟨b, a, xs, ex, hq, q⟩ := q1
  subst ex
  obtain ⟨v1, rfl, rv1⟩ := vals1 r1
  obtain rfl : v1 = Value.ref a := rv1
  obtain ⟨its, rv, p1⟩ := Inv.seqB I1 hq
  obtain ⟨o1, ho1⟩ := p1.there
  have hl1 := Heap.lt_size ho1
  refine enum1 (beginsB b a its.toArray) p1 fun h' he hit hsz hk => wpAny_pyIter_enum he ?_
  have I2 : Inv X pins σ H1 { s1 with heap := h' } := I1.kept (t' := s1.toks) hk
  refine ⟨s1.heap.objs.size + 1, [s1.heap.objs.size + 1, s1.heap.objs.size], _, _, H1, rfl, I2, turn_enumB a (s1.heap.objs.size + 1) s1.heap.objs.size (Nat.succ_ne_self _) (Nat.ne_of_gt (Nat.lt_succ_of_lt hl1)), ⟨⟨.none, he⟩, iterB_new b a hit⟩, fun x hx => ?_, q⟩
  have e' : x = s1.heap.objs.size + 1 ∨ x = s1.heap.objs.size := by simpa using hx
  have hle : s1.heap.objs.size ≤ x := by
    rcases e' with z | z
    · rw [z]; exact Nat.le_add_right _ _
    · rw [z]; exact Nat.le_refl _
  exact I1.fpOk hle (I1.hok.fresh hle)
end Pv

/-! Pv, part C: displays, subscripts, slices, calls of built-ins. -/
namespace Pv
open PySem PySem.Spec PyProof.Rows L2

/-! ### argument lists -/
def aNil : Ax := fun _ h => .ok [] h
def aCons (ta : Ex) (tr : Ax) : Ax := fun env h => (ta env h).bind fun x h1 => (tr env h1).bind fun xs h2 => .ok (x :: xs) h2
def seqOf : Option PD → Option (List PD)
  | some (.list xs) => some xs
  | some (.tuple xs) => some xs
  | _ => none
def aStar (ta : Ex) (tr : Ax) : Ax := fun env h => (ta env h).bind fun x h1 => match seqOf (vw x h1) with
  | some ds => (tr env h1).bind fun xs h2 => .ok (ds.map Sl.dat ++ xs) h2
  | none => .no
theorem seqOf_ok [Fed] {K : PySem.W.Frag} {F U H : Hp} {μ : List Addr} {h : AH} {v : V} {x : Sl} {ds : List PD} (l : Lk K F U μ H h) (r : SlR K F μ v x) (e : seqOf (vw x h) = some ds) : ∃ a vs, v = .ref a ∧ (SqT K H a vs ∨ SqL K H a vs) ∧ RDs K F vs ds := by
  cases q : vw x h with
  | none => rw [q] at e; cases e
  | some d =>
    rw [q] at e
    have z := vw_ok l r q
    cases z with
    | lst s d => have e' := Option.some.inj e; subst e'; exact ⟨_, _, rfl, .inr s, d⟩
    | tup s d => have e' := Option.some.inj e; subst e'; exact ⟨_, _, rfl, .inl s, d⟩
    | _ => cases e
theorem slRs_dat [Fed] {K : PySem.W.Frag} {F : Hp} {μ : List Addr} : ∀ {vs : List V} {ds : List PD}, RDs K F vs ds → SlRs K F μ vs (ds.map Sl.dat)
  | _, _, .nil => .nil
  | _, _, .cons a b => .cons a (slRs_dat b)
theorem slRs_app [Fed] {K : PySem.W.Frag} {F : Hp} {μ : List Addr} : ∀ {vs ws : List V} {xs ys : List Sl}, SlRs K F μ vs xs → SlRs K F μ ws ys → SlRs K F μ (vs ++ ws) (xs ++ ys)
  | _, _, _, _, .nil, b => b
  | _, _, _, _, .cons a r, b => .cons a (slRs_app r b)
def tStar (K : PySem.W.Frag) (te : TE) (t : TA) : TA := fun σ H Q => te σ H fun x H1 => ∃ a xs, x = .ref a ∧ (SqT K H1 a xs ∨ SqL K H1 a xs) ∧ t σ H1 fun ys H2 => Q (xs ++ ys) H2
section
variable {C : Cn} {Wx : XK} {X : Cx} {e : Expr} {es : List Expr} {ta : Ex} {tr : Ax} {pos p : Pos}
theorem pa_star [Fed] {te : TE} {t : TA} (ha : PE X e te) (hr : PA X es t) (hs : starEach (.Starred e p :: es) X.env = (true, eval e X.env) :: starEach es X.env := by rfl) : PA X (.Starred e p :: es) (tStar X.K te t) := by
  refine ⟨fun pos pins s σ H Q I q => ?_⟩
  refine PySem.W.items_star (thn (ha.run pins s σ H _ I q) fun v s1 ⟨x, H1, I1, r1, a, xs, e1, hq, q1⟩ => ?_) hs
  subst e1
  obtain rfl : v = Value.ref a := r1
  exact StX.star_any I1 hq fun us s' I' rv => thn (hr.run pos pins s' σ H1 _ I' q1) fun ws s2 ⟨ys, H2, I2, r2, q2⟩ => ⟨xs ++ ys, H2, I2, rv.append r2, q2⟩
theorem sa_nil [Fed] : SA C Wx X [] aNil := ⟨pa_imp pa_nil fun σ H Q q => by
  obtain ⟨F, U, μ, env, h, l, e, o⟩ := q
  exact o.hereA l .nil⟩
theorem sa_cons [Fed] (ha : SE C Wx X e ta) (hr : SA C Wx X es tr) (hs : starEach (e :: es) X.env = (false, eval e X.env) :: starEach es X.env := by rfl) : SA C Wx X (e :: es) (aCons ta tr) := ⟨pa_imp (pa_cons ha.pe hr.pa hs) fun σ H Q q => by
  obtain ⟨F, U, μ, env, h, l, e, o⟩ := q
  refine rd_step l e o fun x vx F1 U1 μ1 H1 h1 g1 p1 l1 r1 e1 o1 => rd_step l1 e1 o1 fun xs vs F2 U2 μ2 H2 h2 g2 p2 l2 r2 e2 o2 => ?_
  exact o2.hereA l2 (.cons (r1.mono g2.f p2) r2)⟩
theorem sa_star [Fed] (ha : SE C Wx X e ta) (hr : SA C Wx X es tr) (hK : X.K = C.K := by rfl) (hs : starEach (.Starred e p :: es) X.env = (true, eval e X.env) :: starEach es X.env := by rfl) : SA C Wx X (.Starred e p :: es) (aStar ta tr) := ⟨pa_imp (pa_star ha.pe hr.pa hs) fun σ H Q q => by
  obtain ⟨F, U, μ, env, h, l, e, o⟩ := q
  refine rd_step l e o fun x vx F1 U1 μ1 H1 h1 g1 p1 l1 r1 e1 o1 => ?_
  split at o1
  · rename_i ds ed
    obtain ⟨a, vs, e2, hq, hd⟩ := seqOf_ok l1 r1 ed
    rw [hK]
    refine ⟨a, vs, e2, hq, rd_step l1 e1 o1 fun xs ws F2 U2 μ2 H2 h2 g2 p2 l2 r2 e2 o2 => ?_⟩
    exact o2.hereA l2 (slRs_app (slRs_dat (hd.mono g2.f)) r2)
  · exact o1.elim⟩
end
/-! ### displays -/
def dats : List Sl → Option (List PD)
  | [] => some []
  | .dat d :: xs => match dats xs with
    | some ds => some (d :: ds)
    | none => none
  | _ :: _ => none
theorem dats_ok [Fed] {K : PySem.W.Frag} {F : Hp} {μ : List Addr} : ∀ {vs : List V} {xs : List Sl} {ds : List PD}, SlRs K F μ vs xs → dats xs = some ds → RDs K F vs ds
  | _, _, _, .nil, e => by cases e; exact .nil
  | _, _, ds, .cons (a := v) (b := x) r t, e => by
    cases x with
    | dat d =>
      unfold dats at e
      split at e
      · rename_i ds' e'
        cases e
        exact .cons r (dats_ok t e')
      · cases e
    | _ => cases e
def cTup (ta : Ax) : Ex := fun env h => (ta env h).bind fun xs h1 => match dats xs with
  | some ds => if ds.length ≤ sizeLine then .ok (.dat (.tuple ds)) h1 else .no
  | none => .no
def cLst (ob : Bool) (ta : Ax) : Ex := fun env h => (ta env h).bind fun xs h1 => match dats xs with
  | some ds => if ds.length ≤ sizeLine then (if ob then .ok (.obj h1.length) (h1 ++ [.lst ds]) else .ok (.dat (.list ds)) h1) else .no
  | none => .no
section
variable {C : Cn} {Wx : XK} {X : Cx} {e : Expr} {es : List Expr} {ta : Ax} {pos p : Pos}
theorem se_tup [Fed] {x1} (ha : SA C Wx X es ta) : SE C Wx X (.Tuple es x1 pos) (cTup ta) := ⟨pe_imp (pe_tup ha.pa) fun σ H Q q => by
  obtain ⟨F, U, μ, env, h, l, e, o⟩ := q
  refine rd_step l e o fun x vx F1 U1 μ1 H1 h1 g1 p1 l1 r1 e1 o1 => ?_
  split at o1
  · rename_i ds ed
    have hd := dats_ok r1 ed
    split at o1
    · rename_i hz
      exact ⟨by rw [hd.len]; exact hz, fun p hp => o1.newT l1 hd hp⟩
    · exact o1.elim
  · exact o1.elim⟩
theorem se_lst [Fed] (ob : Bool) (ha : SA C Wx X es ta) : SE C Wx X (.List es pos) (cLst ob ta) := ⟨pe_imp (pe_lst ha.pa) fun σ H Q q => by
  obtain ⟨F, U, μ, env, h, l, e, o⟩ := q
  refine rd_step l e o fun x vx F1 U1 μ1 H1 h1 g1 p1 l1 r1 e1 o1 => ?_
  split at o1
  · rename_i ds ed
    have hd := dats_ok r1 ed
    split at o1
    · rename_i hz
      refine ⟨by rw [hd.len]; exact hz, fun p hp => ?_⟩
      cases ob with
      | true => exact Out.newO (by simpa using o1) l1 hd hp
      | false => exact Out.newL (by simpa using o1) l1 hd hp
    · exact o1.elim
  · exact o1.elim⟩
end
/-! ### subscripts, slices -/
def gIx : G2 := fun a b h => match seqOf (vw a h), b with
  | some ds, .anyI n => if n ≤ ds.length then .ok .unk h else .no
  | some ds, .dat (.int i) => match atI ds i with
    | some d => .ok (.dat d) h
    | none => .no
  | _, _ => .no
theorem RDs.atI [Fed] {K : PySem.W.Frag} {F : Hp} {vs : List V} {ds : List PD} {i : Int} {d : PD} (r : RDs K F vs ds) (e : L2.atI ds i = some d) : ∃ v, L2.atI vs i = some v ∧ RD K F v d := by
  unfold L2.atI at e ⊢
  rw [r.len]
  cases q : ixN ds.length i with
  | none => rw [q] at e; cases e
  | some j =>
    rw [q] at e
    exact r.get (show ds[j]? = some d from e)
def rIx2 (K : PySem.W.Frag) : R2 := fun x y H Q => rIxL K x y H Q ∨ rIxT K x y H Q
theorem od_ix [Fed] {K : PySem.W.Frag} : OpD K (rIx2 K) gIx := by
  intro C hC F U μ H h W x y a b Q l ra rb o
  subst hC
  unfold gIx at o
  split at o
  · rename_i ds n e1
    obtain ⟨p, vs, rfl, hq, hd⟩ := seqOf_ok l ra e1
    obtain ⟨i, rfl, hi0, hin⟩ := rb
    split at o
    · rename_i hn
      have e2 : ∃ v, L2.atI vs i = some v := by
        unfold L2.atI ixN
        rw [hd.len, if_pos hi0, if_pos (by omega)]
        exact ⟨_, List.getElem?_eq_getElem (by rw [hd.len]; omega)⟩
      obtain ⟨v, e3⟩ := e2
      rcases hq with hq | hq
      · exact .inr ⟨p, vs, i, v, rfl, rfl, hq, e3, o.here l trivial⟩
      · exact .inl ⟨p, vs, i, v, rfl, rfl, hq, e3, o.here l trivial⟩
    · exact o.elim
  · rename_i ds i e1
    obtain ⟨p, vs, rfl, hq, hd⟩ := seqOf_ok l ra e1
    cases rb
    split at o
    · rename_i d e2
      obtain ⟨v, e3, rv⟩ := hd.atI e2
      rcases hq with hq | hq
      · exact .inr ⟨p, vs, i, v, rfl, rfl, hq, e3, o.here l rv⟩
      · exact .inl ⟨p, vs, i, v, rfl, rfl, hq, e3, o.here l rv⟩
    · exact o.elim
  · exact o.elim
section
variable {C : Cn} {Wx : XK} {X : Cx} {a b : Expr} {ta tb : Ex} {pos : Pos}
theorem se_ix [Fed] (ha : SE C Wx X a ta) (hb : SE C Wx X b tb) (hK : X.K = C.K := by rfl) (hs : PlainIx b := by exact fun _ _ => rfl) : SE C Wx X (.Subscript a b pos) (cBin gIx ta tb) :=
  ⟨pe_imp (pe_ix (IxR.or ix_list ix_tup) ha.pe hb.pe hs) fun _ _ _ q => by rw [hK]; exact rd_bin od_ix q⟩
end
abbrev Px := Ev → AH → Res (Option Int)
def pNone : Px := fun _ h => .ok none h
def pSome (ta : Ex) : Px := fun env h => (ta env h).bind fun x h1 => match x with
  | .dat (.int i) => .ok (some i) h1
  | _ => .no
abbrev rOi : Option Int → Hp → Hp → List Addr → Option Int → Prop := fun b _ _ _ b' => b' = b
structure SO [Fed] (C : Cn) (Wx : XK) (X : Cx) (e : Option Expr) (t : Px) : Prop where po : PO X e (rdG C Wx rOi t)
theorem po_imp [Fed] {X : Cx} {e : Option Expr} {t t' : TO} (h : PO X e t) (i : ∀ σ H Q, t' σ H Q → t σ H Q) : PO X e t' := ⟨fun pins s σ H Q I q => h.run pins s σ H Q I (i _ _ _ q)⟩
def cutD (ds : List PD) (lo hi : Option Int) : List PD := (ds.drop (HT.sIx ds.length 0 lo)).take (HT.sIx ds.length ds.length hi - HT.sIx ds.length 0 lo)
theorem RDs.cut [Fed] {K : PySem.W.Frag} {F : Hp} {vs : List V} {ds : List PD} (r : RDs K F vs ds) (lo hi : Option Int) : RDs K F (cutV vs lo hi) (cutD ds lo hi) := by
  unfold cutV cutD
  rw [r.len]
  exact (r.drop _).take _
def cSl (ob : Bool) (ta : Ex) (tl th : Px) : Ex := fun env h => (ta env h).bind fun x h1 => (tl env h1).bind fun lo h2 => (th env h2).bind fun hi h3 => match vw x h3 with
  | some (.list ds) => if ob then .ok (.obj h3.length) (h3 ++ [.lst (cutD ds lo hi)]) else .ok (.dat (.list (cutD ds lo hi))) h3
  | some (.tuple ds) => .ok (.dat (.tuple (cutD ds lo hi))) h3
  | _ => .no
section
variable {C : Cn} {Wx : XK} {X : Cx} {a b : Expr} {lo hi : Option Expr} {ta tb : Ex} {tl th : Px} {pos p2 : Pos}
theorem so_none [Fed] : SO C Wx X none pNone := ⟨po_imp po_none fun σ H Q q => by
  obtain ⟨F, U, μ, env, h, l, e, o⟩ := q
  exact o none F U μ H Gr.refl (List.prefix_refl _) l rfl⟩
theorem so_some [Fed] (ha : SE C Wx X a ta) : SO C Wx X (some a) (pSome ta) := ⟨po_imp (po_some ha.pe) fun σ H Q q => by
  obtain ⟨F, U, μ, env, h, l, e, o⟩ := q
  refine rd_step l e o fun x vx F1 U1 μ1 H1 h1 g1 p1 l1 r1 e1 o1 => ?_
  split at o1
  · cases r1
    exact ⟨_, rfl, o1 _ F1 U1 μ1 H1 Gr.refl (List.prefix_refl _) l1 rfl⟩
  · exact o1.elim⟩
theorem cut_whole [Fed] {ds : List PD} {lo hi : Option Int} (h : HT.sIx ds.length 0 lo = 0 ∧ HT.sIx ds.length ds.length hi = ds.length) : cutD ds lo hi = ds := by
  unfold cutD
  rw [h.1, h.2, List.drop_zero, Nat.sub_zero, List.take_length]
theorem se_sl [Fed] (ob : Bool) (ha : SE C Wx X a ta) (hl : SO C Wx X lo tl) (hh : SO C Wx X hi th) (hK : X.K = C.K := by rfl) : SE C Wx X (.Subscript a (.Slice lo hi none p2) pos) (cSl ob ta tl th) :=
  ⟨pe_imp (pe_slice (L2.SlR.or sl_list sl_tupA) ha.pe hl.po hh.po) fun σ H Q q => by
    obtain ⟨F, U, μ, env, h, l, e, o⟩ := q
    refine rd_step l e o fun x vx F1 U1 μ1 H1 h1 g1 p1 l1 r1 e1 o1 => rd_step l1 e1 o1 fun lo lo' F2 U2 μ2 H2 h2 g2 p2 l2 r2 e2 o2 => rd_step l2 e2 o2 fun hi hi' F3 U3 μ3 H3 h3 g3 p3 l3 r3 e3 o3 => ?_
    cases r2
    cases r3
    have rx := (r1.mono g2.f p2).mono g3.f p3
    rw [hK]
    split at o3
    · rename_i ds ed
      have z := vw_ok l3 rx ed
      cases z with
      | lst s d =>
        refine .inl ⟨_, _, rfl, s, fun p hp => ?_⟩
        cases ob with
        | true => exact Out.newO (by simpa using o3) l3 (d.cut _ _) hp
        | false => exact Out.newL (by simpa using o3) l3 (d.cut _ _) hp
    · rename_i ds ed
      have z := vw_ok l3 rx ed
      cases x with
      | dat d' =>
        have ed' : d' = .tuple ds := Option.some.inj ed
        subst ed'
        cases rx with
        | tup s d =>
          refine .inr ⟨_, _, rfl, sqT_mono l3.fh s, fun hw => ?_, fun _ p hp => o3.newT l3 (d.cut _ _) hp⟩
          rw [d.len] at hw
          rw [cut_whole hw] at o3
          exact o3.here l3 (RD.tup s d)
      | scr ns => cases ed
      | rep d => cases ed
      | exv _ _ => cases ed
      | fnv _ => cases ed
      | dcn _ => cases ed
      | unk => cases ed
      | anyI _ => cases ed
      | tpn d' =>
        have ed' : d' = ds := PyData.tuple.inj (Option.some.inj ed)
        subst ed'
        obtain ⟨a, oo, vs, rfl, hf, hn, d⟩ := rx
        refine .inr ⟨_, _, rfl, sqT_mono l3.fh (.inl (.inr ⟨oo, hf⟩)), fun hw => ?_, fun _ p hp => o3.newT l3 (d.cut _ _) hp⟩
        rw [d.len] at hw
        rw [cut_whole hw] at o3
        exact o3.here l3 (RD.tup (.inl (.inr ⟨oo, hf⟩)) d)
      | obj k =>
        unfold vw at ed
        dsimp only at ed
        split at ed <;> cases ed
    · exact o3.elim⟩
end
/-! ### in -/
theorem od_in_list [Fed] {X : Cx} : True := trivial
def rInS (K : PySem.W.Frag) (neg : Bool) : R2 := fun x y H Q => ∃ d ds, Dp K H x d ∧ (Dp K H y (.list ds) ∧ SeqAt.shaped (.list ds) = true ∨ Dp K H y (.tuple ds) ∧ SeqAt.shaped (.tuple ds) = true) ∧ SeqAt.shaped d = true ∧ Q (.bl (neg ^^ ds.any fun z => PyData.eqv z d)) H
theorem or_in [Fed] {X : Cx} (hu : X.A.units + 65 < cLine) : OpR X (compareOp .In) (rInS X.K false) := by
  intro pins s σ H x y v u Q I rx ry h
  obtain ⟨d, ds, hd, he, sd, q⟩ := h
  obtain ⟨as, r1⟩ := Dp.reads I d x v hd rx
  have q' : Q (.bl (ds.any fun z => PyData.eqv z d)) H := by simpa using q
  rcases he with ⟨he, se⟩ | ⟨he, se⟩
  · obtain ⟨bs, r2⟩ := Dp.reads I (.list ds) y u he ry
    exact SeqAt.in_list_reads r2 r1 (SeqAt.canLay_of_shaped se) (SeqAt.canLay_of_shaped sd) (room_in_shaped sd hu) ⟨.bl _, H, I, rfl, q'⟩
  · obtain ⟨bs, r2⟩ := Dp.reads I (.tuple ds) y u he ry
    exact SeqAt.in_tuple_reads r2 r1 (SeqAt.canLay_of_shaped se) (SeqAt.canLay_of_shaped sd) (room_in_shaped sd hu) ⟨.bl _, H, I, rfl, q'⟩
theorem or_notIn [Fed] {X : Cx} (hu : X.A.units + 65 < cLine) : OpR X (compareOp .NotIn) (rInS X.K true) := by
  intro pins s σ H x y v u Q I rx ry h
  obtain ⟨d, ds, hd, he, sd, q⟩ := h
  obtain ⟨as, r1⟩ := Dp.reads I d x v hd rx
  have q' : Q (.bl (!ds.any fun z => PyData.eqv z d)) H := by simpa using q
  rcases he with ⟨he, se⟩ | ⟨he, se⟩
  · obtain ⟨bs, r2⟩ := Dp.reads I (.list ds) y u he ry
    exact SeqAt.notIn_list_reads r2 r1 (SeqAt.canLay_of_shaped se) (SeqAt.canLay_of_shaped sd) (room_in_shaped sd hu) ⟨.bl _, H, I, rfl, q'⟩
  · obtain ⟨bs, r2⟩ := Dp.reads I (.tuple ds) y u he ry
    exact SeqAt.notIn_tuple_reads r2 r1 (SeqAt.canLay_of_shaped se) (SeqAt.canLay_of_shaped sd) (room_in_shaped sd hu) ⟨.bl _, H, I, rfl, q'⟩
theorem od_in [Fed] {K : PySem.W.Frag} {neg : Bool} : OpD K (rInS K neg) (gIn neg) := by
  intro C hC F U μ H h W x y a b Q l ra rb o
  subst hC
  unfold gIn at o
  split at o
  · rename_i d ds e1 e2
    split at o
    · rename_i hz
      rw [Bool.and_eq_true] at hz
      have z1 := shp_ok hz.1
      have z2 := shp_ok hz.2
      simp only [eqvF_eq] at o
      exact ⟨d, ds, (vw_ok l ra e1).dp l.fh (SeqAt.canLay_of_shaped z1), .inl ⟨(vw_ok l rb e2).dp l.fh (SeqAt.canLay_of_shaped z2), z2⟩, z1, o.here l (.bl _)⟩
    · exact o.elim
  · rename_i d ds e1 e2
    split at o
    · rename_i hz
      rw [Bool.and_eq_true] at hz
      have z1 := shp_ok hz.1
      have z2 := shp_ok hz.2
      simp only [eqvF_eq] at o
      exact ⟨d, ds, (vw_ok l ra e1).dp l.fh (SeqAt.canLay_of_shaped z1), .inr ⟨(vw_ok l rb e2).dp l.fh (SeqAt.canLay_of_shaped z2), z2⟩, z1, o.here l (.bl _)⟩
    · exact o.elim
  · exact o.elim
/-! ### calls of built-ins by values -/
abbrev GC := List Sl → AH → Res Sl
def cCall (g : GC) (ta : Ax) : Ex := fun env h => (ta env h).bind g
def CallD [Fed] (K : PySem.W.Frag) (r : List V → Hp → VK → Prop) (g : GC) : Prop := ∀ (C : Cn), C.K = K → ∀ (F U : Hp) (μ : List Addr) (H : Hp) (h : AH) (W : XK) (vs : List V) (xs : List Sl) (Q : VK), Lk C.K F U μ H h → SlRs C.K F μ vs xs →
  Out C F U μ W (rSl C.K) Q (g xs h) → r vs H Q
section
variable {C : Cn} {Wx : XK} {X : Cx} {e : Expr} {es : List Expr} {ta : Ax} {g : GC} {r : List V → Hp → VK → Prop} {x : Str} {p pos : Pos} {id T : String}
theorem rd_call [Fed] (hd : CallD C.K r g) {σ : L2.St} {H : Hp} {Q : VK} (q : rdE C Wx (cCall g ta) σ H Q) : tCB r (rdA C Wx ta) σ H Q := by
  obtain ⟨F, U, μ, env, h, l, e, o⟩ := q
  exact rd_step l e o fun xs vs F1 U1 μ1 H1 h1 g1 p1 l1 r1 e1 o1 => hd C rfl F1 U1 μ1 H1 h1 _ vs xs Q l1 r1 o1
theorem se_callB [Fed] (hc : CallR X (.builtin id) r) (hd : CallD C.K r g) (hg : Gl X x) (hm : X.mg x = none) (hv : bootBuiltins x = some (.builtin id)) (ha : SA C Wx X (e :: es) ta) (hn : x ≠ "__name__" := by decide) (hdb : (x == ("__debug__" : Str)) = false := by decide)
    (he : starEach (e :: es) X.env = (false, eval e X.env) :: starEach es X.env := by rfl) (hpl : (backTo pos (starEach es X.env)).any (·.1) = false := by rfl) : SE C Wx X (.Call (.Name x p) (e :: es) [] pos) (cCall g ta) :=
  ⟨pe_imp (pe_callB hc hg hm hv ha.pa hn hdb he hpl) fun _ _ _ => rd_call hd⟩
theorem se_callTy [Fed] (hc : CallR X (.type T) r) (hd : CallD C.K r g) (hg : Gl X x) (hm : X.mg x = none) (hv : bootBuiltins x = some (.type T)) (ha : SA C Wx X (e :: es) ta) (hn : x ≠ "__name__" := by decide) (hdb : (x == ("__debug__" : Str)) = false := by decide)
    (he : starEach (e :: es) X.env = (false, eval e X.env) :: starEach es X.env := by rfl) (hpl : (backTo pos (starEach es X.env)).any (·.1) = false := by rfl) : SE C Wx X (.Call (.Name x p) (e :: es) [] pos) (cCall g ta) :=
  ⟨pe_imp (pe_callTy hc hg hm hv ha.pa hn hdb he hpl) fun _ _ _ => rd_call hd⟩
end
theorem slRs1 [Fed] {K : PySem.W.Frag} {F : Hp} {μ : List Addr} {vs : List V} {x : Sl} (r : SlRs K F μ vs [x]) : ∃ v, vs = [v] ∧ SlR K F μ v x := by
  cases r with
  | cons a b => cases b; exact ⟨_, rfl, a⟩
/-- len -/
def gLen : GC
  | [x], h => match vw x h with
    | some (.list ds) => .ok (.dat (.int ds.length)) h
    | some (.tuple ds) => .ok (.dat (.int ds.length)) h
    | some (.str s) => if s.length ≤ sizeLine then .ok (.dat (.int s.length)) h else .no
    | _ => .no
  | _, _ => .no
def bools : List PD → Option (List Bool)
  | [] => some []
  | .bool b :: xs => match bools xs with
    | some bs => some (b :: bs)
    | none => none
  | _ :: _ => none
def intsOf : List PD → Option (List Int)
  | [] => some []
  | .int b :: xs => match intsOf xs with
    | some bs => some (b :: bs)
    | none => none
  | _ :: _ => none
theorem bools_ok [Fed] {K : PySem.W.Frag} {F : Hp} : ∀ {vs : List V} {ds : List PD} {bs : List Bool}, RDs K F vs ds → bools ds = some bs → vs = bs.map V.bl
  | _, _, _, .nil, e => by cases e; rfl
  | _, _, bs, .cons (d := d) r t, e => by
    cases d with
    | bool b =>
      unfold bools at e
      split at e
      · rename_i bs' e'
        cases e
        cases r
        rw [bools_ok t e']
        rfl
      · cases e
    | _ => cases e
theorem ints_ok [Fed] {K : PySem.W.Frag} {F : Hp} : ∀ {vs : List V} {ds : List PD} {bs : List Int}, RDs K F vs ds → intsOf ds = some bs → vs = bs.map V.int
  | _, _, _, .nil, e => by cases e; rfl
  | _, _, bs, .cons (d := d) r t, e => by
    cases d with
    | int b =>
      unfold intsOf at e
      split at e
      · rename_i bs' e'
        cases e
        cases r
        rw [ints_ok t e']
        rfl
      · cases e
    | _ => cases e
def gAll : GC
  | [x], h => match vw x h with
    | some (.list ds) => match bools ds with
      | some bs => .ok (.dat (.bool (bs.all id))) h
      | none => .no
    | _ => .no
  | _, _ => .no
def gAny : GC
  | [x], h => match vw x h with
    | some (.list ds) => match bools ds with
      | some bs => .ok (.dat (.bool (bs.any id))) h
      | none => .no
    | _ => .no
  | _, _ => .no
def gSum : GC
  | [x], h => match vw x h with
    | some (.list ds) => match intsOf ds with
      | some bs => .ok (.dat (.int bs.sum)) h
      | none => .no
    | _ => .no
  | _, _ => .no
def gTuple : GC
  | [x], h => match vw x h with
    | some (.list ds) => .ok (.dat (.tuple ds)) h
    | some (.tuple ds) => .ok (.dat (.tuple ds)) h
    | _ => .no
  | _, _ => .no
def gList (ob : Bool) : GC
  | [x], h => match seqOf (vw x h) with
    | some ds => if ob then .ok (.obj h.length) (h ++ [.lst ds]) else .ok (.dat (.list ds)) h
    | none => .no
  | _, _ => .no
def gInt : GC
  | [.dat (.int i)], h => .ok (.dat (.int i)) h
  | [.dat (.bool b)], h => .ok (.dat (.int (if b then 1 else 0))) h
  | _, _ => .no
def gAbs : GC
  | [.dat (.int i)], h => .ok (.dat (.int (if i < 0 then -i else i))) h
  | _, _ => .no
def gMax2 : GC
  | [.dat (.int i), .dat (.int j)], h => .ok (.dat (.int (if j > i then j else i))) h
  | _, _ => .no
def gMin2 : GC
  | [.dat (.int i), .dat (.int j)], h => .ok (.dat (.int (if j < i then j else i))) h
  | _, _ => .no
section
variable {K : PySem.W.Frag}
theorem cd_len [Fed] : CallD K (fun xs H Q => ∃ x n, xs = [x] ∧ LenV K x H n ∧ Q (.int n) H) gLen := by
  intro C hC F U μ H h W vs xs Q l r o
  subst hC
  unfold gLen at o
  split at o
  · obtain ⟨v, rfl, rv⟩ := slRs1 r
    split at o
    · rename_i ds e
      have z := vw_ok l rv e
      cases z with
      | lst s d => exact ⟨_, _, rfl, .inl ⟨_, s, d.len.symm⟩, o.here l (.int _)⟩
    · rename_i ds e
      have z := vw_ok l rv e
      cases z with
      | tup s d => exact ⟨_, _, rfl, .inr ⟨_, s, d.len.symm⟩, o.here l (.int _)⟩
    · rename_i s e
      have z := vw_ok l rv e
      cases z
      split at o
      · rename_i hz
        exact ⟨_, _, rfl, ⟨hz, rfl⟩, o.here l (.int _)⟩
      · exact o.elim
    · exact o.elim
  · exact o.elim
theorem cd_all [Fed] : CallD K (rAll K) gAll := by
  intro C hC F U μ H h W vs xs Q l r o
  subst hC
  unfold gAll at o
  split at o
  · obtain ⟨v, rfl, rv⟩ := slRs1 r
    split at o
    · rename_i ds e
      split at o
      · rename_i bs eb
        cases vw_ok l rv e with
        | lst s d =>
          rw [bools_ok d eb] at s
          exact ⟨_, bs, rfl, s, o.here l (.bl _)⟩
      · exact o.elim
    · exact o.elim
  · exact o.elim
theorem cd_any [Fed] : CallD K (rAny K) gAny := by
  intro C hC F U μ H h W vs xs Q l r o
  subst hC
  unfold gAny at o
  split at o
  · obtain ⟨v, rfl, rv⟩ := slRs1 r
    split at o
    · rename_i ds e
      split at o
      · rename_i bs eb
        cases vw_ok l rv e with
        | lst s d =>
          rw [bools_ok d eb] at s
          exact ⟨_, bs, rfl, s, o.here l (.bl _)⟩
      · exact o.elim
    · exact o.elim
  · exact o.elim
theorem cd_sum [Fed] : CallD K (rSum K) gSum := by
  intro C hC F U μ H h W vs xs Q l r o
  subst hC
  unfold gSum at o
  split at o
  · obtain ⟨v, rfl, rv⟩ := slRs1 r
    split at o
    · rename_i ds e
      split at o
      · rename_i bs eb
        cases vw_ok l rv e with
        | lst s d =>
          rw [ints_ok d eb] at s
          exact ⟨_, bs, rfl, s, o.here l (.int _)⟩
      · exact o.elim
    · exact o.elim
  · exact o.elim
theorem cd_tuple [Fed] : CallD K (fun xs H Q => ∃ p ys, xs = [.ref p] ∧ ((SqL K H p ys ∧ ∀ l, H l = none → Q (.ref l) (upd H l (.tup ys))) ∨ (SqT K H p ys ∧ Q (.ref p) H))) gTuple := by
  intro C hC F U μ H h W vs xs Q l r o
  subst hC
  unfold gTuple at o
  split at o
  · obtain ⟨v, rfl, rv⟩ := slRs1 r
    split at o
    · rename_i ds e
      cases vw_ok l rv e with
      | lst s d => exact ⟨_, _, rfl, .inl ⟨s, fun p hp => o.newT l d hp⟩⟩
    · rename_i ds e
      rename_i x h
      cases x with
      | dat d' =>
        have ed' : d' = .tuple ds := Option.some.inj e
        subst ed'
        cases rv with
        | tup s d => exact ⟨_, _, rfl, .inr ⟨sqT_mono l.fh s, o.here l (RD.tup s d)⟩⟩
      | scr ns => cases e
      | rep d => cases e
      | exv _ _ => cases e
      | fnv _ => cases e
      | dcn _ => cases e
      | unk => cases e
      | anyI _ => cases e
      | tpn d' =>
        have ed' : d' = ds := PyData.tuple.inj (Option.some.inj e)
        subst ed'
        obtain ⟨a, oo, vs, rfl, hf, hn, d⟩ := rv
        exact ⟨_, _, rfl, .inr ⟨sqT_mono l.fh (.inl (.inr ⟨oo, hf⟩)), o.here l (RD.tup (.inl (.inr ⟨oo, hf⟩)) d)⟩⟩
      | obj k =>
        unfold vw at e
        dsimp only at e
        split at e <;> cases e
    · exact o.elim
  · exact o.elim
theorem cd_list [Fed] {ob : Bool} : CallD K (fun xs H Q => ∃ p ys, xs = [.ref p] ∧ (SqL K H p ys ∨ SqT K H p ys) ∧ ∀ l, H l = none → Q (.ref l) (upd H l (.lst ys))) (gList ob) := by
  intro C hC F U μ H h W vs xs Q l r o
  subst hC
  unfold gList at o
  split at o
  · obtain ⟨v, rfl, rv⟩ := slRs1 r
    split at o
    · rename_i ds e
      obtain ⟨a, ws, rfl, hq, hd⟩ := seqOf_ok l rv e
      refine ⟨a, ws, rfl, hq.symm, fun p hp => ?_⟩
      cases ob with
      | true => exact Out.newO (by simpa using o) l hd hp
      | false => exact Out.newL (by simpa using o) l hd hp
    · exact o.elim
  · exact o.elim
theorem cd_int [Fed] : CallD K (fun xs H Q => (∃ i, xs = [.int i] ∧ Q (.int i) H) ∨ ∃ k, xs = [.bl k] ∧ Q (.int (if k then 1 else 0)) H) gInt := by
  intro C hC F U μ H h W vs xs Q l r o
  subst hC
  unfold gInt at o
  split at o
  · obtain ⟨v, rfl, rv⟩ := slRs1 r
    cases rv
    exact .inl ⟨_, rfl, o.here l (.int _)⟩
  · obtain ⟨v, rfl, rv⟩ := slRs1 r
    cases rv
    exact .inr ⟨_, rfl, o.here l (.int _)⟩
  · exact o.elim
theorem cd_abs [Fed] : CallD K (fun xs H Q => ∃ i, xs = [.int i] ∧ Q (.int (if i < 0 then -i else i)) H) gAbs := by
  intro C hC F U μ H h W vs xs Q l r o
  subst hC
  unfold gAbs at o
  split at o
  · obtain ⟨v, rfl, rv⟩ := slRs1 r
    cases rv
    exact ⟨_, rfl, o.here l (.int _)⟩
  · exact o.elim
theorem slRs2 [Fed] {F : Hp} {μ : List Addr} {vs : List V} {x y : Sl} (r : SlRs K F μ vs [x, y]) : ∃ v w, vs = [v, w] ∧ SlR K F μ v x ∧ SlR K F μ w y := by
  cases r with
  | cons a b =>
    obtain ⟨w, rfl, c⟩ := slRs1 b
    exact ⟨_, _, rfl, a, c⟩
theorem cd_max2 [Fed] : CallD K (fun xs H Q => ∃ i j, xs = [.int i, .int j] ∧ Q (.int (if j > i then j else i)) H) gMax2 := by
  intro C hC F U μ H h W vs xs Q l r o
  subst hC
  unfold gMax2 at o
  split at o
  · obtain ⟨v, w, rfl, rv, rw'⟩ := slRs2 r
    cases rv
    cases rw'
    exact ⟨_, _, rfl, o.here l (.int _)⟩
  · exact o.elim
theorem cd_min2 [Fed] : CallD K (fun xs H Q => ∃ i j, xs = [.int i, .int j] ∧ Q (.int (if j < i then j else i)) H) gMin2 := by
  intro C hC F U μ H h W vs xs Q l r o
  subst hC
  unfold gMin2 at o
  split at o
  · obtain ⟨v, w, rfl, rv, rw'⟩ := slRs2 r
    cases rv
    cases rw'
    exact ⟨_, _, rfl, o.here l (.int _)⟩
  · exact o.elim
end
/-! ### isinstance(x, T), T a built-in class -/
def tyN : PD → String
  | .none => "NoneType" | .bool _ => "bool" | .int _ => "int" | .str _ => "str" | .list _ => "list" | .tuple _ => "tuple" | .dict _ => "dict"
/-- which kinds are instances: none, bool, int, str, list, tuple, dict -/
structure IsK where
  none : Bool
  bool : Bool
  int : Bool
  str : Bool
  list : Bool
  tuple : Bool
  dict : Bool
def IsK.of (k : IsK) : PD → Bool
  | .none => k.none | .bool _ => k.bool | .int _ => k.int | .str _ => k.str | .list _ => k.list | .tuple _ => k.tuple | .dict _ => k.dict
structure IsOk (T : String) (k : IsK) : Prop where
  none : kitB "NoneType" T = some k.none
  bool : kitB "bool" T = some k.bool
  int : kitB "int" T = some k.int
  str : kitB "str" T = some k.str
  list : kitB "list" T = some k.list
  tuple : kitB "tuple" T = some k.tuple
  dict : kitB "dict" T = some k.dict
theorem IsOk.kit [Fed] {T : String} {k : IsK} (i : IsOk T k) (d : PD) : kitB (tyN d) T = some (k.of d) := by
  cases d
  · exact i.none
  · exact i.bool
  · exact i.int
  · exact i.str
  · exact i.list
  · exact i.tuple
  · exact i.dict
def cIsi (k : IsK) (ta : Ex) : Ex := fun env h => (ta env h).bind fun x h1 => match vw x h1 with
  | some d => .ok (.dat (.bool (k.of d))) h1
  | none => .no
theorem tyX_of [Fed] {K : PySem.W.Frag} {F H : Hp} {v : V} {d : PD} (z : VwR K F H v d) : TyX K H v (.type (tyN d)) := by
  cases z with
  | non => exact .base .non
  | bl b => exact .base (.bl b)
  | int i => exact .base (.int i)
  | str x => exact .base (.str x)
  | lst s d =>
    rcases s with (s | ⟨o, s⟩) | ⟨o, its, n, h1, h2, _⟩
    · exact .base (.lst s)
    · exact .base (.frz s)
    · exact .kList h1 h2
  | tup s d =>
    rcases s with (s | ⟨o, s⟩) | ⟨o, its, n, h1, h2, _⟩
    · exact .base (.tup s)
    · exact .fTuple s
    · exact .kTuple h1 h2
  | dct s d => exact .base (.dK s)
section
variable {C : Cn} {Wx : XK} {X : Cx} {a : Expr} {ta : Ex} {pos p p2 : Pos} {Tn : Str} {T : String} {k : IsK}
theorem se_isi [Fed] (hi : IsOk T k) (hg : Gl X "isinstance") (hm : X.mg "isinstance" = none) (hgT : Gl X Tn) (hmT : X.mg Tn = none) (hvT : bootBuiltins Tn = some (.type T)) (ha : SE C Wx X a ta) (hK : X.K = C.K := by rfl) (hnT : Tn ≠ "__name__" := by decide) (hdT : (Tn == ("__debug__" : Str)) = false := by decide)
    (he : starEach [a, .Name Tn p2] X.env = (false, eval a X.env) :: starEach [.Name Tn p2] X.env := by rfl) (hpl : (backTo pos (starEach [.Name Tn p2] X.env)).any (·.1) = false := by rfl) :
    SE C Wx X (.Call (.Name "isinstance" p) [a, .Name Tn p2] [] pos) (cIsi k ta) :=
  ⟨pe_imp (pe_callB call_isi hg hm (by decide +kernel) (pa_cons ha.pe (pa_cons (pe_bltn (v := .ty T) hgT hmT hvT rfl hnT hdT) pa_nil) he) (he := he) (hpl := hpl)) fun σ H Q q => by
    obtain ⟨F, U, μ, env, h, l, e, o⟩ := q
    refine rd_step l e o fun x vx F1 U1 μ1 H1 h1 g1 p1 l1 r1 e1 o1 => ?_
    split at o1
    · rename_i d ed
      rw [hK]
      exact ⟨vx, .ty T, _, _, _, rfl, .ty T, tyX_of (vw_ok l1 r1 ed), kit_ty (hi.kit d), o1.here l1 (.bl _)⟩
    · exact o1.elim⟩
end
def kInt : IsK := ⟨false, true, true, false, false, false, false⟩
def kBool : IsK := ⟨false, true, false, false, false, false, false⟩
def kStr : IsK := ⟨false, false, false, true, false, false, false⟩
def kList : IsK := ⟨false, false, false, false, true, false, false⟩
def kTuple : IsK := ⟨false, false, false, false, false, true, false⟩
def kDict : IsK := ⟨false, false, false, false, false, false, true⟩
theorem is_int [Fed] : IsOk "int" kInt := ⟨by decide +kernel, by decide +kernel, by decide +kernel, by decide +kernel, by decide +kernel, by decide +kernel, by decide +kernel⟩
theorem is_bool [Fed] : IsOk "bool" kBool := ⟨by decide +kernel, by decide +kernel, by decide +kernel, by decide +kernel, by decide +kernel, by decide +kernel, by decide +kernel⟩
theorem is_str [Fed] : IsOk "str" kStr := ⟨by decide +kernel, by decide +kernel, by decide +kernel, by decide +kernel, by decide +kernel, by decide +kernel, by decide +kernel⟩
theorem is_list [Fed] : IsOk "list" kList := ⟨by decide +kernel, by decide +kernel, by decide +kernel, by decide +kernel, by decide +kernel, by decide +kernel, by decide +kernel⟩
theorem is_tuple [Fed] : IsOk "tuple" kTuple := ⟨by decide +kernel, by decide +kernel, by decide +kernel, by decide +kernel, by decide +kernel, by decide +kernel, by decide +kernel⟩
theorem is_dict [Fed] : IsOk "dict" kDict := ⟨by decide +kernel, by decide +kernel, by decide +kernel, by decide +kernel, by decide +kernel, by decide +kernel, by decide +kernel⟩
end Pv

/-! Pv, part D: statements, targets, loops. -/
namespace Pv
open PySem PySem.Spec PyProof.Rows L2

inductive Fl where
  | nx (env : Ev) | rt (x : Sl) | bk (env : Ev) | ct (env : Ev)
abbrev Sx := Ev → AH → Res Fl
inductive FB where
  | nx (σ : L2.St) | rt (v : V) | bk (σ : L2.St) | ct (σ : L2.St)
def rFl [Fed] (K : PySem.W.Frag) : Fl → Hp → Hp → List Addr → FB → Prop
  | .nx env, F, _, μ, .nx σ => EvR K F μ σ env
  | .rt x, F, _, μ, .rt v => SlR K F μ v x
  | .bk env, F, _, μ, .bk σ => EvR K F μ σ env
  | .ct env, F, _, μ, .ct σ => EvR K F μ σ env
  | _, _, _, _, _ => False
def qD (D : Ends) : FB → Hp → Prop
  | .nx σ, H => D.nx σ H
  | .rt v, H => D.rt v H
  | .bk σ, H => D.bk σ H
  | .ct σ, H => D.ct σ H
abbrev rdS [Fed] (C : Cn) (Wx : XK) (t : Sx) : TS := fun D σ H => rdG C Wx (rFl C.K) t σ H (qD D)
structure SS [Fed] (C : Cn) (Wx : XK) (X : Cx) (st : Stmt) (t : Sx) : Prop where ps : PS X st (rdS C Wx t)
structure SB [Fed] (C : Cn) (Wx : XK) (X : Cx) (st : List Stmt) (t : Sx) : Prop where pss : PSs X st (rdS C Wx t)

section
variable {C : Cn} {Wx : XK} {X : Cx} {F U H : Hp} {μ : List Addr} {h : AH} {W : XK} {D : Ends}
theorem Out.nxt [Fed] {σ : L2.St} {env : Ev} (o : Out C F U μ W (rFl C.K) (qD D) (.ok (.nx env) h)) (l : Lk C.K F U μ H h) (r : EvR C.K F μ σ env) : D.nx σ H := o (.nx σ) F U μ H Gr.refl (List.prefix_refl _) l r
theorem Out.brk [Fed] {σ : L2.St} {env : Ev} (o : Out C F U μ W (rFl C.K) (qD D) (.ok (.bk env) h)) (l : Lk C.K F U μ H h) (r : EvR C.K F μ σ env) : D.bk σ H := o (.bk σ) F U μ H Gr.refl (List.prefix_refl _) l r
theorem Out.cnt [Fed] {σ : L2.St} {env : Ev} (o : Out C F U μ W (rFl C.K) (qD D) (.ok (.ct env) h)) (l : Lk C.K F U μ H h) (r : EvR C.K F μ σ env) : D.ct σ H := o (.ct σ) F U μ H Gr.refl (List.prefix_refl _) l r
theorem Out.ret [Fed] {v : V} {x : Sl} (o : Out C F U μ W (rFl C.K) (qD D) (.ok (.rt x) h)) (l : Lk C.K F U μ H h) (r : SlR C.K F μ v x) : D.rt v H := o (.rt v) F U μ H Gr.refl (List.prefix_refl _) l r
theorem EvR.set [Fed] {K : PySem.W.Frag} {σ : L2.St} {env : Ev} {i : Nat} {v : V} {x : Sl} (e : EvR K F μ σ env) (r : SlR K F μ v x) : EvR K F μ (σ.set i (some v)) (env.set i (some x)) := by
  refine ⟨by rw [List.length_set, List.length_set, e.1], fun j y h => ?_⟩
  by_cases hj : j = i
  · subst hj
    have hl : j < env.length := by
      have := (List.getElem?_eq_some_iff.mp h).1
      simpa using this
    rw [List.getElem?_set_self hl] at h
    cases h
    exact ⟨v, by rw [List.getElem?_set_self (by rw [e.1]; exact hl)], r⟩
  · rw [List.getElem?_set_ne (Ne.symm hj)] at h ⊢
    exact e.2 j y h
theorem EvR.setN [Fed] {K : PySem.W.Frag} {σ : L2.St} {env : Ev} {i : Nat} (e : EvR K F μ σ env) : EvR K F μ (σ.set i none) (env.set i none) := by
  refine ⟨by rw [List.length_set, List.length_set, e.1], fun j y h => ?_⟩
  by_cases hj : j = i
  · subst hj
    have hl : j < env.length := by
      have := (List.getElem?_eq_some_iff.mp h).1
      simpa using this
    rw [List.getElem?_set_self hl] at h
    cases h
  · rw [List.getElem?_set_ne (Ne.symm hj)] at h ⊢
    exact e.2 j y h
end

/-! ### small statements -/
def sRet (ta : Ex) : Sx := fun env h => (ta env h).bind fun x h1 => .ok (.rt x) h1
def sRetN : Sx := fun _ h => .ok (.rt (.dat .none)) h
def sExpr (ta : Ex) : Sx := fun env h => (ta env h).bind fun _ h1 => .ok (.nx env) h1
def sSet (i : Nat) (ta : Ex) : Sx := fun env h => (ta env h).bind fun x h1 => .ok (.nx (env.set i (some x))) h1
def sPass : Sx := fun env h => .ok (.nx env) h
def sBreak : Sx := fun env h => .ok (.bk env) h
def sCont : Sx := fun env h => .ok (.ct env) h
def sIf (u : Tx) (t f : Sx) : Sx := fun env h => (u env h).bind fun b h1 => if b then t env h1 else f env h1
def sSeq (t u : Sx) : Sx := fun env h => (t env h).bind fun fl h1 => match fl with
  | .nx env' => u env' h1
  | fl => .ok fl h1
def sNever : Sx := fun _ _ => .no
section
variable {C : Cn} {Wx : XK} {X : Cx} {e c : Expr} {ta : Ex} {u : Tx} {st : Stmt} {rest a b : List Stmt} {t f : Sx} {pos pos' : Pos}
theorem ss_ret [Fed] (ha : SE C Wx X e ta) : SS C Wx X (.Return (some e) pos) (sRet ta) := ⟨ps_imp (L2.ps_ret ha.pe) fun D σ H q => by
  obtain ⟨F, U, μ, env, h, l, ev, o⟩ := q
  exact rd_step l ev o fun x vx F1 U1 μ1 H1 h1 g1 p1 l1 r1 e1 o1 => o1.ret l1 r1⟩
theorem ss_retN [Fed] : SS C Wx X (.Return none pos) sRetN := ⟨ps_imp L2.ps_retN fun D σ H q => by
  obtain ⟨F, U, μ, env, h, l, ev, o⟩ := q
  exact Out.ret o l (RD.non)⟩
theorem ss_expr [Fed] (ha : SE C Wx X e ta) (hs : swapsWith e none pos.line X.env = pure false := by rfl) : SS C Wx X (.Expr e pos) (sExpr ta) := ⟨ps_imp (L2.ps_expr ha.pe hs) fun D σ H q => by
  obtain ⟨F, U, μ, env, h, l, ev, o⟩ := q
  exact rd_step l ev o fun x vx F1 U1 μ1 H1 h1 g1 p1 l1 r1 e1 o1 => o1.nxt l1 e1⟩
theorem ss_set [Fed] (i : Nat) {x : Str} (hN : X.N.Nodup) (ha : SE C Wx X e ta) (hi : X.N[i]? = some x := by rfl) (hx : Loc X.env.scope x := by first | exact Or.inl rfl | exact Or.inr rfl) (hs : swapsWith e (some (.Name x pos')) pos.line X.env = pure false := by rfl) (hf : X.fn x = true ∨ X.env.scope.names.lookup x = some .local := by first | exact .inl rfl | exact .inr rfl) :
    SS C Wx X (.Assign [.Name x pos'] e pos) (sSet i ta) := ⟨ps_imp (L2.ps_set hN hi hx ha.pe hs hf) fun D σ H q => by
  obtain ⟨F, U, μ, env, h, l, ev, o⟩ := q
  exact rd_step l ev o fun x vx F1 U1 μ1 H1 h1 g1 p1 l1 r1 e1 o1 => o1.nxt l1 (e1.set r1)⟩
theorem ss_pass [Fed] : SS C Wx X (.Pass pos) sPass := ⟨ps_imp L2.ps_pass fun D σ H q => by
  obtain ⟨F, U, μ, env, h, l, ev, o⟩ := q
  exact Out.nxt o l ev⟩
theorem ss_break [Fed] : SS C Wx X (.Break pos) sBreak := ⟨ps_imp L2.ps_break fun D σ H q => by
  obtain ⟨F, U, μ, env, h, l, ev, o⟩ := q
  exact Out.brk o l ev⟩
theorem ss_cont [Fed] : SS C Wx X (.Continue pos) sCont := ⟨ps_imp L2.ps_continue fun D σ H q => by
  obtain ⟨F, U, μ, env, h, l, ev, o⟩ := q
  exact Out.cnt o l ev⟩
theorem ss_if [Fed] (hc : STt C Wx X c u) (ha : SB C Wx X a t) (hb : SB C Wx X b f) : SS C Wx X (.If c a b pos) (sIf u t f) := ⟨ps_imp (L2.ps_if hc.pt ha.pss hb.pss) fun D σ H q => by
  obtain ⟨F, U, μ, env, h, l, ev, o⟩ := q
  refine rd_step l ev o fun x vx F1 U1 μ1 H1 h1 g1 p1 l1 r1 e1 o1 => ?_
  cases r1
  cases x with
  | true => rw [if_pos rfl]; exact rd_go l1 e1 (by simpa using o1)
  | false => rw [if_neg Bool.false_ne_true]; exact rd_go l1 e1 (by simpa using o1)⟩
/-- a statement that the run never comes to -/
theorem ss_never [Fed] : SS C Wx X st sNever := ⟨ps_imp L2.ps_never fun D σ H q => by
  obtain ⟨F, U, μ, env, h, l, ev, o⟩ := q
  exact o⟩
theorem sb_nil [Fed] : SB C Wx X [] sPass := ⟨pss_imp L2.pss_nil fun D σ H q => by
  obtain ⟨F, U, μ, env, h, l, ev, o⟩ := q
  exact Out.nxt o l ev⟩
theorem sb_one [Fed] (h1 : SS C Wx X st t) : SB C Wx X [st] t := ⟨L2.pss_one h1.ps⟩
theorem rd_seq [Fed] {D : Ends} {σ : L2.St} {H : Hp} (q : rdS C Wx (sSeq t f) D σ H) : rdS C Wx t { D with nx := rdS C Wx f D } σ H := by
  obtain ⟨F, U, μ, env, h, l, ev, o⟩ := q
  refine ⟨F, U, μ, env, h, l, ev, o.bind fun fl b F1 U1 μ1 H1 h1 g1 p1 l1 r1 o1 => ?_⟩
  cases fl with
  | nx env' =>
    cases b with
    | nx σ' => exact ⟨F1, U1, μ1, env', h1, l1, r1, o1⟩
    | _ => exact r1.elim
  | rt x =>
    cases b with
    | rt v =>
      have o2 : Out C F1 U1 μ1 Wx (rFl C.K) (qD D) (.ok (.rt x) h1) := o1
      exact Out.ret (D := D) o2 l1 r1
    | _ => exact r1.elim
  | bk env' =>
    cases b with
    | bk σ' =>
      have o2 : Out C F1 U1 μ1 Wx (rFl C.K) (qD D) (.ok (.bk env') h1) := o1
      exact Out.brk (D := D) o2 l1 r1
    | _ => exact r1.elim
  | ct env' =>
    cases b with
    | ct σ' =>
      have o2 : Out C F1 U1 μ1 Wx (rFl C.K) (qD D) (.ok (.ct env') h1) := o1
      exact Out.cnt (D := D) o2 l1 r1
    | _ => exact r1.elim
theorem sb_cons [Fed] (h1 : SS C Wx X st t) (h2 : SB C Wx X rest f) : SB C Wx X (st :: rest) (sSeq t f) := ⟨pss_imp (L2.pss_cons h1.ps h2.pss) fun D σ H q => rd_seq q⟩
end

/-! ### targets -/
inductive Tgt where
  | nm (i : Nat) | tup (ts : List Tgt)
mutual
def Tgt.asg : Tgt → PD → Ev → Option Ev
  | .nm i, d, env => some (env.set i (some (.dat d)))
  | .tup ts, .tuple ds, env => Tgt.asgs ts ds env
  | .tup ts, .list ds, env => Tgt.asgs ts ds env
  | _, _, _ => none
def Tgt.asgs : List Tgt → List PD → Ev → Option Ev
  | [], [], env => some env
  | t :: ts, d :: ds, env => match t.asg d env with
    | some env' => Tgt.asgs ts ds env'
    | none => none
  | _, _, _ => none
end
mutual
def Tgt.slots : Tgt → List Nat
  | .nm i => [i]
  | .tup ts => Tgt.slotss ts
def Tgt.slotss : List Tgt → List Nat
  | [] => []
  | t :: ts => t.slots ++ Tgt.slotss ts
end
/-- of a tuple or of a list -/
def gTL (K : PySem.W.Frag) (n : Nat) (t : TGs) : TG := fun v σ H Q => gTup K n t v σ H Q ∨ gUnl K n t v σ H Q
theorem pg_tl {X : Cx} {pos : Pos} {es : List Expr} {k : Nat} {t : TGs} {n : Nat} (hc : X.calm = true) (h : PGs X es t)
    (hn : (assignEach es X.env).length = n := by rfl) (hst : (assignEach es X.env).findIdx? (·.1) = none := by rfl) : PG X (.Tuple es k pos) (gTL X.K n t) :=
  ⟨fun pins s σ H v u Q I r hw => hw.elim (fun z => (pg_tup hc h hn hst).run pins s σ H v u Q I r z) fun z => (pg_unl hc h hn hst).run pins s σ H v u Q I r z⟩
mutual
def Tgt.rd (K : PySem.W.Frag) : Tgt → TG
  | .nm i => gName i
  | .tup ts => gTL K ts.length (Tgt.rds K ts)
def Tgt.rds (K : PySem.W.Frag) : List Tgt → TGs
  | [] => gNil
  | t :: ts => gCons (t.rd K) (Tgt.rds K ts)
end
theorem wipe_set [Fed] {σ : L2.St} {i : Nat} {x : Option V} : ∀ {vs : List Nat}, i ∈ vs → wipe (σ.set i x) vs = wipe σ vs
  | v :: vs, h => by
    show (wipe (σ.set i x) vs).set v none = (wipe σ vs).set v none
    by_cases hm : i ∈ vs
    · rw [wipe_set hm]
    · have e : i = v := by
        rcases List.mem_cons.mp h with e | e
        · exact e
        · exact absurd e hm
      subst e
      have key : ∀ (ws : List Nat), i ∉ ws → wipe (σ.set i x) ws = (wipe σ ws).set i x := by
        intro ws
        induction ws with
        | nil => intro _; rfl
        | cons w ws ih =>
          intro hw
          show (wipe (σ.set i x) ws).set w none = ((wipe σ ws).set w none).set i x
          rw [ih fun z => hw (List.mem_cons_of_mem _ z), List.set_comm _ _ (fun z => hw (by rw [z]; exact List.mem_cons_self))]
      rw [key vs hm, List.set_set]
section
variable {K : PySem.W.Frag} {F U : Hp} {μ : List Addr} {h : AH}
mutual
theorem Tgt.rd_ok [Fed] : ∀ (t : Tgt) {H : Hp} {σ : L2.St} {env env' : Ev} {v : V} {d : PD}, Same F H → EvR K F μ σ env → RD K F v d → t.asg d env = some env' →
    ∃ σ', EvR K F μ σ' env' ∧ (∀ vs, (∀ i ∈ t.slots, i ∈ vs) → wipe σ' vs = wipe σ vs) ∧ ∀ Q : L2.St → Hp → Prop, Q σ' H → t.rd K v σ H Q
  | .nm i, H, σ, env, env', v, d, hs, e, r, ha => by
    cases ha
    exact ⟨σ.set i (some v), e.set (x := .dat d) r, fun vs hv => wipe_set (hv i (by simp [Tgt.slots])), fun Q q => q⟩
  | .tup ts, H, σ, env, env', v, d, hs, e, r, ha => by
    cases d with
    | tuple ds =>
      cases r with
      | tup s rs =>
        obtain ⟨σ', e', w', q'⟩ := Tgt.rds_ok ts hs e rs (show Tgt.asgs ts ds env = some env' from ha)
        exact ⟨σ', e', w', fun Q q => .inl ⟨_, _, rfl, sqT_mono hs s, by rw [rs.len]; exact Tgt.asgs_len (show Tgt.asgs ts ds env = some env' from ha), q' Q q⟩⟩
    | list ds =>
      cases r with
      | lst s rs =>
        obtain ⟨σ', e', w', q'⟩ := Tgt.rds_ok ts hs e rs (show Tgt.asgs ts ds env = some env' from ha)
        exact ⟨σ', e', w', fun Q q => .inr ⟨_, _, rfl, .inl (.inl (hs _ _ s)), by rw [rs.len]; exact Tgt.asgs_len (show Tgt.asgs ts ds env = some env' from ha), q' Q q⟩⟩
    | _ => cases ha
theorem Tgt.rds_ok [Fed] : ∀ (ts : List Tgt) {H : Hp} {σ : L2.St} {env env' : Ev} {vs : List V} {ds : List PD}, Same F H → EvR K F μ σ env → RDs K F vs ds → Tgt.asgs ts ds env = some env' →
    ∃ σ', EvR K F μ σ' env' ∧ (∀ ws, (∀ i ∈ Tgt.slotss ts, i ∈ ws) → wipe σ' ws = wipe σ ws) ∧ ∀ Q : L2.St → Hp → Prop, Q σ' H → Tgt.rds K ts vs σ H Q
  | [], H, σ, env, env', vs, ds, hs, e, r, ha => by
    cases ds with
    | nil =>
      cases r
      cases ha
      exact ⟨σ, e, fun _ _ => rfl, fun Q q => ⟨rfl, q⟩⟩
    | cons _ _ => cases ha
  | t :: ts, H, σ, env, env', vs, ds, hs, e, r, ha => by
    cases ds with
    | nil => cases ha
    | cons d ds =>
      cases r with
      | cons r1 r2 =>
        unfold Tgt.asgs at ha
        split at ha
        · rename_i env1 e1
          obtain ⟨σ1, ev1, w1, q1⟩ := Tgt.rd_ok t hs e r1 e1
          obtain ⟨σ2, ev2, w2, q2⟩ := Tgt.rds_ok ts hs ev1 r2 ha
          refine ⟨σ2, ev2, fun ws hw => ?_, fun Q q => ⟨_, _, rfl, q1 _ (q2 Q q)⟩⟩
          rw [w2 ws fun i hi => hw i (by simp [Tgt.slotss, hi]), w1 ws fun i hi => hw i (by simp [Tgt.slotss, hi])]
        · cases ha
theorem Tgt.asgs_len [Fed] : ∀ {ts : List Tgt} {ds : List PD} {env env' : Ev}, Tgt.asgs ts ds env = some env' → ds.length = ts.length
  | [], [], _, _, _ => rfl
  | [], _ :: _, _, _, h => by cases h
  | _ :: _, [], _, _, h => by cases h
  | t :: ts, d :: ds, env, env', h => by
    unfold Tgt.asgs at h
    split at h
    · show ds.length + 1 = ts.length + 1
      rw [Tgt.asgs_len h]
    · cases h
end
end
section
variable {X : Cx} {es : List Expr} {e : Expr} {pos : Pos} {ts : List Tgt} {t : Tgt}
theorem tg_nm [Fed] (i : Nat) {x : Str} (hN : X.N.Nodup) (hi : X.N[i]? = some x := by rfl) (hx : Loc X.env.scope x := by first | exact Or.inl rfl | exact Or.inr rfl) (hf : X.fn x = true ∨ X.env.scope.names.lookup x = some .local := by first | exact .inl rfl | exact .inr rfl) : PG X (.Name x pos) ((Tgt.nm i).rd X.K) := pg_name hN hi hx hf
theorem tg_nil [Fed] : PGs X [] (Tgt.rds X.K []) := pgs_nil
theorem tg_cons [Fed] (h1 : PG X e (t.rd X.K)) (h2 : PGs X es (Tgt.rds X.K ts)) (hs : (assignEach (e :: es) X.env).map (·.2) = assign e X.env :: (assignEach es X.env).map (·.2) := by rfl) : PGs X (e :: es) (Tgt.rds X.K (t :: ts)) := pgs_cons h1 h2 hs
theorem tg_tup [Fed] {k : Nat} (h : PGs X es (Tgt.rds X.K ts)) (hc : X.calm = true := by rfl) (hn : (assignEach es X.env).length = ts.length := by rfl) (hst : (assignEach es X.env).findIdx? (·.1) = none := by rfl) : PG X (.Tuple es k pos) ((Tgt.tup ts).rd X.K) := pg_tl hc h hn hst
end

/-! ### what is walked -/
def ItR [Fed] (K : PySem.W.Frag) (F : Hp) (J : It) (ds : List PD) : Prop := ∀ (F' U' : Hp) (μ' : List Addr) (H' : Hp) (h' : AH), Same F F' → Lk K F' U' μ' H' h' → ∀ i,
  (∀ d, ds[i]? = some d → J.go i H' ∧ ∀ x H2, J.yld i H' x H2 → ∃ F2 U2, Gr F' U' F2 U2 ∧ Lk K F2 U2 μ' H2 h' ∧ RD K F2 x d) ∧ (i = ds.length → J.stop i H')
theorem ItR.mono [Fed] {K : PySem.W.Frag} {F F' : Hp} {J : It} {ds : List PD} (g : Same F F') (r : ItR K F J ds) : ItR K F' J ds := fun F2 U2 μ2 H2 h2 g2 l2 => r F2 U2 μ2 H2 h2 (g.trans g2) l2
abbrev Ix := Ev → AH → Res (List PD)
abbrev rIt [Fed] (K : PySem.W.Frag) : List PD → Hp → Hp → List Addr → It → Prop := fun ds F _ _ J => ItR K F J ds
structure SI [Fed] (C : Cn) (Wx : XK) (X : Cx) (tg iter : Expr) (t : Ix) : Prop where pi : PI X tg iter (rdG C Wx (rIt C.K) t)
theorem pi_imp [Fed] {X : Cx} {tg e : Expr} {t t' : TI} (h : PI X tg e t) (i : ∀ σ H Q, t' σ H Q → t σ H Q) : PI X tg e t' := ⟨fun pins s σ H Q I q => h.run pins s σ H Q I (i _ _ _ q)⟩
/-- a frozen list or tuple -/
def iSeq (ta : Ex) : Ix := fun env h => (ta env h).bind fun x h1 => match x with
  | .dat (.list ds) => .ok ds h1
  | .dat (.tuple ds) => .ok ds h1
  | .scr ns => .ok (ns.map PyData.int) h1
  | _ => .no
theorem Out.it [Fed] {C : Cn} {F U H : Hp} {μ : List Addr} {h : AH} {W : XK} {Q : It → Hp → Prop} {J : It} {ds : List PD} (o : Out C F U μ W (rIt C.K) Q (.ok ds h)) (l : Lk C.K F U μ H h) (r : ItR C.K F J ds) : Q J H := o J F U μ H Gr.refl (List.prefix_refl _) l r
theorem itR_list [Fed] {K : PySem.W.Frag} {F : Hp} {a : Addr} {vs : List V} {ds : List PD} (hs : SqL K F a vs) (r : RDs K F vs ds) : ItR K F (Itl K a) ds := fun F' U' μ' H' h' g l i => by
  have hq : SqL K H' a vs := l.fh.seq (g.seq hs)
  refine ⟨fun d hd => ?_, fun e => ⟨vs, hq, by rw [r.len, e]; exact Nat.le_refl _⟩⟩
  obtain ⟨v, h1, h2⟩ := r.get hd
  refine ⟨⟨vs, v, hq, h1⟩, fun x H2 y => ?_⟩
  obtain ⟨e, y⟩ := y
  subst e
  have ex : v = x := Option.some.inj (h1.symm.trans (y vs hq))
  subst ex
  exact ⟨F', U', Gr.refl, l, h2.mono g⟩
theorem itR_tup [Fed] {K : PySem.W.Frag} {F : Hp} {a : Addr} {vs : List V} {ds : List PD} (hs : SqT K F a vs) (r : RDs K F vs ds) : ItR K F (Itt K a) ds := fun F' U' μ' H' h' g l i => by
  have hq : SqT K H' a vs := sqT_mono l.fh (sqT_mono g hs)
  refine ⟨fun d hd => ?_, fun e => ⟨vs, hq, by rw [r.len, e]; exact Nat.le_refl _⟩⟩
  obtain ⟨v, h1, h2⟩ := r.get hd
  refine ⟨⟨vs, v, hq, h1⟩, fun x H2 y => ?_⟩
  obtain ⟨e, y⟩ := y
  subst e
  have ex : v = x := Option.some.inj (h1.symm.trans (y vs hq))
  subst ex
  exact ⟨F', U', Gr.refl, l, h2.mono g⟩
def iLst : (TE → Prop) := fun _ => True
/-- either of two -/
theorem pi_seq [Fed] {X : Cx} {tg e : Expr} {te : TE} (he : PE X e te) : PI X tg e (fun σ H R => te σ H fun x H1 => ∃ a, x = .ref a ∧ ((∃ xs, SqL X.K H1 a xs ∧ R (Itl X.K a) H1) ∨ ∃ xs, SqT X.K H1 a xs ∧ R (Itt X.K a) H1)) := by
  refine ⟨fun pins s σ H R I h => ?_⟩
  refine thn (he.run pins s σ H _ I h) fun v s1 ⟨x, H1, I1, r1, a, e1, q1⟩ => ?_
  subst e1
  obtain rfl : v = Value.ref a := r1
  rcases q1 with ⟨xs, hq, q⟩ | ⟨xs, hq, q⟩
  · obtain ⟨its, rv, p, hz⟩ := I1.list hq
    refine wpAny_pyIter_list p.isList ⟨s1.heap.objs.size, [s1.heap.objs.size], _, _, H1, rfl, I1.kept (t' := s1.toks) fun b o e => Heap.get?_push_of_some _ e, turn_list a _, ⟨_, Heap.get?_push_size _ rfl, rfl, rfl⟩, fun b hb => ?_, q⟩
    obtain rfl : b = s1.heap.objs.size := by simpa using hb
    exact I1.fpOk (Nat.le_refl _) (I1.hok.fresh (Nat.le_refl _))
  · obtain ⟨its, rv, p, hz⟩ := I1.tuple hq
    refine wpAny_pyIter_tuple (show s1.heap.IsTuple a its.toArray from p) ⟨s1.heap.objs.size, [s1.heap.objs.size], _, _, H1, rfl, I1.kept (t' := s1.toks) fun b o e => Heap.get?_push_of_some _ e, turn_tuple a _, ⟨_, Heap.get?_push_size _ rfl, rfl, rfl⟩, fun b hb => ?_, q⟩
    obtain rfl : b = s1.heap.objs.size := by simpa using hb
    exact I1.fpOk (Nat.le_refl _) (I1.hok.fresh (Nat.le_refl _))
section
variable {C : Cn} {Wx : XK} {X : Cx} {e e2 tg : Expr} {ta tb : Ex} {tr : Ax} {pos p tpos : Pos} {elts : List Expr} {kk : Nat}
theorem si_seq [Fed] (ha : SE C Wx X e ta) (hK : X.K = C.K := by rfl) : SI C Wx X tg e (iSeq ta) := ⟨pi_imp (pi_seq ha.pe) fun σ H Q q => by
  obtain ⟨F, U, μ, env, h, l, ev, o⟩ := q
  refine rd_step l ev o fun x vx F1 U1 μ1 H1 h1 g1 p1 l1 r1 e1 o1 => ?_
  rw [hK]
  split at o1
  · cases r1 with
    | lst s d => exact ⟨_, rfl, .inl ⟨_, .inl (.inl (l1.fh _ _ s)), o1.it l1 (itR_list (.inl (.inl s)) d)⟩⟩
  · cases r1 with
    | tup s d => exact ⟨_, rfl, .inr ⟨_, sqT_mono l1.fh s, o1.it l1 (itR_tup s d)⟩⟩
  · obtain ⟨a, rfl, s⟩ := r1
    exact ⟨a, rfl, .inl ⟨_, l1.fh.seq s, o1.it l1 (itR_list s (RDs.ints _))⟩⟩
  · exact o1.elim⟩
/-- range -/
def rngD (lo : Int) (n : Nat) : List PD := (List.range n).map fun i => .int (lo + (i : Nat))
theorem itR_rng [Fed] {K : PySem.W.Frag} {F : Hp} {lo : Int} {n : Nat} : ItR K F (Itr lo n) (rngD lo n) := fun F' U' μ' H' h' g l i => by
  have hl : (rngD lo n).length = n := by unfold rngD; simp
  refine ⟨fun d hd => ?_, fun e => by rw [hl] at e; exact Nat.le_of_eq e.symm⟩
  have hi : i < n := by rw [← hl]; exact (List.getElem?_eq_some_iff.mp hd).1
  refine ⟨hi, fun x H2 y => ?_⟩
  obtain ⟨e, rfl⟩ := y
  subst e
  refine ⟨F', U', Gr.refl, l, ?_⟩
  have : d = .int (lo + (i : Nat)) := by
    unfold rngD at hd
    rw [List.getElem?_map, List.getElem?_range hi] at hd
    exact (Option.some.inj hd).symm
  subst this
  exact .int _
def rngOk (i : Int) : Bool := decide (-(2 ^ 62) ≤ i) && decide (i < 2 ^ 62)
def iRange1 (ta : Ax) : Ix := fun env h => (ta env h).bind fun xs h1 => match xs with
  | [.dat (.int j)] => if rngOk j then .ok (rngD 0 j.toNat) h1 else .no
  | _ => .no
def iRange2 (ta : Ax) : Ix := fun env h => (ta env h).bind fun xs h1 => match xs with
  | [.dat (.int i), .dat (.int j)] => if rngOk i && rngOk j then .ok (rngD i (j - i).toNat) h1 else .no
  | _ => .no
theorem rngOk_iff [Fed] {i : Int} (h : rngOk i = true) : -(2 ^ 62) ≤ i ∧ i < 2 ^ 62 := by
  unfold rngOk at h
  rw [Bool.and_eq_true] at h
  exact ⟨of_decide_eq_true h.1, of_decide_eq_true h.2⟩
theorem si_range1 [Fed] (hg : Gl X "range") (hm : X.mg "range" = none) (ha : SA C Wx X [e] tr) (hs : starEach [e] X.env = [(false, eval e X.env)] := by rfl) : SI C Wx X tg (.Call (.Name "range" p) [e] [] pos) (iRange1 tr) := ⟨pi_imp (pi_range1 hg hm ha.pa hs) fun σ H Q q => by
  obtain ⟨F, U, μ, env, h, l, ev, o⟩ := q
  refine rd_step l ev o fun x vx F1 U1 μ1 H1 h1 g1 p1 l1 r1 e1 o1 => ?_
  split at o1
  · obtain ⟨v, rfl, rv⟩ := slRs1 r1
    cases rv
    split at o1
    · rename_i hz
      have hz := rngOk_iff hz
      exact ⟨_, rfl, hz.1, hz.2, o1.it l1 itR_rng⟩
    · exact o1.elim
  · exact o1.elim⟩
theorem si_range2 [Fed] (hg : Gl X "range") (hm : X.mg "range" = none) (ha : SA C Wx X [e, e2] tr) (hs : starEach [e, e2] X.env = [(false, eval e X.env), (false, eval e2 X.env)] := by rfl) (hs2 : starEach [e2] X.env = [(false, eval e2 X.env)] := by rfl) :
    SI C Wx X tg (.Call (.Name "range" p) [e, e2] [] pos) (iRange2 tr) := ⟨pi_imp (pi_range2 hg hm ha.pa hs hs2) fun σ H Q q => by
  obtain ⟨F, U, μ, env, h, l, ev, o⟩ := q
  refine rd_step l ev o fun x vx F1 U1 μ1 H1 h1 g1 p1 l1 r1 e1 o1 => ?_
  split at o1
  · obtain ⟨v, w, rfl, rv, rw'⟩ := slRs2 r1
    cases rv
    cases rw'
    split at o1
    · rename_i hz
      rw [Bool.and_eq_true] at hz
      have h1 := rngOk_iff hz.1
      have h2 := rngOk_iff hz.2
      exact ⟨_, _, rfl, ⟨h1.1, h1.2, h2.1, h2.2⟩, o1.it l1 itR_rng⟩
    · exact o1.elim
  · exact o1.elim⟩
/-- zip, enumerate of frozen lists and tuples -/
def frzSeq : Sl → Option (List PD)
  | .dat (.list ds) => some ds
  | .dat (.tuple ds) => some ds
  | .scr ns => some (ns.map PyData.int)
  | _ => none
theorem frzSeq_ok [Fed] {K : PySem.W.Frag} {F : Hp} {μ : List Addr} {v : V} {x : Sl} {ds : List PD} (r : SlR K F μ v x) (e : frzSeq x = some ds) : ∃ b a vs, v = .ref a ∧ SqB b K F a vs ∧ RDs K F vs ds := by
  cases x with
  | dat d =>
    cases d with
    | list xs => cases e; cases r with | lst s d => exact ⟨true, _, _, rfl, .inl (.inl s), d⟩
    | tuple xs => cases e; cases r with | tup s d => exact ⟨false, _, _, rfl, s, d⟩
    | _ => cases e
  | scr ns => cases e; obtain ⟨a, rfl, s⟩ := r; exact ⟨true, a, _, rfl, s, RDs.ints ns⟩
  | obj k => cases e
  | rep d => cases e
  | exv _ _ => cases e
  | fnv _ => cases e
  | tpn _ => cases e
  | dcn _ => cases e
  | unk => cases e
  | anyI _ => cases e
theorem sqB_mono [Fed] {K : PySem.W.Frag} {H H' : Hp} {b : Bool} {a : Addr} {xs : List V} (e : Same H H') (h : SqB b K H a xs) : SqB b K H' a xs := by
  cases b with
  | true => exact e.seq (show SqL K H a xs from h)
  | false => exact sqT_mono e (show SqT K H a xs from h)
def zipD : List PD → List PD → List PD
  | x :: xs, y :: ys => .tuple [x, y] :: zipD xs ys
  | _, _ => []
theorem zipD_get [Fed] : ∀ {xs ys : List PD} {i : Nat} {d : PD}, (zipD xs ys)[i]? = some d → ∃ x y, xs[i]? = some x ∧ ys[i]? = some y ∧ d = .tuple [x, y]
  | [], _, _, _, h => by simp [zipD] at h
  | _ :: _, [], _, _, h => by simp [zipD] at h
  | x :: xs, y :: ys, 0, d, h => by
    simp only [zipD, List.getElem?_cons_zero, Option.some.injEq] at h
    exact ⟨x, y, rfl, rfl, h.symm⟩
  | x :: xs, y :: ys, i + 1, d, h => by
    simp only [zipD, List.getElem?_cons_succ] at h
    simpa using zipD_get h
theorem zipD_len [Fed] : ∀ {xs ys : List PD}, (zipD xs ys).length = min xs.length ys.length
  | [], ys => by simp [zipD]
  | _ :: _, [] => by simp [zipD]
  | x :: xs, y :: ys => by
    show (zipD xs ys).length + 1 = min (xs.length + 1) (ys.length + 1)
    rw [zipD_len]
    omega
theorem newT_world [Fed] {K : PySem.W.Frag} {F U H : Hp} {μ : List Addr} {h : AH} {p : Addr} {vs : List V} {ds : List PD} (l : Lk K F U μ H h) (hp : H p = none) (r : RDs K F vs ds) :
    ∃ F2 U2, Gr F U F2 U2 ∧ Lk K F2 U2 μ (upd H p (.tup vs)) h ∧ RD K F2 (.ref p) (.tuple ds) := by
  obtain ⟨g, l'⟩ := l.new (o := .tup vs) hp
  exact ⟨_, _, g, l', .tup (.inl (.inl upd_same)) (r.mono g.f)⟩
theorem itR_zip [Fed] {K : PySem.W.Frag} {F : Hp} {b c : Bool} {a a' : Addr} {vs ws : List V} {ds es : List PD} (h1 : SqB b K F a vs) (r1 : RDs K F vs ds) (h2 : SqB c K F a' ws) (r2 : RDs K F ws es) : ItR K F (ItzB b c K a a') (zipD ds es) := fun F' U' μ' H' h' g l i => by
  have q1 : SqB b K H' a vs := sqB_mono l.fh (sqB_mono g h1)
  have q2 : SqB c K H' a' ws := sqB_mono l.fh (sqB_mono g h2)
  refine ⟨fun d hd => ?_, fun e => ⟨vs, ws, q1, q2, ?_⟩⟩
  · obtain ⟨x, y, e1, e2, rfl⟩ := zipD_get hd
    obtain ⟨v, g1, d1⟩ := r1.get e1
    obtain ⟨w, g2, d2⟩ := r2.get e2
    refine ⟨⟨vs, ws, v, w, q1, q2, g1, g2⟩, fun z H2 yl => ?_⟩
    obtain ⟨T, x', y', rfl, hT, rfl, f1, f2⟩ := yl
    have ex : v = x' := Option.some.inj (g1.symm.trans (f1 vs q1))
    have ey : w = y' := Option.some.inj (g2.symm.trans (f2 ws q2))
    subst ex ey
    exact newT_world l hT (.cons (d1.mono g) (.cons (d2.mono g) .nil))
  · rw [zipD_len] at e
    have e1 := r1.len
    have e2 := r2.len
    omega
def enumD : Nat → List PD → List PD
  | _, [] => []
  | k, x :: xs => .tuple [.int (k : Nat), x] :: enumD (k + 1) xs
theorem enumD_get [Fed] : ∀ {xs : List PD} {k i : Nat} {d : PD}, (enumD k xs)[i]? = some d → ∃ x, xs[i]? = some x ∧ d = .tuple [.int ((k + i : Nat) : Int), x]
  | [], _, _, _, h => by simp [enumD] at h
  | x :: xs, k, 0, d, h => by
    simp only [enumD, List.getElem?_cons_zero, Option.some.injEq] at h
    exact ⟨x, rfl, h.symm⟩
  | x :: xs, k, i + 1, d, h => by
    simp only [enumD, List.getElem?_cons_succ] at h
    obtain ⟨y, h1, h2⟩ := enumD_get h
    exact ⟨y, by simpa using h1, by rw [h2, show k + 1 + i = k + (i + 1) by omega]⟩
theorem enumD_len [Fed] : ∀ {xs : List PD} {k : Nat}, (enumD k xs).length = xs.length
  | [], _ => rfl
  | x :: xs, k => by show (enumD (k + 1) xs).length + 1 = xs.length + 1; rw [enumD_len]
theorem itR_enum [Fed] {K : PySem.W.Frag} {F : Hp} {b : Bool} {a : Addr} {vs : List V} {ds : List PD} (h1 : SqB b K F a vs) (r1 : RDs K F vs ds) : ItR K F (IteB b K a) (enumD 0 ds) := fun F' U' μ' H' h' g l i => by
  have q1 : SqB b K H' a vs := sqB_mono l.fh (sqB_mono g h1)
  refine ⟨fun d hd => ?_, fun e => ⟨vs, q1, by rw [e, enumD_len, r1.len]⟩⟩
  obtain ⟨x, e1, rfl⟩ := enumD_get hd
  obtain ⟨v, g1, d1⟩ := r1.get e1
  refine ⟨⟨vs, v, q1, g1⟩, fun z H2 yl => ?_⟩
  obtain ⟨T, x', rfl, hT, rfl, f1⟩ := yl
  have ex : v = x' := Option.some.inj (g1.symm.trans (f1 vs q1))
  subst ex
  rw [Nat.zero_add]
  exact newT_world l hT (.cons (.int _) (.cons (d1.mono g) .nil))
def iZip (ta : Ax) : Ix := fun env h => (ta env h).bind fun xs h1 => match xs with
  | [x, y] => match frzSeq x, frzSeq y with
    | some ds, some es => .ok (zipD ds es) h1
    | _, _ => .no
  | _ => .no
def iEnumr (ta : Ax) : Ix := fun env h => (ta env h).bind fun xs h1 => match xs with
  | [x] => match frzSeq x with
    | some ds => .ok (enumD 0 ds) h1
    | _ => .no
  | _ => .no
theorem si_zip [Fed] (hg : Gl X "zip") (hm : X.mg "zip" = none) (ha : SA C Wx X [e, e2] tr) (hK : X.K = C.K := by rfl) (hs : starEach [e, e2] X.env = (false, eval e X.env) :: starEach [e2] X.env := by rfl) (hpl : (backTo pos (starEach [e2] X.env)).any (·.1) = false := by rfl) :
    SI C Wx X (.Tuple elts kk tpos) (.Call (.Name "zip" p) [e, e2] [] pos) (iZip tr) := ⟨pi_imp (pi_zipB hg hm ha.pa hs hpl) fun σ H Q q => by
  obtain ⟨F, U, μ, env, h, l, ev, o⟩ := q
  refine rd_step l ev o fun x vx F1 U1 μ1 H1 h1 g1 p1 l1 r1 e1 o1 => ?_
  rw [hK]
  split at o1
  · obtain ⟨v, w, rfl, rv, rw'⟩ := slRs2 r1
    split at o1
    · rename_i ds es c1 c2
      obtain ⟨b1, a1, vs1, rfl, s1, d1⟩ := frzSeq_ok rv c1
      obtain ⟨b2, a2, vs2, rfl, s2, d2⟩ := frzSeq_ok rw' c2
      exact ⟨b1, b2, a1, a2, vs1, vs2, rfl, sqB_mono l1.fh s1, sqB_mono l1.fh s2, o1.it l1 (itR_zip s1 d1 s2 d2)⟩
    · exact o1.elim
  · exact o1.elim⟩
theorem si_enum [Fed] (hg : Gl X "enumerate") (hm : X.mg "enumerate" = none) (ha : SA C Wx X [e] tr) (hK : X.K = C.K := by rfl) (hs : starEach [e] X.env = [(false, eval e X.env)] := by rfl) :
    SI C Wx X (.Tuple elts kk tpos) (.Call (.Name "enumerate" p) [e] [] pos) (iEnumr tr) := ⟨pi_imp (pi_enumB hg hm ha.pa hs) fun σ H Q q => by
  obtain ⟨F, U, μ, env, h, l, ev, o⟩ := q
  refine rd_step l ev o fun x vx F1 U1 μ1 H1 h1 g1 p1 l1 r1 e1 o1 => ?_
  rw [hK]
  split at o1
  · obtain ⟨v, rfl, rv⟩ := slRs1 r1
    split at o1
    · rename_i ds c1
      obtain ⟨b1, a1, vs1, rfl, s1, d1⟩ := frzSeq_ok rv c1
      exact ⟨b1, a1, vs1, rfl, sqB_mono l1.fh s1, o1.it l1 (itR_enum s1 d1)⟩
    · exact o1.elim
  · exact o1.elim⟩
end
end Pv

/-! Pv, part E: loops, assignments, list objects, comprehensions. -/
namespace Pv
open PySem PySem.Spec PyProof.Rows L2

/-! ### for -/
def forL (tg : Tgt) (body : Sx) : List PD → Sx
  | [], env, h => .ok (.nx env) h
  | d :: ds, env, h => match tg.asg d env with
    | none => .no
    | some env1 => (body env1 h).bind fun fl h1 => match fl with
      | .nx env2 => forL tg body ds env2 h1
      | .ct env2 => forL tg body ds env2 h1
      | .bk env2 => .ok (.nx env2) h1
      | .rt x => .ok (.rt x) h1
def sFor (it : Ix) (tg : Tgt) (body : Sx) : Sx := fun env h => (it env h).bind fun ds h1 => forL tg body ds env h1
def whL (c : Tx) (body : Sx) : Nat → Sx
  | 0, _, _ => .no
  | n + 1, env, h => (c env h).bind fun b h1 => if b then (body env h1).bind fun fl h2 => match fl with
      | .nx env2 => whL c body n env2 h2
      | .ct env2 => whL c body n env2 h2
      | .bk env2 => .ok (.nx env2) h2
      | .rt x => .ok (.rt x) h2
    else .ok (.nx env) h1
def sWhile (n : Nat) (c : Tx) (body : Sx) : Sx := fun env h => whL c body n env h
section
variable {C : Cn} {Wx : XK} {X : Cx} {tg iter c : Expr} {body : List Stmt} {it : Ix} {t : Tgt} {tb : Sx} {pos : Pos} {tc : Tx}
theorem rd_turn [Fed] {D : Ends} {N : L2.St → Hp → Prop} {σ : L2.St} {F U H : Hp} {μ : List Addr} {env : Ev} {h : AH} {go : Ev → AH → Res Fl} (l : Lk C.K F U μ H h) (e : EvR C.K F μ σ env)
    (o : Out C F U μ Wx (rFl C.K) (qD D) ((tb env h).bind fun fl h1 => match fl with
      | .nx env2 => go env2 h1
      | .ct env2 => go env2 h1
      | .bk env2 => .ok (.nx env2) h1
      | .rt x => .ok (.rt x) h1))
    (k : ∀ F' U' μ' env' σ' H' h', Gr F U F' U' → Lk C.K F' U' μ' H' h' → EvR C.K F' μ' σ' env' → Out C F' U' μ' Wx (rFl C.K) (qD D) (go env' h') → N σ' H') : rdS C Wx tb { D with nx := N, ct := N, bk := D.nx } σ H := by
  refine ⟨F, U, μ, env, h, l, e, o.bind fun fl b F1 U1 μ1 H1 h1 g1 p1 l1 r1 o1 => ?_⟩
  cases fl with
  | nx env' =>
    cases b with
    | nx σ' => exact k _ _ _ _ _ _ _ g1 l1 r1 o1
    | _ => exact r1.elim
  | rt x =>
    cases b with
    | rt v =>
      have o2 : Out C F1 U1 μ1 Wx (rFl C.K) (qD D) (.ok (.rt x) h1) := o1
      exact Out.ret (D := D) o2 l1 r1
    | _ => exact r1.elim
  | bk env' =>
    cases b with
    | bk σ' =>
      have o2 : Out C F1 U1 μ1 Wx (rFl C.K) (qD D) (.ok (.nx env') h1) := o1
      exact Out.nxt (D := D) o2 l1 r1
    | _ => exact r1.elim
  | ct env' =>
    cases b with
    | ct σ' => exact k _ _ _ _ _ _ _ g1 l1 r1 o1
    | _ => exact r1.elim
theorem drop_at [Fed] {α : Type} {ds : List α} {i : Nat} (h : i < ds.length) : ds.drop i = ds[i] :: ds.drop (i + 1) := by
  rw [List.drop_eq_getElem_cons h]
def ForInv [Fed] (C : Cn) (Wx : XK) (D : Ends) (t : Tgt) (tb : Sx) (ds : List PD) (F1 : Hp) (i : Nat) (σ : L2.St) (H : Hp) : Prop := ∃ F U μ env h, Same F1 F ∧ Lk C.K F U μ H h ∧ EvR C.K F μ σ env ∧ Out C F U μ Wx (rFl C.K) (qD D) (forL t tb (ds.drop i) env h)
theorem ss_for [Fed] (hp : PassesOwn (model X.prog X.w) X.A X.env X.xe) (hi : SI C Wx X tg iter it) (hg : PG X tg (t.rd X.K)) (hb : SB C Wx X body tb) (hc : X.calm = true := by rfl) (hK : X.K = C.K := by rfl)
    (hs : ∀ x, foldedSetIterable iter X.env x = pure x := by intro _; rfl) : SS C Wx X (.For tg iter body [] pos) (sFor it t tb) := ⟨ps_imp (ps_for hp hc hi.pi hg hb.pss hs) fun D σ H q => by
  obtain ⟨F, U, μ, env, h, l, ev, o⟩ := q
  refine rd_step l ev o fun ds J F1 U1 μ1 H1 h1 g1 p1 l1 r1 e1 o1 => ?_
  refine ⟨fun i m σ H => m = ds.length - i ∧ i ≤ ds.length ∧ ForInv C Wx D t tb ds F1 i σ H, ⟨_, rfl, Nat.zero_le _, F1, U1, μ1, env, h1, Same.refl _, l1, e1, o1⟩, ?_⟩
  rintro i m σ H ⟨rfl, hi, F2, U2, μ2, env2, h2, s2, l2, e2, o2⟩
  by_cases hlt : i < ds.length
  · obtain ⟨hgo, hy⟩ := (r1 F2 U2 μ2 H h2 s2 l2 i).1 ds[i] (by rw [List.getElem?_eq_getElem hlt])
    rw [drop_at hlt] at o2
    unfold forL at o2
    split at o2
    · exact o2.elim
    · rename_i env3 ea
      refine .inr ⟨hgo, ForInv C Wx D t tb ds F1 (i + 1), fun σ' H' n => ⟨ds.length - (i + 1), by omega, rfl, hlt, n⟩, fun x H' y => ?_⟩
      obtain ⟨F3, U3, g3, l3, d3⟩ := hy x H' y
      obtain ⟨σ3, e3, _, q3⟩ := Tgt.rd_ok t l3.fh (e2.mono g3.f (List.prefix_refl _)) d3 ea
      rw [hK]
      refine q3 _ ?_
      exact rd_turn l3 e3 (o2.mono g3 (List.prefix_refl _)) fun F' U' μ' env' σ' H' h' g l e o => ⟨F', U', μ', env', h', (s2.trans g3.f).trans g.f, l, e, o⟩
  · have e : i = ds.length := by omega
    subst e
    rw [List.drop_length] at o2
    exact .inl ⟨(r1 F2 U2 μ2 H h2 s2 l2 _).2 rfl, Out.nxt o2 l2 e2⟩⟩
theorem ss_while [Fed] (n : Nat) (hp : PassesOwn (model X.prog X.w) X.A X.env X.xe) (hc : STt C Wx X c tc) (hb : SB C Wx X body tb) : SS C Wx X (.While c body [] pos) (sWhile n tc tb) := ⟨ps_imp (ps_while hp hc.pt hb.pss) fun D σ H q => by
  obtain ⟨F, U, μ, env, h, l, ev, o⟩ := q
  refine ⟨fun m σ H => ∃ F U μ env h, Lk C.K F U μ H h ∧ EvR C.K F μ σ env ∧ Out C F U μ Wx (rFl C.K) (qD D) (whL tc tb m env h), ⟨n, F, U, μ, env, h, l, ev, o⟩, ?_⟩
  rintro m σ H ⟨F2, U2, μ2, env2, h2, l2, e2, o2⟩
  cases m with
  | zero => exact o2.elim
  | succ m =>
    unfold whL at o2
    refine rd_step l2 e2 o2 fun x vx F1 U1 μ1 H1 h1 g1 p1 l1 r1 e1 o1 => ?_
    cases r1
    cases x with
    | true =>
      rw [if_pos rfl]
      rw [if_pos rfl] at o1
      exact ⟨_, fun σ' H' q => ⟨m, Nat.lt_succ_self _, q⟩, rd_turn l1 e1 o1 fun F' U' μ' env' σ' H' h' g l e o => ⟨F', U', μ', env', h', l, e, o⟩⟩
    | false =>
      rw [if_neg Bool.false_ne_true]
      rw [if_neg Bool.false_ne_true] at o1
      exact Out.nxt o1 l1 e1⟩
end

/-! ### assignments -/
def cD (ta : Ex) : Ex := fun env h => (ta env h).bind fun x h1 => match x with
  | .obj k => match frzAt k h1 with
    | some (d, h2) => .ok (.dat d) h2
    | none => .no
  | x => .ok x h1
def sAsg (tg : Tgt) (ta : Ex) : Sx := fun env h => (ta env h).bind fun x h1 => match x with
  | .dat d => match tg.asg d env with
    | some env' => .ok (.nx env') h1
    | none => .no
  | _ => .no
def sPar (i j : Nat) (ta : Ax) : Sx := fun env h => (ta env h).bind fun xs h1 => match xs with
  | [x, y] => .ok (.nx ((env.set i (some x)).set j (some y))) h1
  | _ => .no
def sAug (i : Nat) (f : Int → Int → Int) (ta : Ex) : Sx := fun env h => match env[i]? with
  | some (some (.dat (.int a))) => (ta env h).bind fun y h1 => match y with
    | .dat (.int b) => .ok (.nx (env.set i (some (.dat (.int (f a b)))))) h1
    | _ => .no
  | _ => .no
section
variable {C : Cn} {Wx : XK} {X : Cx} {tg e : Expr} {ta : Ex} {tr : Ax} {t : Tgt} {pos pos' : Pos}
theorem se_dat [Fed] (ha : SE C Wx X e ta) : SE C Wx X e (cD ta) := ⟨pe_imp ha.pe fun σ H Q q => by
  obtain ⟨F, U, μ, env, h, l, ev, o⟩ := q
  refine rd_step l ev o fun x vx F1 U1 μ1 H1 h1 g1 p1 l1 r1 e1 o1 => ?_
  split at o1
  · split at o1
    · rename_i k d h2 ef
      obtain ⟨a, ha, rfl⟩ := r1
      obtain ⟨F2, U2, g2, l2, r2⟩ := l1.frz ha ef
      exact o1 _ F2 U2 μ1 H1 g2 (List.prefix_refl _) l2 r2
    · exact o1.elim
  · exact o1.here l1 r1⟩
theorem ss_asg [Fed] (ha : SE C Wx X e ta) (hg : PG X tg (t.rd X.K)) (hK : X.K = C.K := by rfl) (hs : swapsWithSole [tg] e pos.line X.env = pure false := by rfl) (hw : swappedStores [tg] e X.env = pure none := by rfl)
    (h1 : (assignEach [tg] X.env).map (·.2) = [assign tg X.env] := by rfl) : SS C Wx X (.Assign [tg] e pos) (sAsg t ta) := ⟨ps_imp (ps_asg ha.pe hg hs hw h1) fun D σ H q => by
  obtain ⟨F, U, μ, env, h, l, ev, o⟩ := q
  refine rd_step l ev o fun x vx F1 U1 μ1 H1 h1 g1 p1 l1 r1 e1 o1 => ?_
  split at o1
  · split at o1
    · rename_i env' ea
      obtain ⟨σ3, e3, _, q3⟩ := Tgt.rd_ok t l1.fh e1 r1 ea
      rw [hK]
      exact q3 _ (o1.nxt l1 e3)
    · exact o1.elim
  · exact o1.elim⟩
theorem ss_par [Fed] (i j : Nat) {x y : Str} {a b : Expr} {px py pt : Pos} {kt k2 pt2} (hN : X.N.Nodup) (hi : X.N[i]? = some x) (hj : X.N[j]? = some y) (hij : i ≠ j)
    (ha : SA C Wx X [a, b] tr) (hc : X.calm = true := by rfl) (hx : X.env.scope.names.lookup x = some .local := by rfl) (hy : X.env.scope.names.lookup y = some .local := by rfl)
    (hw : swappedStores [.Tuple [.Name x px, .Name y py] kt pt] (.Tuple [a, b] k2 pt2) X.env = pure (some [x, y]) := by rfl)
    (hs : swapsWithSole [.Tuple [.Name x px, .Name y py] kt pt] (.Tuple [a, b] k2 pt2) pos.line X.env = pure false := by rfl) :
    SS C Wx X (.Assign [.Tuple [.Name x px, .Name y py] kt pt] (.Tuple [a, b] k2 pt2) pos) (sPar i j tr) := ⟨ps_imp (ps_par hc hN hi hj hij hx hy ha.pa hw hs) fun D σ H q => by
  obtain ⟨F, U, μ, env, h, l, ev, o⟩ := q
  refine rd_step l ev o fun xs vs F1 U1 μ1 H1 h1 g1 p1 l1 r1 e1 o1 => ?_
  split at o1
  · obtain ⟨v, w, rfl, rv, rw'⟩ := slRs2 r1
    exact ⟨v, w, rfl, o1.nxt l1 ((e1.set rv).set rw')⟩
  · exact o1.elim⟩
theorem ss_aug [Fed] (i : Nat) {x : Str} {op : Operator} {f : Int → Int → Int} (hN : X.N.Nodup) (ho : PIp X op (ipI f)) (ha : SE C Wx X e ta) (hi : X.N[i]? = some x := by rfl) (hx : Loc X.env.scope x := by first | exact Or.inl rfl | exact Or.inr rfl)
    (hf : X.fn x = true ∨ X.env.scope.names.lookup x = some .local := by first | exact .inl rfl | exact .inr rfl) : SS C Wx X (.AugAssign (.Name x pos') op e pos) (sAug i f ta) := ⟨ps_imp (L2.ps_aug hN hi hx ha.pe ho hf) fun D σ H q => by
  obtain ⟨F, U, μ, env, h, l, ev, o⟩ := q
  unfold sAug at o
  split at o
  · rename_i a ea
    obtain ⟨v, hv, rv⟩ := ev.2 _ _ ea
    cases rv
    refine ⟨_, hv, ?_⟩
    refine rd_step l ev o fun x vx F1 U1 μ1 H1 h1 g1 p1 l1 r1 e1 o1 => ?_
    split at o1
    · cases r1
      exact ⟨_, _, rfl, rfl, o1.nxt l1 (e1.set (x := .dat (.int _)) (.int _))⟩
    · exact o1.elim
  · exact o.elim⟩
end

/-! ### list objects -/
def isL (x : Sl) (h : AH) : Bool := (vwL x h).isSome
def cApp (to : Ex) (ta : Ax) : Ex := fun env h => (to env h).bind fun x h1 => if isL x h1 then (ta env h1).bind fun xs h2 => match x, xs with
  | .obj k, [.dat d] => match h2[k]? with
    | some (.lst ds) => if ds.length < sizeLine then .ok (.dat .none) (h2.set k (.lst (ds ++ [d]))) else .no
    | _ => .no
  | _, _ => .no
  else .no
def cExt (to : Ex) (ta : Ax) : Ex := fun env h => (to env h).bind fun x h1 => if isL x h1 then (ta env h1).bind fun xs h2 => match x, xs with
  | .obj k, [y] => match h2[k]?, vwL y h2 with
    | some (.lst ds), some es => if ds.length + es.length ≤ sizeLine then .ok (.dat .none) (h2.set k (.lst (ds ++ es))) else .no
    | _, _ => .no
  | _, _ => .no
  else .no
section
variable {C : Cn} {Wx : XK} {X : Cx} {o e : Expr} {es : List Expr} {to : Ex} {tr : Ax} {apos cpos : Pos}
theorem isL_ty [Fed] {K : PySem.W.Frag} {F U H : Hp} {μ : List Addr} {h : AH} {v : V} {x : Sl} (l : Lk K F U μ H h) (r : SlR K F μ v x) (e : isL x h = true) : tyV K "list" v H := by
  unfold isL at e
  cases q : vwL x h with
  | none => rw [q] at e; cases e
  | some ds =>
    obtain ⟨a, vs, rfl, h1, h2⟩ := vwL_ok l r q
    exact .inl ⟨rfl, vs, .inl (.inl h1)⟩
theorem se_app [Fed] (pa : PlainAttrs "list") (ho : SE C Wx X o to) (ha : SA C Wx X [e] tr) (hK : X.K = C.K := by rfl)
    (hbase : attributeBase o "append" X.env (eval o X.env) = eval o X.env := by rfl)
    (hfew : ((backTo cpos (starEach [e] X.env)).all (fun x => !x.1) && (backToKw cpos (keywordEach [] X.env)).all (fun x => x.1.isSome)
      && decide (([e] : List Expr).length + ([] : List Keyword).length + (if ([] : List Keyword).isEmpty then 0 else 1) < 30)) = true := by rfl)
    (hline : (apos.endLine == cpos.line) = true := by rfl) (hs : starEach [e] X.env = (false, eval e X.env) :: starEach [] X.env := by rfl) (hplain : (backTo cpos (starEach [] X.env)).any (·.1) = false := by rfl) :
    SE C Wx X (.Call (.Attribute o "append" apos) [e] [] cpos) (cApp to tr) := ⟨pe_imp (pe_bm pa F.slot_list_append rfl mt_append ho.pe ha.pa hbase hfew hline hs hplain) fun σ H Q q => by
  obtain ⟨F, U, μ, env, h, l, ev, o⟩ := q
  refine rd_step l ev o fun x vx F1 U1 μ1 H1 h1 g1 p1 l1 r1 e1 o1 => ?_
  split at o1
  · rename_i hL
    rw [hK]
    refine ⟨isL_ty l1 r1 hL, ?_⟩
    refine rd_step l1 e1 o1 fun ys vs F2 U2 μ2 H2 h2 g2 p2 l2 r2 e2 o2 => ?_
    split at o2
    · rename_i k d
      obtain ⟨v, rfl, rv⟩ := slRs1 r2
      split at o2
      · rename_i ds ek
        split at o2
        · rename_i hz
          obtain ⟨a, ha, rfl⟩ := r1.mono g2.f p2
          obtain ⟨hU, ws, hH, hd⟩ := l2.obj k a _ ha ek
          refine ⟨a, ws, v, rfl, rfl, hH, by rw [hd.len]; exact hz, ?_⟩
          exact o2.here (l2.put ha ek hU ⟨hU, _, upd_same, hd.app (.cons rv .nil)⟩) RD.non
        · exact o2.elim
      · exact o2.elim
    · exact o2.elim
  · exact o1.elim⟩
theorem se_ext [Fed] (pa : PlainAttrs "list") (ho : SE C Wx X o to) (ha : SA C Wx X [e] tr) (hK : X.K = C.K := by rfl)
    (hbase : attributeBase o "extend" X.env (eval o X.env) = eval o X.env := by rfl)
    (hfew : ((backTo cpos (starEach [e] X.env)).all (fun x => !x.1) && (backToKw cpos (keywordEach [] X.env)).all (fun x => x.1.isSome)
      && decide (([e] : List Expr).length + ([] : List Keyword).length + (if ([] : List Keyword).isEmpty then 0 else 1) < 30)) = true := by rfl)
    (hline : (apos.endLine == cpos.line) = true := by rfl) (hs : starEach [e] X.env = (false, eval e X.env) :: starEach [] X.env := by rfl) (hplain : (backTo cpos (starEach [] X.env)).any (·.1) = false := by rfl) :
    SE C Wx X (.Call (.Attribute o "extend" apos) [e] [] cpos) (cExt to tr) := ⟨pe_imp (pe_bm pa F.slot_list_extend rfl mt_extend ho.pe ha.pa hbase hfew hline hs hplain) fun σ H Q q => by
  obtain ⟨F, U, μ, env, h, l, ev, o⟩ := q
  refine rd_step l ev o fun x vx F1 U1 μ1 H1 h1 g1 p1 l1 r1 e1 o1 => ?_
  split at o1
  · rename_i hL
    rw [hK]
    refine ⟨isL_ty l1 r1 hL, ?_⟩
    refine rd_step l1 e1 o1 fun ys vs F2 U2 μ2 H2 h2 g2 p2 l2 r2 e2 o2 => ?_
    split at o2
    · rename_i k y
      obtain ⟨v, rfl, rv⟩ := slRs1 r2
      split at o2
      · rename_i ds es ek ey
        split at o2
        · rename_i hz
          obtain ⟨a, ha, rfl⟩ := r1.mono g2.f p2
          obtain ⟨hU, ws, hH, hd⟩ := l2.obj k a _ ha ek
          obtain ⟨b, zs, rfl, hb, hd2⟩ := vwL_ok l2 rv ey
          refine ⟨a, b, ws, zs, rfl, rfl, hH, hb, by rw [hd.len, hd2.len]; exact hz, ?_⟩
          exact o2.here (l2.put ha ek hU ⟨hU, _, upd_same, hd.app hd2⟩) RD.non
        · exact o2.elim
      · exact o2.elim
    · exact o2.elim
  · exact o1.elim⟩
end
end Pv

/-! Pv, part F: comprehensions. -/
namespace Pv
open PySem PySem.Spec PyProof.Rows L2

def wipeE (env : Ev) : List Nat → Ev
  | [] => env
  | v :: vs => (wipeE env vs).set v none
theorem EvR.wipe [Fed] {K : PySem.W.Frag} {F : Hp} {μ : List Addr} {σ : L2.St} {env : Ev} (e : EvR K F μ σ env) : ∀ vs : List Nat, EvR K F μ (wipe σ vs) (wipeE env vs)
  | [] => e
  | v :: vs => (EvR.wipe e vs).setN
theorem wipe_wipe [Fed] (σ : L2.St) : ∀ (vs ws : List Nat), (∀ i ∈ ws, i ∈ vs) → L2.wipe (L2.wipe σ ws) vs = L2.wipe σ vs
  | vs, [], _ => rfl
  | vs, w :: ws, h => by
    show L2.wipe ((L2.wipe σ ws).set w none) vs = L2.wipe σ vs
    rw [wipe_set (h w List.mem_cons_self), wipe_wipe σ vs ws fun i hi => h i (List.mem_cons_of_mem _ hi)]
def strict {α : Type} : Res α → Res α
  | .ok a h => .ok a h
  | _ => .no
theorem Out.strict [Fed] {α β γ δ : Type} {C : Cn} {F0 U0 F U : Hp} {μ0 μ : List Addr} {W W' : XK} {R : α → Hp → Hp → List Addr → β → Prop} {Q : β → Hp → Prop} {R2 : γ → Hp → Hp → List Addr → δ → Prop} {Q2 : δ → Hp → Prop} {r : Res α} {f : α → AH → Res γ}
    (o : Out C F0 U0 μ0 W R2 Q2 ((Pv.strict r).bind f)) (h : ∀ a b F' U' μ' H' h', Gr F U F' U' → μ <+: μ' → Lk C.K F' U' μ' H' h' → R a F' U' μ' b → Out C F0 U0 μ0 W R2 Q2 (f a h') → Q b H') : Out C F U μ W' R Q r := by
  cases r with
  | ok a h' => exact fun b F' U' μ' H' g p l r => h a b F' U' μ' H' h' g p l r o
  | exc c fs h' => exact o.elim
  | no => exact o.elim

/-! ### the list in the making -/
section
variable {K : PySem.W.Frag} {F U H : Hp} {μ : List Addr} {h : AH} {D : Addr}
theorem Lk.newU [Fed] {o : HO} (l : Lk K F U μ H h) (hp : H D = none) (nt : ∀ ps, o ≠ .tbl ps := by exact fun _ z => (nomatch z)) : Lk K F (upd U D o) μ (upd H D o) h ∧ Gr F U F (upd U D o) := by
  have hU := same_none l.uh hp
  have hF := same_none l.fu hU
  refine ⟨⟨l.fu.trans (same_new hU), same_upd2 l.uh, l.nod, l.len, fun a ha => ?_, fun k a x h1 h2 => ?_, l.tab.ext (same_new hp), ntb_upd l.ntb nt⟩, ⟨Same.refl _, same_new hU, fun _ _ _ z => z⟩⟩
  · obtain ⟨x, e, en⟩ := l.trk a ha
    exact ⟨x, by rw [upd_ne (ne_of_none e hp)]; exact e, en⟩
  · obtain ⟨y, e, _⟩ := l.trk a (List.mem_of_getElem? h1)
    have hne : a ≠ D := ne_of_none e hp
    exact (l.obj k a x h1 h2).mono (Same.refl _) (fun z => by rw [upd_ne hne]; exact z) (fun _ => upd_ne hne) fun d e => by rw [upd_ne (ne_of_none e hp)]; exact e
theorem Lk.putU [Fed] {o o' : HO} (l : Lk K F U μ H h) (hU : U D = some o) (hF : F D = none) (no : NoX o := by exact ⟨fun _ z => (nomatch z), fun _ _ z => (by unfold LamX.CodeO at z; cases z), fun _ z => (nomatch z)⟩) (no2 : NoX o' := by exact ⟨fun _ z => (nomatch z), fun _ _ z => (by unfold LamX.CodeO at z; cases z), fun _ z => (nomatch z)⟩) : Lk K F (upd U D o') μ (upd H D o') h := by
  refine ⟨fun b x e => ?_, same_upd2 l.uh, l.nod, l.len, fun a ha => ?_, fun k a x h1 h2 => ?_, tabs_put l.tab (l.uh _ _ hU) no, ntb_upd l.ntb no2.tbl⟩
  · rw [upd_ne (ne_of_none e hF)]
    exact l.fu _ _ e
  · by_cases e : a = D
    · exact ⟨o', by rw [e, upd_same], no2⟩
    · obtain ⟨x, q, qn⟩ := l.trk a ha
      exact ⟨x, by rw [upd_ne e]; exact q, qn⟩
  · by_cases hne : a = D
    · subst hne
      have r := l.obj k a x h1 h2
      cases x with
      | lst ds => exact absurd (r.1) (by rw [hU]; exact fun z => by cases z)
      | dct ds => exact absurd (r.1) (by rw [hU]; exact fun z => by cases z)
      | fed os qs => exact absurd (r.1) (by rw [hU]; exact fun z => by cases z)
      | ins c fs => exact absurd (r.1) (by rw [hU]; exact fun z => by cases z)
      | frz d => exact r
      | dead => trivial
    · exact (l.obj k a x h1 h2).mono (Same.refl _) (fun z => by rw [upd_ne hne]; exact z) (fun _ => upd_ne hne) fun d e => by
        rw [upd_ne (fun z => no.own a (by rw [z, l.uh _ _ hU] at e; exact Option.some.inj e))]
        exact e
theorem Lk.endU [Fed] {o : HO} (l : Lk K F U μ H h) (hU : U D = some o) (hF : F D = none) : Lk K (upd F D o) U μ H h := by
  refine ⟨fun b x e => ?_, l.uh, l.nod, l.len, l.trk, fun k a x h1 h2 => (l.obj k a x h1 h2).mono (same_new hF) id (fun _ => rfl) fun _ e => e, l.tab, l.ntb⟩
  by_cases hb : b = D
  · subst hb; rw [upd_same] at e; rw [← e]; exact hU
  · rw [upd_ne hb] at e; exact l.fu _ _ e
theorem Lk.keptU [Fed] {F' U' : Hp} {μ' : List Addr} {H' : Hp} {h' : AH} {o : HO} (g : Gr F U F' U') (l : Lk K F' U' μ' H' h') (hU : U D = some o) (hF : F D = none) : U' D = some o ∧ F' D = none ∧ H' D = some o := by
  have hU' := g.u _ _ hU
  refine ⟨hU', ?_, l.uh _ _ hU'⟩
  cases q : F' D with
  | none => rfl
  | some x =>
    have e := l.fu _ _ q
    rw [hU'] at e; cases e
    have := g.n _ _ hU q
    rw [hF] at this; cases this
end
/-- where a list is in the making at D -/
structure Mkg [Fed] (C : Cn) (F0 U0 : Hp) (μ0 : List Addr) (D : Addr) (F U : Hp) (μ : List Addr) (H : Hp) (h : AH) (acc : List PD) : Prop where
  g : Gr F0 U0 F U
  p : μ0 <+: μ
  l : Lk C.K F U μ H h
  fD : F D = none
  at_ : ∃ vs, U D = some (.lst vs) ∧ RDs C.K F vs acc
section
variable {C : Cn} {F0 U0 F U : Hp} {μ0 μ : List Addr} {H : Hp} {h : AH} {acc : List PD} {D : Addr}
theorem Mkg.step [Fed] {F' U' : Hp} {μ' : List Addr} {H' : Hp} {h' : AH} (m : Mkg C F0 U0 μ0 D F U μ H h acc) (g : Gr F U F' U') (p : μ <+: μ') (l : Lk C.K F' U' μ' H' h') : Mkg C F0 U0 μ0 D F' U' μ' H' h' acc := by
  obtain ⟨vs, hU, r⟩ := m.at_
  obtain ⟨h1, h2, h3⟩ := l.keptU g hU m.fD
  exact ⟨m.g.trans g, m.p.trans p, l, h2, vs, h1, r.mono g.f⟩
theorem Mkg.at [Fed] (m : Mkg C F0 U0 μ0 D F U μ H h acc) : ∃ vs, H D = some (.lst vs) ∧ vs.length = acc.length ∧ RDs C.K F vs acc := by
  obtain ⟨vs, hU, r⟩ := m.at_
  exact ⟨vs, m.l.uh _ _ hU, r.len, r⟩
theorem Mkg.push [Fed] {v : V} {d : PD} (m : Mkg C F0 U0 μ0 D F U μ H h acc) (h0 : U0 D = none) (r : RD C.K F v d) : ∃ vs, H D = some (.lst vs) ∧ vs.length = acc.length ∧ Mkg C F0 U0 μ0 D F (upd U D (.lst (vs ++ [v]))) μ (upd H D (.lst (vs ++ [v]))) h (acc ++ [d]) := by
  obtain ⟨vs, hU, rs⟩ := m.at_
  refine ⟨vs, m.l.uh _ _ hU, rs.len, ⟨m.g.f, fun b x e => ?_, fun a x e1 e2 => m.g.n a x e1 e2⟩, m.p, m.l.putU hU m.fD, m.fD, _, upd_same, rs.app (.cons r .nil)⟩
  rw [upd_ne (ne_of_none e h0)]
  exact m.g.u _ _ e
theorem Mkg.new [Fed] {D : Addr} (l : Lk C.K F U μ H h) (hp : H D = none) : Mkg C F U μ D F (upd U D (.lst [])) μ (upd H D (.lst [])) h [] := by
  obtain ⟨l', g⟩ := l.newU (o := .lst []) hp
  exact ⟨g, List.prefix_refl _, l', same_none l.fh hp, [], upd_same, .nil⟩
theorem Mkg.done [Fed] {W : XK} {Q : VK} (m : Mkg C F0 U0 μ0 D F U μ H h acc) (h0 : U0 D = none) (o : Out C F0 U0 μ0 W (rSl C.K) Q (.ok (.dat (.list acc)) h)) : Q (.ref D) H := by
  obtain ⟨vs, hU, r⟩ := m.at_
  refine o (.ref D) (upd F D (.lst vs)) U μ H ⟨m.g.f.trans (same_new m.fD), m.g.u, fun a x e1 e2 => ?_⟩ m.p (m.l.endU hU m.fD) (RD.lst upd_same (r.mono (same_new m.fD)))
  rw [upd_ne (ne_of_none e1 h0)] at e2
  exact m.g.n a x e1 e2
end

/-! ### one clause -/
def tstE (tt : Tx) : Tx := fun env h => strict (tt env h)
def lcL (tg : Tgt) (tt : Tx) (te : Ex) (vs : List Nat) : List PD → List PD → Ev → AH → Res Sl
  | [], acc, _, h => .ok (.dat (.list acc)) h
  | d :: ds, acc, env, h => match tg.asg d (wipeE env vs) with
    | none => .no
    | some env1 => (strict (tt env1 h)).bind fun b h1 => if b then (strict (te env1 h1)).bind fun x h2 => match x with
        | .dat y => if acc.length < sizeLine then lcL tg tt te vs ds (acc ++ [y]) env h2 else .no
        | _ => .no
      else lcL tg tt te vs ds acc env h1
def cLc (it : Ix) (tg : Tgt) (tt : Tx) (te : Ex) (vs : List Nat) : Ex := fun env h => (it env h).bind fun ds h1 => lcL tg tt te vs ds [] env h1
def uYes : Tx := fun _ h => .ok true h
structure STs [Fed] (C : Cn) (Wx : XK) (X : Cx) (es : List Expr) (t : Tx) : Prop where pts : PTs X es (rdT C Wx t)
def slotsIn (t : Tgt) (vs : List Nat) : Bool := t.slots.all fun i => decide (i ∈ vs)
theorem slotsIn_iff [Fed] {t : Tgt} {vs : List Nat} (h : slotsIn t vs = true) : ∀ i ∈ t.slots, i ∈ vs := fun i hi => by
  unfold slotsIn at h
  rw [List.all_eq_true] at h
  exact of_decide_eq_true (h i hi)
section
variable {C : Cn} {Wx : XK} {X : Cx} {elt tg iter : Expr} {ifs : List Expr} {scope : Scope} {own : List (Str × Nat)} {pos spos py : Pos} {it : Ix} {t : Tgt} {tt : Tx} {te : Ex}
theorem sts_nil [Fed] : STs C Wx X [] uYes := ⟨⟨fun pins s σ H Q I q => by
  obtain ⟨F, U, μ, env, h, l, ev, o⟩ := q
  exact pts_nil.run pins s σ H Q I (Out.hereB o l)⟩⟩
theorem sts_one [Fed] {c : Expr} (h : STt C Wx X c tt) : STs C Wx X [c] tt := ⟨pts_one h.pt⟩
/-- what is told of the whole -/
def lcInv [Fed] (C : Cn) (Wx : XK) (F0 U0 : Hp) (μ0 : List Addr) (D : Addr) (Q : VK) (t : Tgt) (tt : Tx) (te : Ex) (vs : List Nat) (env : Ev) (ds : List PD) (i : Nat) (H : Hp) : Prop :=
  ∃ F U μ h acc, Mkg C F0 U0 μ0 D F U μ H h acc ∧ Out C F0 U0 μ0 Wx (rSl C.K) Q (lcL t tt te vs (ds.drop i) acc env h)
theorem rd_lc [Fed] {W1 : XK} {vs : List Nat} (hsl : slotsIn t vs = true) {wi : TI} (hw : ∀ σ H Q, rdG C Wx (rIt C.K) it σ H Q → wi σ H Q) {K : PySem.W.Frag} (hK : K = C.K) {σ : L2.St} {H : Hp} {Q : VK} (q : rdE C Wx (cLc it t tt te vs) σ H Q) :
    tLc wi (t.rd K) (rdT C W1 tt) (rdE C W1 te) vs σ H Q := by
  obtain ⟨F, U, μ, env, h, l, ev, o⟩ := q
  refine hw _ _ _ (rd_step l ev o fun ds J F0 U0 μ0 H1 h1 g1 p1 l1 r1 e1 o1 => ?_)
  intro D hD
  have h0 : U0 D = none := same_none l1.uh hD
  refine ⟨fun i m H => m = ds.length - i ∧ i ≤ ds.length ∧ lcInv C Wx F0 U0 μ0 D Q t tt te vs env ds i H, ⟨_, rfl, Nat.zero_le _, _, _, _, _, _, Mkg.new l1 hD, o1⟩, ?_⟩
  rintro i m H ⟨rfl, hi, F2, U2, μ2, h2, acc, mk, o2⟩
  by_cases hlt : i < ds.length
  · obtain ⟨hgo, hy⟩ := (r1 F2 U2 μ2 H h2 mk.g.f mk.l i).1 ds[i] (by rw [List.getElem?_eq_getElem hlt])
    rw [drop_at hlt] at o2
    unfold lcL at o2
    split at o2
    · exact o2.elim
    · rename_i env3 ea
      refine .inr ⟨hgo, lcInv C Wx F0 U0 μ0 D Q t tt te vs env ds (i + 1), fun H' n => ⟨ds.length - (i + 1), by omega, rfl, hlt, n⟩, fun x H' y => ?_⟩
      obtain ⟨F3, U3, g3, l3, d3⟩ := hy x H' y
      have mk3 := mk.step g3 (List.prefix_refl _) l3
      obtain ⟨σ3, e3, w3, q3⟩ := Tgt.rd_ok t l3.fh ((e1.mono mk3.g.f mk3.p).wipe vs) d3 ea
      rw [hK]
      refine q3 _ ⟨(w3 vs (slotsIn_iff hsl)).trans (wipe_wipe σ vs vs fun _ z => z), ?_⟩
      refine ⟨F3, U3, μ2, env3, h2, l3, e3, o2.strict fun b b' F4 U4 μ4 H4 h4 g4 p4 l4 rb o4 => ?_⟩
      cases rb
      have mk4 := mk3.step g4 p4 l4
      cases b with
      | false =>
        rw [if_neg Bool.false_ne_true]
        rw [if_neg Bool.false_ne_true] at o4
        exact ⟨F4, U4, μ4, h4, acc, mk4, o4⟩
      | true =>
        rw [if_pos rfl]
        rw [if_pos rfl] at o4
        refine ⟨F4, U4, μ4, env3, h4, l4, e3.mono g4.f p4, o4.strict fun x xv F5 U5 μ5 H5 h5 g5 p5 l5 rx o5 => ?_⟩
        have mk5 := mk4.step g5 p5 l5
        split at o5
        · split at o5
          · rename_i d hz
            obtain ⟨vs', e, hl, mk6⟩ := mk5.push h0 rx
            exact ⟨vs', e, by rw [hl]; exact hz, _, _, _, _, _, mk6, o5⟩
          · exact o5.elim
        · exact o5.elim
  · have e : i = ds.length := by omega
    subst e
    rw [List.drop_length] at o2
    exact .inl ⟨(r1 F2 U2 μ2 H h2 mk.g.f mk.l _).2 rfl, mk.done h0 o2⟩
theorem se_lc [Fed] (hN : X.N.Nodup) (hi : SI C Wx X tg iter it) (ok : blkC X.N X.env.scope scope own = true)
    (hg : ∀ (s : Shared) (H : Hp) (C : Addr) (cl : List (Str × Addr)) (fp : List Addr), PG (X.blk s H scope (compEnvC scope cl C X.env) fp) tg (t.rd X.K)) (ht : ∀ (s : Shared) (H : Hp) (A : Addr) (cl : List (Str × Addr)) (fp : List Addr), STs C (fun _ _ _ => False) (X.blk s H scope (compEnvC scope cl A X.env) fp) ifs tt)
    (he : ∀ (s : Shared) (H : Hp) (A : Addr) (cl : List (Str × Addr)) (fp : List Addr), SE C (fun _ _ _ => False) (X.blk s H scope (compEnvC scope cl A X.env) fp) elt te) (hsl : slotsIn t (own.map (·.2)) = true := by rfl) (hc : X.calm = true := by rfl) (hK : X.K = C.K := by rfl) (hs : ∀ x, foldedSetIterable iter X.env x = pure x := by intro _; rfl) :
    SE C Wx X (.ListComp elt [⟨tg, iter, ifs, 0⟩] scope pos) (cLc it t tt te (own.map (·.2))) :=
  ⟨pe_imp (pe_lc hc hN hi.pi (blkOk_by ok) hg (fun s H A cl fp => (ht s H A cl fp).pts) (fun s H A cl fp => (he s H A cl fp).pe) hs) fun σ H Q q => rd_lc hsl (fun _ _ _ z => z) hK q⟩
theorem ss_setLc [Fed] (i : Nat) {y : Str} (hN : X.N.Nodup) (hi : SI C Wx X tg iter it) (ok : blkC X.N X.env.scope scope own = true)
    (hg : ∀ (s : Shared) (H : Hp) (C : Addr) (cl : List (Str × Addr)) (fp : List Addr), PG (X.blk s H scope (compEnvC scope cl C X.env) fp) tg (t.rd X.K)) (ht : ∀ (s : Shared) (H : Hp) (A : Addr) (cl : List (Str × Addr)) (fp : List Addr), STs C (fun _ _ _ => False) (X.blk s H scope (compEnvC scope cl A X.env) fp) ifs tt)
    (he : ∀ (s : Shared) (H : Hp) (A : Addr) (cl : List (Str × Addr)) (fp : List Addr), SE C (fun _ _ _ => False) (X.blk s H scope (compEnvC scope cl A X.env) fp) elt te)
    (hy : X.N[i]? = some y := by rfl) (hyl : X.env.scope.names.lookup y = some .local := by rfl) (hsw : swapsWith (.ListComp elt [⟨tg, iter, ifs, 0⟩] scope pos) (some (.Name y py)) spos.line X.env = pure true := by rfl)
    (hsl : slotsIn t (own.map (·.2)) = true := by rfl) (hc : X.calm = true := by rfl) (hK : X.K = C.K := by rfl) (hs : ∀ x, foldedSetIterable iter X.env x = pure x := by intro _; rfl) :
    SS C Wx X (.Assign [.Name y py] (.ListComp elt [⟨tg, iter, ifs, 0⟩] scope pos) spos) (sSet i (cLc it t tt te (own.map (·.2)))) :=
  ⟨ps_imp (ps_setLc hc hN hy hyl hsw hi.pi (blkOk_by ok) hg (fun s H A cl fp => (ht s H A cl fp).pts) (fun s H A cl fp => (he s H A cl fp).pe) hs) fun D σ H q => by
    obtain ⟨F, U, μ, env, h, l, ev, o⟩ := q
    refine rd_lc hsl (fun _ _ _ z => z) hK ?_
    exact rd_step l ev o fun x vx F1 U1 μ1 H1 h1 g1 p1 l1 r1 e1 o1 => o1.nxt l1 (e1.set r1)⟩
end

/-! ### two clauses -/
def in1 (tg : Tgt) (tt : Tx) (te : Ex) (vs : List Nat) : List PD → List PD → Ev → AH → Res (List PD)
  | [], acc, _, h => .ok acc h
  | d :: ds, acc, env, h => match tg.asg d (wipeE env vs) with
    | none => .no
    | some env1 => (strict (tt env1 h)).bind fun b h1 => if b then (strict (te env1 h1)).bind fun x h2 => match x with
        | .dat y => if acc.length < sizeLine then in1 tg tt te vs ds (acc ++ [y]) env h2 else .no
        | _ => .no
      else in1 tg tt te vs ds acc env h1
def lc2L (tg : Tgt) (tt : Tx) (it1 : Ix) (tg1 : Tgt) (tt1 : Tx) (te : Ex) (vs vs1 : List Nat) : List PD → List PD → Ev → AH → Res Sl
  | [], acc, _, h => .ok (.dat (.list acc)) h
  | d :: ds, acc, env, h => match tg.asg d (wipeE env vs) with
    | none => .no
    | some env1 => (strict (tt env1 h)).bind fun b h1 => if b then (strict (it1 env1 h1)).bind fun es h2 =>
        (in1 tg1 tt1 te vs1 es acc env1 h2).bind fun acc' h3 => lc2L tg tt it1 tg1 tt1 te vs vs1 ds acc' env h3
      else lc2L tg tt it1 tg1 tt1 te vs vs1 ds acc env h1
def cLc2 (it : Ix) (tg : Tgt) (tt : Tx) (it1 : Ix) (tg1 : Tgt) (tt1 : Tx) (te : Ex) (vs vs1 : List Nat) : Ex := fun env h => (it env h).bind fun ds h1 => lc2L tg tt it1 tg1 tt1 te vs vs1 ds [] env h1
section
variable {C : Cn} {Wx : XK} {X : Cx} {elt tg iter tg1 iter1 : Expr} {ifs ifs1 : List Expr} {scope : Scope} {own : List (Str × Nat)} {pos spos py : Pos} {it it1 : Ix} {t t1 : Tgt} {tt tt1 : Tx} {te : Ex}
def lc2Inv [Fed] (C : Cn) (Wx : XK) (F0 U0 : Hp) (μ0 : List Addr) (D : Addr) (Q : VK) (go : List PD → AH → Res Sl) (H : Hp) : Prop :=
  ∃ F U μ h acc, Mkg C F0 U0 μ0 D F U μ H h acc ∧ Out C F0 U0 μ0 Wx (rSl C.K) Q (go acc h)
def in1Inv [Fed] (C : Cn) (Wx : XK) (F0 U0 : Hp) (μ0 : List Addr) (D : Addr) (Q : VK) (F1 : Hp) (es : List PD) (j : Nat) (go : List PD → List PD → AH → Res Sl) (H : Hp) : Prop :=
  ∃ F U μ h acc, Mkg C F0 U0 μ0 D F U μ H h acc ∧ Same F1 F ∧ Out C F0 U0 μ0 Wx (rSl C.K) Q (go (es.drop j) acc h)
theorem rd_lc2 [Fed] {W1 : XK} {vs vs1 : List Nat} (hsl : slotsIn t vs = true) (hsl1 : slotsIn t1 vs1 = true) {wi : TI} (hw : ∀ σ H Q, rdG C Wx (rIt C.K) it σ H Q → wi σ H Q) {K : PySem.W.Frag} (hK : K = C.K) {σ : L2.St} {H : Hp} {Q : VK} (q : rdE C Wx (cLc2 it t tt it1 t1 tt1 te vs vs1) σ H Q) :
    tLc2 wi (t.rd K) (rdT C W1 tt) (rdG C W1 (rIt C.K) it1) (t1.rd K) (rdT C W1 tt1) (rdE C W1 te) vs vs1 σ H Q := by
  obtain ⟨F, U, μ, env, h, l, ev, o⟩ := q
  refine hw _ _ _ (rd_step l ev o fun ds J F0 U0 μ0 H1 h1 g1 p1 l1 r1 e1 o1 => ?_)
  intro D hD
  have h0 : U0 D = none := same_none l1.uh hD
  let lcI : Nat → Hp → Prop := fun i H => lc2Inv C Wx F0 U0 μ0 D Q (fun acc h => lc2L t tt it1 t1 tt1 te vs vs1 (ds.drop i) acc env h) H
  refine ⟨fun i m H => m = ds.length - i ∧ i ≤ ds.length ∧ lcI i H, ⟨_, rfl, Nat.zero_le _, _, _, _, _, _, Mkg.new l1 hD, o1⟩, ?_⟩
  rintro i m H ⟨rfl, hi, F2, U2, μ2, h2, acc, mk, o2⟩
  by_cases hlt : i < ds.length
  · obtain ⟨hgo, hy⟩ := (r1 F2 U2 μ2 H h2 mk.g.f mk.l i).1 ds[i] (by rw [List.getElem?_eq_getElem hlt])
    rw [drop_at hlt] at o2
    dsimp only at o2
    unfold lc2L at o2
    split at o2
    · exact o2.elim
    · rename_i env3 ea
      refine .inr ⟨hgo, lcI (i + 1), fun H' n => ⟨ds.length - (i + 1), by omega, rfl, hlt, n⟩, fun x H' y => ?_⟩
      obtain ⟨F3, U3, g3, l3, d3⟩ := hy x H' y
      have mk3 := mk.step g3 (List.prefix_refl _) l3
      obtain ⟨σ3, e3, w3, q3⟩ := Tgt.rd_ok t l3.fh ((e1.mono mk3.g.f mk3.p).wipe vs) d3 ea
      rw [hK]
      refine q3 _ ⟨(w3 vs (slotsIn_iff hsl)).trans (wipe_wipe σ vs vs fun _ z => z), ?_⟩
      refine ⟨F3, U3, μ2, env3, h2, l3, e3, o2.strict fun b b' F4 U4 μ4 H4 h4 g4 p4 l4 rb o4 => ?_⟩
      cases rb
      have mk4 := mk3.step g4 p4 l4
      cases b with
      | false =>
        rw [if_neg Bool.false_ne_true]
        rw [if_neg Bool.false_ne_true] at o4
        exact ⟨F4, U4, μ4, h4, acc, mk4, o4⟩
      | true =>
        rw [if_pos rfl]
        rw [if_pos rfl] at o4
        refine ⟨F4, U4, μ4, env3, h4, l4, e3.mono g4.f p4, o4.strict fun es J1 F5 U5 μ5 H5 h5 g5 p5 l5 r5 o5 => ?_⟩
        have mk5 := mk4.step g5 p5 l5
        have e5 := (e3.mono g4.f p4).mono g5.f p5
        let inI : Nat → Hp → Prop := fun j H => ∃ F U μ h acc, Mkg C F0 U0 μ0 D F U μ H h acc ∧ Same F5 F ∧ μ5 <+: μ ∧ Out C F0 U0 μ0 Wx (rSl C.K) Q ((in1 t1 tt1 te vs1 (es.drop j) acc env3 h).bind fun acc' h3 => lc2L t tt it1 t1 tt1 te vs vs1 (ds.drop (i + 1)) acc' env h3)
        refine ⟨fun j k H => k = es.length - j ∧ j ≤ es.length ∧ inI j H, ⟨_, rfl, Nat.zero_le _, F5, U5, μ5, h5, acc, mk5, Same.refl _, List.prefix_refl _, o5⟩, ?_⟩
        rintro j k H6 ⟨rfl, hj, F6, U6, μ6, h6, acc6, mk6, s6, p6, o6⟩
        by_cases hjt : j < es.length
        · obtain ⟨hgo1, hy1⟩ := (r5 F6 U6 μ6 H6 h6 s6 mk6.l j).1 es[j] (by rw [List.getElem?_eq_getElem hjt])
          rw [drop_at hjt] at o6
          unfold in1 at o6
          split at o6
          · exact o6.elim
          · rename_i env7 ea7
            refine .inr ⟨hgo1, inI (j + 1), fun H' n => ⟨es.length - (j + 1), by omega, rfl, hjt, n⟩, fun x7 H7 y7 => ?_⟩
            obtain ⟨F7, U7, g7, l7, d7⟩ := hy1 x7 H7 y7
            have mk7 := mk6.step g7 (List.prefix_refl _) l7
            obtain ⟨σ7, e7, w7, q7⟩ := Tgt.rd_ok t1 l7.fh (((e5.mono s6 p6).mono g7.f (List.prefix_refl _)).wipe vs1) d7 ea7
            refine q7 _ ⟨(w7 vs1 (slotsIn_iff hsl1)).trans (wipe_wipe σ3 vs1 vs1 fun _ z => z), ?_⟩
            have o6' : Out C F0 U0 μ0 Wx (rSl C.K) Q ((Pv.strict (tt1 env7 h6)).bind fun b h1 => (if b then (Pv.strict (te env7 h1)).bind fun x h2 => match x with
                | .dat y => if acc6.length < sizeLine then in1 t1 tt1 te vs1 (es.drop (j + 1)) (acc6 ++ [y]) env3 h2 else .no
                | _ => .no
              else in1 t1 tt1 te vs1 (es.drop (j + 1)) acc6 env3 h1).bind fun acc' h3 => lc2L t tt it1 t1 tt1 te vs vs1 (ds.drop (i + 1)) acc' env h3) := by
              cases q : tt1 env7 h6 with
              | ok a h' => rw [q] at o6; exact o6
              | exc c fs h' => rw [q] at o6; exact o6.elim
              | no => rw [q] at o6; exact o6.elim
            refine ⟨F7, U7, μ6, env7, h6, l7, e7, o6'.strict fun b b' F8 U8 μ8 H8 h8 g8 p8 l8 rb o8 => ?_⟩
            cases rb
            have mk8 := mk7.step g8 p8 l8
            have s8 := (s6.trans g7.f).trans g8.f
            cases b with
            | false =>
              rw [if_neg Bool.false_ne_true]
              rw [if_neg Bool.false_ne_true] at o8
              exact ⟨F8, U8, μ8, h8, acc6, mk8, s8, p6.trans p8, o8⟩
            | true =>
              rw [if_pos rfl]
              rw [if_pos rfl] at o8
              have o8' : Out C F0 U0 μ0 Wx (rSl C.K) Q ((Pv.strict (te env7 h8)).bind fun x h2 => (match x with
                | .dat y => if acc6.length < sizeLine then in1 t1 tt1 te vs1 (es.drop (j + 1)) (acc6 ++ [y]) env3 h2 else .no
                | _ => .no).bind fun acc' h3 => lc2L t tt it1 t1 tt1 te vs vs1 (ds.drop (i + 1)) acc' env h3) := by
                cases q : te env7 h8 with
                | ok a h' => rw [q] at o8; exact o8
                | exc c fs h' => rw [q] at o8; exact o8.elim
                | no => rw [q] at o8; exact o8.elim
              refine ⟨F8, U8, μ8, env7, h8, l8, e7.mono g8.f p8, o8'.strict fun x xv F9 U9 μ9 H9 h9 g9 p9 l9 rx o9 => ?_⟩
              have mk9 := mk8.step g9 p9 l9
              cases x with
              | dat d =>
                dsimp only at o9
                by_cases hz : acc6.length < sizeLine
                · rw [if_pos hz] at o9
                  obtain ⟨vs', e, hl, mkA⟩ := mk9.push h0 rx
                  exact ⟨vs', e, by rw [hl]; exact hz, F9, _, μ9, h9, _, mkA, s8.trans g9.f, (p6.trans p8).trans p9, o9⟩
                · rw [if_neg hz] at o9
                  exact o9.elim
              | obj k => exact o9.elim
              | scr ns => exact o9.elim
              | rep d => exact o9.elim
              | exv _ _ => exact o9.elim
              | fnv _ => exact o9.elim
              | tpn _ => exact o9.elim
              | dcn _ => exact o9.elim
              | unk => exact o9.elim
              | anyI _ => exact o9.elim
        · have e : j = es.length := by omega
          subst e
          rw [List.drop_length] at o6
          exact .inl ⟨(r5 F6 U6 μ6 H6 h6 s6 mk6.l _).2 rfl, F6, U6, μ6, h6, acc6, mk6, o6⟩
  · have e : i = ds.length := by omega
    subst e
    dsimp only at o2
    rw [List.drop_length] at o2
    exact .inl ⟨(r1 F2 U2 μ2 H h2 mk.g.f mk.l _).2 rfl, mk.done h0 o2⟩
theorem se_lc2 [Fed] {vs1 : List Nat} (hN : X.N.Nodup) (hi : SI C Wx X tg iter it) (ok : blkC X.N X.env.scope scope own = true) (hv : (vs1.all fun i => decide (i ∈ own.map (·.2))) = true)
    (hg : ∀ (s : Shared) (H : Hp) (C : Addr) (cl : List (Str × Addr)) (fp : List Addr), PG (X.blk s H scope (compEnvC scope cl C X.env) fp) tg (t.rd X.K)) (ht : ∀ (s : Shared) (H : Hp) (A : Addr) (cl : List (Str × Addr)) (fp : List Addr), STs C (fun _ _ _ => False) (X.blk s H scope (compEnvC scope cl A X.env) fp) ifs tt)
    (hi1 : ∀ (s : Shared) (H : Hp) (A : Addr) (cl : List (Str × Addr)) (fp : List Addr), SI C (fun _ _ _ => False) (X.blk s H scope (compEnvC scope cl A X.env) fp) tg1 iter1 it1)
    (hg1 : ∀ (s : Shared) (H : Hp) (C : Addr) (cl : List (Str × Addr)) (fp : List Addr), PG (X.blk s H scope (compEnvC scope cl C X.env) fp) tg1 (t1.rd X.K)) (ht1 : ∀ (s : Shared) (H : Hp) (A : Addr) (cl : List (Str × Addr)) (fp : List Addr), STs C (fun _ _ _ => False) (X.blk s H scope (compEnvC scope cl A X.env) fp) ifs1 tt1)
    (he : ∀ (s : Shared) (H : Hp) (A : Addr) (cl : List (Str × Addr)) (fp : List Addr), SE C (fun _ _ _ => False) (X.blk s H scope (compEnvC scope cl A X.env) fp) elt te) (hsl : slotsIn t (own.map (·.2)) = true := by rfl) (hsl1 : slotsIn t1 vs1 = true := by rfl) (hc : X.calm = true := by rfl) (hK : X.K = C.K := by rfl) (hs : ∀ x, foldedSetIterable iter X.env x = pure x := by intro _; rfl) (hs1 : ∀ env x, foldedSetIterable iter1 env x = pure x := by intro _ _; rfl) :
    SE C Wx X (.ListComp elt [⟨tg, iter, ifs, 0⟩, ⟨tg1, iter1, ifs1, 0⟩] scope pos) (cLc2 it t tt it1 t1 tt1 te (own.map (·.2)) vs1) :=
  ⟨pe_imp (pe_lc2 hc hN hi.pi (blkOk_by ok) (fun i h => of_decide_eq_true (List.all_eq_true.mp hv i h)) hg (fun s H A cl fp => (ht s H A cl fp).pts) (fun s H A cl fp => (hi1 s H A cl fp).pi) hg1 (fun s H A cl fp => (ht1 s H A cl fp).pts) (fun s H A cl fp => (he s H A cl fp).pe) hs hs1) fun σ H Q q => rd_lc2 hsl hsl1 (fun _ _ _ z => z) hK q⟩
theorem ss_setLc2 [Fed] (i : Nat) {y : Str} {vs1 : List Nat} (hN : X.N.Nodup) (hi : SI C Wx X tg iter it) (ok : blkC X.N X.env.scope scope own = true) (hv : (vs1.all fun i => decide (i ∈ own.map (·.2))) = true)
    (hg : ∀ (s : Shared) (H : Hp) (C : Addr) (cl : List (Str × Addr)) (fp : List Addr), PG (X.blk s H scope (compEnvC scope cl C X.env) fp) tg (t.rd X.K)) (ht : ∀ (s : Shared) (H : Hp) (A : Addr) (cl : List (Str × Addr)) (fp : List Addr), STs C (fun _ _ _ => False) (X.blk s H scope (compEnvC scope cl A X.env) fp) ifs tt)
    (hi1 : ∀ (s : Shared) (H : Hp) (A : Addr) (cl : List (Str × Addr)) (fp : List Addr), SI C (fun _ _ _ => False) (X.blk s H scope (compEnvC scope cl A X.env) fp) tg1 iter1 it1)
    (hg1 : ∀ (s : Shared) (H : Hp) (C : Addr) (cl : List (Str × Addr)) (fp : List Addr), PG (X.blk s H scope (compEnvC scope cl C X.env) fp) tg1 (t1.rd X.K)) (ht1 : ∀ (s : Shared) (H : Hp) (A : Addr) (cl : List (Str × Addr)) (fp : List Addr), STs C (fun _ _ _ => False) (X.blk s H scope (compEnvC scope cl A X.env) fp) ifs1 tt1)
    (he : ∀ (s : Shared) (H : Hp) (A : Addr) (cl : List (Str × Addr)) (fp : List Addr), SE C (fun _ _ _ => False) (X.blk s H scope (compEnvC scope cl A X.env) fp) elt te)
    (hy : X.N[i]? = some y := by rfl) (hyl : X.env.scope.names.lookup y = some .local := by rfl) (hsw : swapsWith (.ListComp elt [⟨tg, iter, ifs, 0⟩, ⟨tg1, iter1, ifs1, 0⟩] scope pos) (some (.Name y py)) spos.line X.env = pure true := by rfl)
    (hsl : slotsIn t (own.map (·.2)) = true := by rfl) (hsl1 : slotsIn t1 vs1 = true := by rfl) (hc : X.calm = true := by rfl) (hK : X.K = C.K := by rfl) (hs : ∀ x, foldedSetIterable iter X.env x = pure x := by intro _; rfl) (hs1 : ∀ env x, foldedSetIterable iter1 env x = pure x := by intro _ _; rfl) :
    SS C Wx X (.Assign [.Name y py] (.ListComp elt [⟨tg, iter, ifs, 0⟩, ⟨tg1, iter1, ifs1, 0⟩] scope pos) spos) (sSet i (cLc2 it t tt it1 t1 tt1 te (own.map (·.2)) vs1)) :=
  ⟨ps_imp (ps_setLc2 hc hN hy hyl hsw hi.pi (blkOk_by ok) (fun i h => of_decide_eq_true (List.all_eq_true.mp hv i h)) hg (fun s H A cl fp => (ht s H A cl fp).pts) (fun s H A cl fp => (hi1 s H A cl fp).pi) hg1 (fun s H A cl fp => (ht1 s H A cl fp).pts) (fun s H A cl fp => (he s H A cl fp).pe) hs hs1) fun D σ H q => by
    obtain ⟨F, U, μ, env, h, l, ev, o⟩ := q
    refine rd_lc2 hsl hsl1 (fun _ _ _ z => z) hK ?_
    exact rd_step l ev o fun x vx F1 U1 μ1 H1 h1 g1 p1 l1 r1 e1 o1 => o1.nxt l1 (e1.set r1)⟩
end
end Pv

/-! Pv, part G: functions and their calls. -/
namespace Pv
open PySem PySem.Spec PyProof.Rows L2

abbrev Fm := List Sl → AH → Res Sl
/-- what a def promises -/
def spV [Fed] (C : Cn) (m : Fm) : Sp := fun vs H Q E => ∃ F U μ h xs, Lk C.K F U μ H h ∧ SlRs C.K F μ vs xs ∧ Out C F U μ E (rSl C.K) Q (m xs h)
structure FnV [Fed] (P : Program) (w : World) (K : PySem.W.Frag) (mg : Str → Option Value) (base : Heap) (C : Cn) (k : Nat) (f : Addr) (fd : FuncData) (ps : List Str) (m : Fm) : Prop where
  run : ∀ (A : Around) (outer : List Env) (s : Shared) (H : Hp) (args : Args) (us : List Value) (vs : List V) (Q : VK) (E : XK), Room k A → A.guards = some [] → Env0 P w K mg base A outer s H → BindsTo s fd args (ps.zip us) → us.length = ps.length → Vals vs us → spV C m vs H Q E →
    codeAny (model P w) A (.call (.ref f) args) (CR (CX P w) outer P w H s Q E) s
theorem Out.bind0 [Fed] {α β γ δ : Type} {C : Cn} {F U : Hp} {μ : List Addr} {W : XK} {R : α → Hp → Hp → List Addr → β → Prop} {Q : β → Hp → Prop} {R2 : γ → Hp → Hp → List Addr → δ → Prop} {Q2 : δ → Hp → Prop} {r : Res α} {f : α → AH → Res γ} (o : Out C F U μ W R2 Q2 (r.bind f))
    (h : ∀ a b F' U' μ' H' h', Gr F U F' U' → μ <+: μ' → Lk C.K F' U' μ' H' h' → R a F' U' μ' b → Out C F U μ W R2 Q2 (f a h') → Q b H') : Out C F U μ W R Q r := by
  cases r with
  | ok a h' => exact fun b F2 U2 μ2 H2 g2 p2 l2 r2 => h a b F2 U2 μ2 H2 h' g2 p2 l2 r2 o
  | exc c fs h' => exact o
  | no => exact o
/-- the end of a body: the objects made in it are forgotten -/
def cutH (c : Bool) (h h1 : AH) : AH := match c with
  | true => h1.take h.length
  | false => h1
def retO (c : Bool) (x : Sl) (h h1 : AH) : Res Sl := match c with
  | true => match x with
    | .obj k => .ok (.obj k) h1
    | x => .ok x (h1.take h.length)
  | false => .ok x h1
def pre : List Sl → Ev → Ev
  | [], e => e
  | x :: xs, e => some x :: pre xs e
def nones : Nat → Ev
  | 0 => []
  | n + 1 => none :: nones n
def nxO (c : Bool) (h h1 : AH) : Res Sl := match c with
  | true => .ok (.dat .none) (h1.take h.length)
  | false => .ok (.dat .none) h1
def mFn (c : Bool) (ex : Nat) (t : Sx) : Fm := fun xs h => (t (pre xs (nones ex)) h).bind fun fl h1 => match fl with
  | .rt x => retO c x h h1
  | .nx _ => nxO c h h1
  | _ => .no
theorem pre_eq (ex : Nat) : ∀ xs : List Sl, pre xs (nones ex) = xs.map some ++ List.replicate ex none
  | [] => by
    show nones ex = List.replicate ex none
    induction ex with
    | zero => rfl
    | succ n ih => rw [List.replicate_succ, ← ih]; rfl
  | x :: xs => by
    show some x :: pre xs (nones ex) = _
    rw [pre_eq ex xs]
    rfl
theorem nxO_eq (c : Bool) (h h1 : AH) : nxO c h h1 = .ok (.dat .none) (cutH c h h1) := by cases c <;> rfl
theorem SlRs.len [Fed] {K : PySem.W.Frag} {F : Hp} {μ : List Addr} : ∀ {vs : List V} {xs : List Sl}, SlRs K F μ vs xs → vs.length = xs.length
  | _, _, .nil => rfl
  | _, _, .cons _ b => congrArg Nat.succ (SlRs.len b)
theorem evR_start [Fed] {K : PySem.W.Frag} {F : Hp} {μ : List Addr} {N : List Str} {vs : List V} {xs : List Sl} (r : SlRs K F μ vs xs) : EvR K F μ (L2.start N vs) (xs.map some ++ List.replicate (N.length - xs.length) none) := by
  have hl := r.len
  refine ⟨by unfold L2.start; simp [hl], fun i x h => ?_⟩
  unfold L2.start
  have hi : i < xs.length := by
    by_cases hi : i < xs.length
    · exact hi
    · rw [List.getElem?_append_right (by simpa using hi), List.getElem?_replicate] at h
      split at h <;> cases h
  rw [List.getElem?_append_left (by simpa using hi), List.getElem?_map] at h
  rw [List.getElem?_append_left (by rw [List.length_map, hl]; exact hi), List.getElem?_map]
  clear hl
  induction r generalizing i with
  | nil => simp at hi
  | cons a b ih =>
    cases i with
    | zero => simp at h; subst h; exact ⟨_, by simp, a⟩
    | succ i => simpa using ih i (by simpa using h) (by simpa using hi)
section
variable {P : Program} {w : World} {K : PySem.W.Frag} {mg : Str → Option Value} {base : Heap} {C : Cn} {outer : List Env} {H : Hp} {s : Shared} {Q : VK} {E : XK}
/-- the frame, then the body -/
theorem FnV.of' [Fed] {Pc : Value → Prop} {x qual : Str} {params : Arguments} {body : List Stmt} {scope : Scope} {dvs : List V} {kws : List (Str × V)} {f : Addr} {fd : FuncData} {N ps : List Str} {k : Nat} {t : Sx} {c : Bool} (F : FunD K x qual params body scope dvs kws f fd) (S : FnScope N ps scope) (hpc : ∀ (oc : Value) (od : Option Addr) (fx : FuncData) (osl : Array (Option Value)), K.lookup f = some ⟨oc, od, .func fx, osl⟩ → PySem.W.codeIn K fx.code qual = true → Pc fx.code)
    (hbody : ∀ (cdv : Value) (A : Around) (outer : List Env) (s : Shared) (H : Hp) (E : XK), Pc cdv → Room k (A.deeper (envOfC qual scope s.heap.objs.size f cdv)) → (A.deeper (envOfC qual scope s.heap.objs.size f cdv)).guards = some [] →
      SB C E (cxOf (CX P w) P w K mg base N qual scope f cdv A outer s H E) body t) : FnV P w K mg base C (k + 1) f fd ps (mFn c (N.length - ps.length) t) := by
  obtain ⟨oc, od, dV, kV, doc, pm, an, cdv, ct, osl, rfl, lk, hcd, _, _⟩ := F.ex
  refine ⟨fun A outer s H args us vs Q E hr hg e0 hb hul r hsp => ?_⟩
  obtain ⟨F0, U0, μ, h, xs, l, rx, o⟩ := hsp
  have hl : vs.length = ps.length := r.length.trans hul
  have KX : K.In s.heap := e0.mod.kin.keeps fun b o e => (e0.bs b o e).1
  have lim : s.heap.NoLimit := e0.mod.nolimit.keeps fun b o e => (e0.bs b o e).1
  have hkind : ∀ y ∈ ps.zip us, scope.names.lookup y.1 = some .local ∨ (scope.names.lookup y.1 = some .cell ∧ ((cellsFrom (s.heap.objs.size + 1) scope.names []).lookup y.1).isSome = true) := fun ⟨n, v⟩ hy =>
    (S.par n (List.of_mem_zip hy).1).imp id fun q => ⟨q, PySem.W.cellsFrom_some _ _ _ (.inl q)⟩
  refine codeAny_call_function hr.depth (KX _ _ lk) rfl S.co S.gen rfl (PySem.W.codeRec_of KX hcd) (hb _ _ _ _ (wpAny_newFunctionEnv_cells S.kind hkind fun env he s1 x => ?_))
  subst he
  refine ⟨lim.keeps x.toInCall.keep, codeAny_func ?_⟩
  have I := inv_start (CX := CX P w) (E := E) S hr.hd e0 hl r x
  have ht := hbody cdv A outer s H E (hpc _ _ _ _ lk hcd) (hr.deeper _) (by rw [show (A.deeper (envOfC qual scope s.heap.objs.size f cdv)).guards = A.guards from rfl]; exact hg)
  have q : rdS C E t { nx := fun _ H' => Q .non H', rt := Q } (L2.start N vs) H := by
    unfold mFn at o
    rw [pre_eq, show N.length - ps.length = N.length - xs.length by rw [← rx.len, hl]] at o
    refine ⟨F0, U0, μ, _, h, l, evR_start rx, o.bind0 fun fl b F1 U1 μ1 H1 h1 g1 p1 l1 r1 o1 => ?_⟩
    have cut : ∃ μ2, μ <+: μ2 ∧ μ2 <+: μ1 ∧ Lk C.K F1 U1 μ2 H1 (cutH c h h1) := by
      cases c with
      | false => exact ⟨μ1, p1, List.prefix_refl _, l1⟩
      | true =>
        refine ⟨μ1.take h.length, ?_, List.take_prefix _ _, l1.cut _⟩
        obtain ⟨t, rfl⟩ := p1
        rw [← l.len, List.take_append_of_le_length (Nat.le_refl _), List.take_length]
        exact List.prefix_refl _
    obtain ⟨μ2, hp, _, l2⟩ := cut
    cases fl with
    | nx env' =>
      cases b with
      | nx σ' =>
        have o2 : Out C F0 U0 μ E (rSl C.K) Q (nxO c h h1) := o1
        rw [nxO_eq] at o2
        exact o2 .non F1 U1 μ2 H1 g1 hp l2 RD.non
      | _ => exact r1.elim
    | rt x =>
      cases b with
      | rt v =>
        have o2 : Out C F0 U0 μ E (rSl C.K) Q (retO c x h h1) := o1
        have r2 : SlR C.K F1 μ1 v x := r1
        cases c with
        | false => exact o2 v F1 U1 μ1 H1 g1 p1 l1 r2
        | true =>
          cases x with
          | dat d => exact o2 v F1 U1 μ2 H1 g1 hp l2 r2
          | scr ns => exact o2 v F1 U1 μ2 H1 g1 hp l2 r2
          | rep d => exact o2 v F1 U1 μ2 H1 g1 hp l2 r2
          | exv _ _ => exact o2 v F1 U1 μ2 H1 g1 hp l2 r2
          | fnv _ => exact o2 v F1 U1 μ2 H1 g1 hp l2 r2
          | tpn _ => exact o2 v F1 U1 μ2 H1 g1 hp l2 r2
          | dcn _ => exact o2 v F1 U1 μ2 H1 g1 hp l2 r2
          | unk => exact o2 v F1 U1 μ2 H1 g1 hp l2 r2
          | anyI _ => exact o2 v F1 U1 μ2 H1 g1 hp l2 r2
          | obj k =>
            obtain ⟨a, ha, rfl⟩ := r2
            exact o2 _ F1 U1 _ H1 g1 p1 l1 ⟨a, ha, rfl⟩
      | _ => exact r1.elim
    | bk env' => exact (show False from o1).elim
    | ct env' => exact (show False from o1).elim
  show wpAny (model P w) (A.deeper (envOfC qual scope s.heap.objs.size f cdv)) (execs body (envOfC qual scope s.heap.objs.size f cdv)) _ _ _
  refine wpAny_mono (ht.pss.run [] s1 (L2.start N vs) H _ I q) (fun fl s' hs => ?_) fun e s' hs => hs
  cases fl with
  | ret u =>
    obtain ⟨v, σ', H', J, rv, q⟩ := hs
    exact ⟨v, H', J.os, J.bare, J.base, J.hok, rv, q⟩
  | next =>
    obtain ⟨σ', H', J, q⟩ := hs
    exact ⟨.non, H', J.os, J.bare, J.base, J.hok, rfl, q⟩
  | brk =>
    obtain ⟨_, _, _, z⟩ := hs
    exact False.elim z
  | cont =>
    obtain ⟨_, _, _, z⟩ := hs
    exact False.elim z
theorem FnV.of [Fed] {x qual : Str} {params : Arguments} {body : List Stmt} {scope : Scope} {dvs : List V} {kws : List (Str × V)} {f : Addr} {fd : FuncData} {N ps : List Str} {k : Nat} {t : Sx} {c : Bool} (F : FunD K x qual params body scope dvs kws f fd) (S : FnScope N ps scope)
    (hbody : ∀ (cdv : Value) (A : Around) (outer : List Env) (s : Shared) (H : Hp) (E : XK), Room k (A.deeper (envOfC qual scope s.heap.objs.size f cdv)) → (A.deeper (envOfC qual scope s.heap.objs.size f cdv)).guards = some [] →
      SB C E (cxOf (CX P w) P w K mg base N qual scope f cdv A outer s H E) body t) : FnV P w K mg base C (k + 1) f fd ps (mFn c (N.length - ps.length) t) :=
  FnV.of' (Pc := fun _ => True) F S (fun _ _ _ _ _ _ => trivial) fun cdv A outer s H E _ hr hg => hbody cdv A outer s H E hr hg
end

/-! ### how the parameters are bound -/
inductive Src where
  | a (i : Nat) | k (i : Nat) | d (i : Nat) | m (i : Nat)
def Src.get {α : Type} (us its mv ws : List α) : Src → Option α
  | .a i => us[i]?
  | .k i => ws[i]?
  | .d i => its[i]?
  | .m i => mv[i]?
def pick {α : Type} (ss : List Src) (us its mv ws : List α) : List α := ss.filterMap (Src.get us its mv ws)
/-- n positional values, keywords named ks -/
structure Bnd (K : PySem.W.Frag) (fd : FuncData) (ps : List Str) (n : Nat) (ks : List Str) (ss : List Src) (dvs mz : List V) : Prop where
  ex : ∃ its mv : List Value, Vals dvs its ∧ Vals mz mv ∧ ∀ (s : Shared) (us ws : List Value), K.In s.heap → us.length = n → ws.length = ks.length → BindsTo s fd ⟨us, ks.zip ws⟩ (ps.zip (pick ss us its mv ws)) ∧ (pick ss us its mv ws).length = ps.length
theorem Paired.getO [Fed] {α β : Type} {R : α → β → Prop} : ∀ {xs : List α} {ys : List β} (i : Nat), Paired R xs ys → (xs[i]? = none ∧ ys[i]? = none) ∨ ∃ x y, xs[i]? = some x ∧ ys[i]? = some y ∧ R x y
  | _, _, _, .nil => .inl ⟨by simp, by simp⟩
  | _, _, 0, .cons a b => .inr ⟨_, _, by simp, by simp, a⟩
  | _, _, i + 1, .cons a b => by simpa using Paired.getO i b
theorem Paired.pick [Fed] {α β : Type} {R : α → β → Prop} {us its mv ws : List α} {us' its' mv' ws' : List β} (h1 : Paired R us us') (h2 : Paired R its its') (h3 : Paired R mv mv') (h4 : Paired R ws ws') : ∀ ss : List Src, Paired R (pick ss us its mv ws) (pick ss us' its' mv' ws')
  | [] => .nil
  | s :: ss => by
    have key : (Src.get us its mv ws s = none ∧ Src.get us' its' mv' ws' s = none) ∨ ∃ x y, Src.get us its mv ws s = some x ∧ Src.get us' its' mv' ws' s = some y ∧ R x y := by
      cases s with
      | a i => exact Paired.getO i h1
      | k i => exact Paired.getO i h4
      | d i => exact Paired.getO i h2
      | m i => exact Paired.getO i h3
    have ih := Paired.pick h1 h2 h3 h4 ss
    show Paired R ((s :: ss).filterMap _) ((s :: ss).filterMap _)
    rcases key with ⟨e1, e2⟩ | ⟨x, y, e1, e2, r⟩
    · rw [List.filterMap_cons_none e1, List.filterMap_cons_none e2]; exact ih
    · rw [List.filterMap_cons_some e1, List.filterMap_cons_some e2]; exact .cons r ih
section
variable {K : PySem.W.Frag} {x qual : Str} {params : Arguments} {body : List Stmt} {scope : Scope} {dvs : List V} {kws : List (Str × V)} {f : Addr} {fd : FuncData} {ps ks : List Str} {n : Nat} {ss : List Src}
/-- all parameters are written -/
theorem FunD.bndP [Fed] (F : FunD K x qual params body scope dvs kws f fd)
    (h : ∀ (dV kV doc pm : Value) (an : Option Addr) (cdv ct : Value) (us ws : List Value), us.length = n → ws.length = ks.length → bindArgs (PySem.W.fnOf x qual params body scope dV kV doc pm an cdv ct) ⟨us, ks.zip ws⟩ = pure (ps.zip (pick ss us [] [] ws)) ∧ (pick ss us [] [] ws).length = ps.length) : Bnd K fd ps n ks ss [] [] := by
  obtain ⟨oc, od, dV, kV, doc, pm, an, cdv, ct, osl, rfl, lk, hcd, hD, hK⟩ := F.ex
  exact ⟨[], [], .nil, .nil, fun s us ws X l1 l2 => ⟨.of_eq (h _ _ _ _ _ _ _ us ws l1 l2).1, (h dV kV doc pm an cdv ct us ws l1 l2).2⟩⟩
theorem FunD.bndN [Fed] (F : FunD K x qual params body scope [] kws f fd)
    (h : ∀ (kV doc pm : Value) (an : Option Addr) (cdv ct : Value) (us ws : List Value), us.length = n → ws.length = ks.length → bindArgs (PySem.W.fnOf x qual params body scope .none kV doc pm an cdv ct) ⟨us, ks.zip ws⟩ = pure (ps.zip (pick ss us [] [] ws)) ∧ (pick ss us [] [] ws).length = ps.length) : Bnd K fd ps n ks ss [] [] := by
  obtain ⟨oc, od, dV, kV, doc, pm, an, cdv, ct, osl, rfl, lk, hcd, hD, hK⟩ := F.ex
  rcases hD with ⟨_, rfl⟩ | ⟨e, _⟩
  · exact ⟨[], [], .nil, .nil, fun s us ws X l1 l2 => ⟨.of_eq (h _ _ _ _ _ _ us ws l1 l2).1, (h kV doc pm an cdv ct us ws l1 l2).2⟩⟩
  · exact absurd rfl e
/-- defaults fill up -/
theorem FunD.bndD [Fed] (F : FunD K x qual params body scope dvs kws f fd) (hd : dvs ≠ [])
    (h : ∀ (T : Addr) (kV doc pm : Value) (an : Option Addr) (cdv ct : Value) (us its ws : List Value), us.length = n → its.length = dvs.length → ws.length = ks.length →
      (∃ k, bindArgs (PySem.W.fnOf x qual params body scope (.ref T) kV doc pm an cdv ct) ⟨us, ks.zip ws⟩ = seqItems? (.ref T) >>= k ∧ k (some its.toArray) = pure (ps.zip (pick ss us its [] ws))) ∧ (pick ss us its [] ws).length = ps.length) : Bnd K fd ps n ks ss dvs [] := by
  obtain ⟨oc, od, dV, kV, doc, pm, an, cdv, ct, osl, rfl, lk, hcd, hD, hK⟩ := F.ex
  rcases hD with ⟨e, _⟩ | ⟨_, T, o, its, m, rfl, lT, oT, rT⟩
  · exact absurd e hd
  · refine ⟨its, [], rT, .nil, fun s us ws X l1 l2 => ?_⟩
    obtain ⟨⟨k, e1, e2⟩, e3⟩ := h T kV doc pm an cdv ct us its ws l1 rT.length.symm l2
    refine ⟨BindsTo.of_looks fun M => ?_, e3⟩
    rw [e1]
    exact looks_items X lT oT (.of_pure e2)
end

/-! ### the call -/
structure SK [Fed] (C : Cn) (Wx : XK) (X : Cx) (kws : List Keyword) (t : Ax) : Prop where pk : PK X kws (rdA C Wx t)
/-- every parameter is written, by position -/
def cCallP (m : Fm) (n : Nat) (tr : Ax) : Ex := fun env h => (tr env h).bind fun xs h1 => if Nat.beq xs.length n then m xs h1 else .no
def cCallF (m : Fm) (n nk : Nat) (ss : List Src) (dds mds : List PD) (tr tk : Ax) : Ex := fun env h => (tr env h).bind fun xs h1 => (tk env h1).bind fun zs h2 =>
  if xs.length = n ∧ zs.length = nk then m (pick ss xs (dds.map .dat) (mds.map .dat) zs) h2 else .no
section
variable {X : Cx} {C : Cn} {Wx : XK} {k n : Nat} {f : Addr} {fd : FuncData} {ps ks : List Str} {m : Fm} {x : Str} {p pos kpos : Pos} {e : Expr} {es : List Expr} {kws : List Keyword} {tr tk : Ax} {te : Ex} {ss : List Src} {dvs mz : List V} {dds mds : List PD} {nm : Option Str}
theorem sk_nil [Fed] : SK C Wx X [] aNil := ⟨⟨fun pos pins s σ H Q I q => by
  obtain ⟨F, U, μ, env, h, l, ev, o⟩ := q
  exact pk_nil.run pos pins s σ H Q I (o.hereA l .nil)⟩⟩
theorem pk_imp [Fed] {X : Cx} {e : List Keyword} {t t' : TA} (h : PK X e t) (i : ∀ σ H Q, t' σ H Q → t σ H Q) : PK X e t' := ⟨fun pos pins s σ H Q I q => h.run pos pins s σ H Q I (i _ _ _ q)⟩
theorem sk_cons [Fed] (ha : SE C Wx X e te) (hr : SK C Wx X kws tk) : SK C Wx X (⟨nm, e, kpos⟩ :: kws) (aCons te tk) := ⟨pk_imp (pk_cons ha.pe hr.pk) fun σ H Q q => by
  obtain ⟨F, U, μ, env, h, l, ev, o⟩ := q
  refine rd_step l ev o fun x vx F1 U1 μ1 H1 h1 g1 p1 l1 r1 e1 o1 => ?_
  refine rd_step l1 e1 o1 fun xs vs F2 U2 μ2 H2 h2 g2 p2 l2 r2 e2 o2 => ?_
  exact o2.hereA l2 (.cons (r1.mono g2.f p2) r2)⟩
theorem rds_sl [Fed] {K : PySem.W.Frag} {F : Hp} {μ : List Addr} : ∀ {vs : List V} {ds : List PD}, RDs K F vs ds → SlRs K F μ vs (ds.map .dat)
  | _, _, .nil => .nil
  | _, _, .cons a b => .cons a (rds_sl b)
theorem run_fv [Fed] {pins : List (Addr × Obj)} {σ : L2.St} {H : Hp} {s : Shared} {Q : VK} {us ws : List Value} {vs zs : List V} {xs ys : List Sl} {F U : Hp} {μ : List Addr} {h : AH} (Fv : FnV X.prog X.w X.K X.mg X.base C k f fd ps m) (hr : Room k X.A) (hg : X.A.guards = some []) (hb : Bnd X.K fd ps n ks ss dvs mz)
    (hd : ∀ F, RDs C.K F dvs dds) (hz : ∀ F, RDs C.K F mz mds) (hx : Passes (CX X.prog X.w) X Wx) (I : L2.Inv X pins σ H s) (r : Vals vs us) (rz : Vals zs ws) (l : Lk C.K F U μ H h) (rx : SlRs C.K F μ vs xs) (ry : SlRs C.K F μ zs ys) (h1 : xs.length = n) (h2 : ys.length = ks.length)
    (o : Out C F U μ Wx (rSl C.K) Q (m (pick ss xs (dds.map .dat) (mds.map .dat) ys) h)) : wpAny (model X.prog X.w) X.A (call (.ref f) us (ks.zip ws)) (EP X pins σ Q) X.xe s := by
  obtain ⟨its, mv, rD, rM, hto⟩ := hb.ex
  obtain ⟨b1, b2⟩ := hto s us ws I.kIn (r.length.symm.trans (rx.len.trans h1)) (rz.length.symm.trans (ry.len.trans h2))
  have rr : Vals (pick ss vs dvs mz zs) (pick ss us its mv ws) := Paired.pick r rD rM rz ss
  have ro : SlRs C.K F μ (pick ss vs dvs mz zs) (pick ss xs (dds.map .dat) (mds.map .dat) ys) := Paired.pick rx (rds_sl (hd F)) (rds_sl (hz F)) ry ss
  refine wpAny_call (codeAny_mono (Fv.run X.A X.stack s H ⟨us, ks.zip ws⟩ _ _ Q Wx hr hg I.env0 b1 b2 rr ⟨F, U, μ, h, _, l, ro, o⟩) fun r s' hq => ?_)
  cases r with
  | error e => exact hx pins σ H s e s' I hq
  | ok fl =>
    cases fl with
    | ret u => exact I.after hq
    | next => exact False.elim hq
    | brk => exact False.elim hq
    | cont => exact False.elim hq
theorem se_call [Fed] (Fv : FnV X.prog X.w X.K X.mg X.base C k f fd ps m) (hr : Room k X.A) (hg : X.A.guards = some []) (hx : Passes (CX X.prog X.w) X Wx) (hgl : Gl X x) (hm : X.mg x = some (.ref f)) (hk : PySem.W.keepIn X.K (.ref f) = true) (hb : Bnd X.K fd ps n [] ss dvs mz)
    (hd : ∀ F, RDs C.K F dvs dds) (hz : ∀ F, RDs C.K F mz mds) (ha : SA C Wx X (e :: es) tr) (hdb : (x == ("__debug__" : Str)) = false := by decide) (he : starEach (e :: es) X.env = (false, eval e X.env) :: starEach es X.env := by rfl) (hpl : (backTo pos (starEach es X.env)).any (·.1) = false := by rfl) :
    SE C Wx X (.Call (.Name x p) (e :: es) [] pos) (cCallF m n 0 ss dds mds tr aNil) := by
  refine ⟨⟨fun pins s σ H Q I q => ?_⟩⟩
  obtain ⟨F, U, μ, env, h, l, ev, o⟩ := q
  refine wpAny_Call_Name_kw (ld_glob I hgl hm ?_ hdb)
  refine PySem.W.callWith_K (h₀ := X.base) I.ok.mod.kin hk (thn (ha.pa.run pos pins s σ H (fun vs H1 => ∃ F1 U1 μ1 xs h1, Lk C.K F1 U1 μ1 H1 h1 ∧ SlRs C.K F1 μ1 vs xs ∧ xs.length = n ∧ Out C F1 U1 μ1 Wx (rSl C.K) Q (m (pick ss xs (dds.map .dat) (mds.map .dat) []) h1)) I ?_) fun us s1 ⟨vs, H1, I1, r, F1, U1, μ1, xs, h1, l1, rx, hn, o1⟩ => ⟨I1.kIn, ?_⟩) he hpl
  · refine rd_step l ev o fun xs vs F1 U1 μ1 H1 h1 g1 p1 l1 r1 e1 o1 => ?_
    have o2 : Out C F1 U1 μ1 Wx (rSl C.K) Q (if xs.length = n ∧ 0 = 0 then m (pick ss xs (dds.map .dat) (mds.map .dat) []) h1 else .no) := o1
    split at o2
    · rename_i hc
      exact ⟨F1, U1, μ1, xs, h1, l1, r1, hc.1, o2⟩
    · exact o2.elim
  · exact run_fv (ks := []) (ws := []) (zs := []) (ys := []) Fv hr hg hb hd hz hx I1 r .nil l1 rx .nil hn rfl o1
def srcs : Nat → Nat → List Src
  | _, 0 => []
  | i, n + 1 => .a i :: srcs (i + 1) n
theorem pick_srcs (its mv ws : List Sl) : ∀ (us : List Sl) (i : Nat) (all : List Sl), all.drop i = us → pick (srcs i us.length) all its mv ws = us
  | [], _, _, _ => rfl
  | u :: us, i, all, h => by
    have h1 : all[i]? = some u := by
      have := congrArg (fun l => l[0]?) h
      simpa using this
    have h2 : all.drop (i + 1) = us := by
      rw [← List.drop_drop, h]
      rfl
    show pick (.a i :: srcs (i + 1) us.length) all its mv ws = _
    unfold pick
    rw [List.filterMap_cons_some (show Src.get all its mv ws (.a i) = some u from h1)]
    exact congrArg (u :: ·) (pick_srcs its mv ws us (i + 1) all h2)
theorem se_callP [Fed] (Fv : FnV X.prog X.w X.K X.mg X.base C k f fd ps m) (hr : Room k X.A) (hg : X.A.guards = some []) (hx : Passes (CX X.prog X.w) X Wx) (hgl : Gl X x) (hm : X.mg x = some (.ref f)) (hk : PySem.W.keepIn X.K (.ref f) = true) (hb : Bnd X.K fd ps n [] ss dvs mz) (hss : ss = srcs 0 n)
    (hd : ∀ F, RDs C.K F dvs dds) (hz : ∀ F, RDs C.K F mz mds) (ha : SA C Wx X (e :: es) tr) (hdb : (x == ("__debug__" : Str)) = false := by decide) (he : starEach (e :: es) X.env = (false, eval e X.env) :: starEach es X.env := by rfl) (hpl : (backTo pos (starEach es X.env)).any (·.1) = false := by rfl) :
    SE C Wx X (.Call (.Name x p) (e :: es) [] pos) (cCallP m n tr) := by
  have h0 := se_call (p := p) (pos := pos) (dds := dds) (mds := mds) Fv hr hg hx hgl hm hk hb hd hz ha hdb he hpl
  refine ⟨pe_imp h0.pe fun σ H Q q => ?_⟩
  obtain ⟨F, U, μ, env, h, l, ev, o⟩ := q
  refine ⟨F, U, μ, env, h, l, ev, ?_⟩
  unfold cCallP at o
  unfold cCallF
  cases z : tr env h with
  | ok xs h1 =>
    rw [z] at o
    have o2 : Out C F U μ Wx (rSl C.K) Q (if Nat.beq xs.length n = true then m xs h1 else .no) := o
    show Out C F U μ Wx (rSl C.K) Q (if xs.length = n ∧ 0 = 0 then m (pick ss xs (dds.map .dat) (mds.map .dat) []) h1 else .no)
    by_cases c : xs.length = n
    · rw [if_pos (by rw [c]; exact Nat.beq_refl n)] at o2
      rw [if_pos ⟨c, rfl⟩, hss, ← c, pick_srcs _ _ _ xs 0 xs rfl]
      exact o2
    · rw [if_neg (fun z => c (Nat.eq_of_beq_eq_true z))] at o2
      exact o2.elim
  | exc c fs h' => rw [z] at o; exact o
  | no => rw [z] at o; exact o
theorem se_call0 [Fed] (Fv : FnV X.prog X.w X.K X.mg X.base C k f fd ps m) (hr : Room k X.A) (hg : X.A.guards = some []) (hx : Passes (CX X.prog X.w) X Wx) (hgl : Gl X x) (hm : X.mg x = some (.ref f)) (hk : PySem.W.keepIn X.K (.ref f) = true) (hb : Bnd X.K fd ps 0 [] ss dvs mz)
    (hd : ∀ F, RDs C.K F dvs dds) (hz : ∀ F, RDs C.K F mz mds) (hdb : (x == ("__debug__" : Str)) = false := by decide) :
    SE C Wx X (.Call (.Name x p) [] [] pos) (cCallF m 0 0 ss dds mds aNil aNil) := by
  refine ⟨⟨fun pins s σ H Q I q => ?_⟩⟩
  obtain ⟨F, U, μ, env, h, l, ev, o⟩ := q
  refine wpAny_Call_Name_kw (ld_glob I hgl hm ?_ hdb)
  refine PySem.W.callWith_K0 I.kIn hk ?_
  exact run_fv (ks := []) (us := []) (vs := []) (xs := []) (ws := []) (zs := []) (ys := []) Fv hr hg hb hd hz hx I .nil .nil l .nil .nil rfl rfl o
theorem se_callK [Fed] (Fv : FnV X.prog X.w X.K X.mg X.base C k f fd ps m) (hr : Room k X.A) (hg : X.A.guards = some []) (hx : Passes (CX X.prog X.w) X Wx) (hgl : Gl X x) (hm : X.mg x = some (.ref f)) (hk : PySem.W.keepIn X.K (.ref f) = true) (hb : Bnd X.K fd ps n ks ss dvs mz)
    (hd : ∀ F, RDs C.K F dvs dds) (hz : ∀ F, RDs C.K F mz mds) (ha : SA C Wx X (e :: es) tr) (hkw : SK C Wx X kws tk) (hall : (backToKw pos (keywordEach kws X.env)).all (·.1.isSome) = true := by rfl) (hks : (backToKw pos (keywordEach kws X.env)).filterMap (·.1) = ks := by rfl)
    (hdb : (x == ("__debug__" : Str)) = false := by decide) (he : starEach (e :: es) X.env = (false, eval e X.env) :: starEach es X.env := by rfl)
    (hpl : ((backTo pos (starEach (e :: es) X.env)).any (·.1) || (backToKw pos (keywordEach kws X.env)).any (·.1.isNone)) = false := by rfl) :
    SE C Wx X (.Call (.Name x p) (e :: es) kws pos) (cCallF m n ks.length ss dds mds tr tk) := by
  refine ⟨⟨fun pins s σ H Q I q => ?_⟩⟩
  obtain ⟨F, U, μ, env, h, l, ev, o⟩ := q
  refine wpAny_Call_Name_kw (ld_glob I hgl hm ?_ hdb)
  refine PySem.W.callWith_KW (h₀ := X.base) I.ok.mod.kin hk hall (thn (ha.pa.run pos pins s σ H (fun vs H1 => rdA C Wx tk σ H1 fun zs H2 => ∃ F1 U1 μ1 xs ys h1, Lk C.K F1 U1 μ1 H2 h1 ∧ SlRs C.K F1 μ1 vs xs ∧ SlRs C.K F1 μ1 zs ys ∧ xs.length = n ∧ ys.length = ks.length ∧ Out C F1 U1 μ1 Wx (rSl C.K) Q (m (pick ss xs (dds.map .dat) (mds.map .dat) ys) h1)) I ?_) fun us s1 ⟨vs, H1, I1, r, q1⟩ => ?_) hpl he
  · refine rd_step l ev o fun xs vs F1 U1 μ1 H1 h1 g1 p1 l1 r1 e1 o1 => ?_
    refine rd_step l1 e1 o1 fun ys zs F2 U2 μ2 H2 h2 g2 p2 l2 r2 e2 o2 => ?_
    split at o2
    · rename_i hc
      exact ⟨F2, U2, μ2, xs, ys, h2, l2, r1.mono g2.f p2, r2, hc.1, hc.2, o2⟩
    · exact o2.elim
  · refine thn (hkw.pk.run pos pins s1 σ H1 _ I1 q1) fun ws s2 ⟨zs, H2, I2, rz, F1, U1, μ1, xs, ys, h1, l1, rx, ry, hn, hk2, o1⟩ => ⟨I2.kIn, ?_⟩
    rw [hks]
    exact run_fv Fv hr hg hb hd hz hx I2 r rz l1 rx ry hn hk2 o1
theorem se_callK0 [Fed] (Fv : FnV X.prog X.w X.K X.mg X.base C k f fd ps m) (hr : Room k X.A) (hg : X.A.guards = some []) (hx : Passes (CX X.prog X.w) X Wx) (hgl : Gl X x) (hm : X.mg x = some (.ref f)) (hk : PySem.W.keepIn X.K (.ref f) = true) (hb : Bnd X.K fd ps 0 ks ss dvs mz)
    (hd : ∀ F, RDs C.K F dvs dds) (hz : ∀ F, RDs C.K F mz mds) (hkw : SK C Wx X kws tk) (hall : (backToKw pos (keywordEach kws X.env)).all (·.1.isSome) = true := by rfl) (hks : (backToKw pos (keywordEach kws X.env)).filterMap (·.1) = ks := by rfl)
    (hdb : (x == ("__debug__" : Str)) = false := by decide)
    (hpl : ((backTo pos (starEach [] X.env)).any (·.1) || (backToKw pos (keywordEach kws X.env)).any (·.1.isNone)) = false := by rfl) :
    SE C Wx X (.Call (.Name x p) [] kws pos) (cCallF m 0 ks.length ss dds mds aNil tk) := by
  refine ⟨⟨fun pins s σ H Q I q => ?_⟩⟩
  obtain ⟨F, U, μ, env, h, l, ev, o⟩ := q
  refine wpAny_Call_Name_kw (ld_glob I hgl hm ?_ hdb)
  refine PySem.W.callWith_KW0 (h₀ := X.base) I.ok.mod.kin hk hall (thn (hkw.pk.run pos pins s σ H (fun zs H2 => ∃ F1 U1 μ1 ys h1, Lk C.K F1 U1 μ1 H2 h1 ∧ SlRs C.K F1 μ1 zs ys ∧ ys.length = ks.length ∧ Out C F1 U1 μ1 Wx (rSl C.K) Q (m (pick ss [] (dds.map .dat) (mds.map .dat) ys) h1)) I ?_) fun ws s2 ⟨zs, H2, I2, rz, F1, U1, μ1, ys, h1, l1, ry, hk2, o1⟩ => ⟨I2.kIn, ?_⟩) hpl
  · have o' : Out C F U μ Wx (rSl C.K) Q ((tk env h).bind fun zs h2 => if (0 = 0 ∧ zs.length = ks.length) then m (pick ss [] (dds.map .dat) (mds.map .dat) zs) h2 else .no) := o
    refine rd_step l ev o' fun ys zs F2 U2 μ2 H2 h2 g2 p2 l2 r2 e2 o2 => ?_
    split at o2
    · rename_i hc
      exact ⟨F2, U2, μ2, ys, h2, l2, r2, hc.2, o2⟩
    · exact o2.elim
  · rw [hks]
    exact run_fv (us := []) (vs := []) (xs := []) Fv hr hg hb hd hz hx I2 .nil rz l1 .nil ry rfl hk2 o1
end
/-! ### what passes -/
section
variable {P : Program} {w : World} {K : PySem.W.Frag} {mg : Str → Option Value} {base : Heap} {N : List Str} {qual : Str} {scope : Scope} {f : Addr} {cd : Value} {A : Around} {outer : List Env} {s : Shared} {H : Hp} {E : XK} {X : Cx}
theorem takes_fn [Fed] : Takes (cxOf (CX P w) P w K mg base N qual scope f cd A outer s H E) (fun cls d _ H => E cls d H) := takes_of rfl rfl rfl rfl
theorem passes_fn [Fed] : Passes (CX P w) (cxOf (CX P w) P w K mg base N qual scope f cd A outer s H E) E := passes_call takes_fn fun _ _ _ _ h => h
theorem owns_fn [Fed] : PassesOwn (model P w) (cxOf (CX P w) P w K mg base N qual scope f cd A outer s H E).A (cxOf (CX P w) P w K mg base N qual scope f cd A outer s H E).env (cxOf (CX P w) P w K mg base N qual scope f cd A outer s H E).xe := passes_of (X := cxOf (CX P w) P w K mg base N qual scope f cd A outer s H E) rfl
theorem passes_no [Fed] : Passes (CX P w) X (fun _ _ _ => False) := fun pins σ H s e s' I ⟨_, _, _, _, _, _, _, _, _, _, _, _, z⟩ => z.elim
end
end Pv

/-! Pv, part H: a law's end. -/
namespace Pv
open PySem PySem.Spec PyProof.Rows L2

/-- what is told of the tables at the end of the top -/
structure EndT (K : PySem.W.Frag) (mg : Str → Option Value) (h : Heap) (cs : List (Addr × Addr)) : Prop where
  at_ : ∀ p ∈ cs, h.get? p.2 = some { cls := .none, data := .fields #[] }
  out : ∀ p ∈ cs, K.lookup p.2 = none
  hd : ∀ p ∈ cs, PySem.W.CodeHd h p.1 p.2
theorem EndT.nil {K : PySem.W.Frag} {mg : Str → Option Value} {h : Heap} : EndT K mg h [] := ⟨fun _ z => absurd z (by simp), fun _ z => absurd z (by simp), fun _ z => absurd z (by simp)⟩
/-- the module of the built-ins -/
def BMain (mg : Str → Option Value) (h : Heap) : Prop := ∃ (bm : Addr) (ob : Obj), mg "__builtins__" = some (.ref bm) ∧ bm ≠ builtinsNs ∧ h.get? bm = some ob ∧ ob.cls = .type "module" ∧ ob.dict = some builtinsNs ∧ ob.data = .plain
/-- the law's promise at the heap behind the top -/
theorem law_end [Fed] {P : Program} {w : World} {K : PySem.W.Frag} {mg mb : Str → Option Value} {C : Cn} {k : Nat} {fa a : Addr} {cs : List (Addr × Addr)} {fd : FuncData} {x : Str} {m : Fm} {s₁ : Shared} {vs : List Value} {ns : List Int} (hC : C.K = K)
    (KX : K.In s₁.heap) (hns : s₁.heap.Ns mainGlobals mg) (hb : s₁.heap.Ns builtinsNs mb) (hbb : ∀ x : Str, x ≠ "__name__" → mb x = bootBuiltins x) (hlim : s₁.heap.NoLimit) (hg : s₁.gens = #[]) (T : EndT K mg s₁.heap cs) (hbm : BMain mg s₁.heap) (hfed : ∀ p ∈ Fed.tb K, p.1 ∈ cs.map (·.2))
    (ha : s₁.heap.get? a = some { cls := .type "list", data := .seq vs.toArray }) (hi : IntsAre vs ns) (hl : ns.length ≤ sizeLine) (hr : Room k callerA)
    (F : ∀ base : Heap, K.In base → base.Ns mainGlobals mg → (∀ p ∈ cs, LamX.TabB base mg p.1 p.2) → FnV P w K mg base C k fa fd [x] m) (hbind : ∀ (s : Shared) (u : Value), BindsTo s fd ⟨[u], []⟩ [(x, u)])
    (hm : ∃ h', m [.scr ns] [] = .ok (.dat (.bool true)) h') :
    codeAny (model P w) callerA (.call (.ref fa) ⟨[.ref a], []⟩) (fun r s' => r = .ok (.ret (.bool true)) ∧ OldK s₁.heap s'.heap ∧ s'.os = s₁.os ∧ AllBare s'.gens) s₁ := by
  obtain ⟨he, hm⟩ := hm
  have tabAt : ∀ b, b ∈ cs.map (·.2) → s₁.heap.get? b = some { cls := .none, data := .fields #[] } ∧ K.lookup b = none := fun b hb => by
    obtain ⟨p, hp, rfl⟩ := List.mem_map.mp hb
    exact ⟨T.at_ p hp, T.out p hp⟩
  have aT : a ∉ cs.map (·.2) := fun z => by
    have q := (tabAt a z).1
    rw [ha] at q
    cases (show Data.seq vs.toArray _ = Data.fields #[] from congrArg Obj.data (Option.some.inj q))
  -- over an abstract heap that tells of the tables, and of the script perhaps
  have core : ∀ H : Hp, SqL K H a (ns.map V.int) → HOk P w H s₁.heap → (∀ b ∈ cs.map (·.2), H b = some (.tbl #[])) → (∀ b u, H b = some u → (b = a ∧ K.lookup a = none ∧ ∃ o xs, u = .frz o (.lst xs)) ∨ b ∈ cs.map (·.2)) →
      codeAny (model P w) callerA (.call (.ref fa) ⟨[.ref a], []⟩) (fun r s' => r = .ok (.ret (.bool true)) ∧ OldK s₁.heap s'.heap ∧ s'.os = s₁.os ∧ AllBare s'.gens) s₁ := fun H hS hok hT hH => by
    -- what is no list and no empty record stays in the base
    have clear : ∀ {b : Addr} {o : Obj}, s₁.heap.get? b = some o → (o.data ≠ .fields #[] → (∀ us n, o.data ≠ .seq us n) → (hidT s₁.heap H).get? b = some o) ∧ (K.lookup b = some o → (hidT s₁.heap H).get? b = some o) := fun {b o} e => by
      cases q : H b with
      | none => exact ⟨fun _ _ => hidT_get e q, fun _ => hidT_get e q⟩
      | some u =>
        rcases hH b u q with ⟨rfl, hk, _⟩ | hb
        · refine ⟨fun _ d => ?_, fun z => by rw [hk] at z; cases z⟩
          rw [ha] at e; cases e
          exact (d _ _ rfl).elim
        · obtain ⟨t1, t2⟩ := tabAt b hb
          refine ⟨fun d _ => ?_, fun z => by rw [t2] at z; cases z⟩
          rw [t1] at e; cases e
          exact (d rfl).elim
    have nsK : ∀ {b : Addr} {m : Str → Option Value}, s₁.heap.Ns b m → (hidT s₁.heap H).Ns b m := fun ⟨o, es, ep, e, d, r⟩ => ⟨o, es, ep, (clear e).1 (by rw [d]; exact fun z => (nomatch z)) (by rw [d]; exact fun _ _ z => (nomatch z)), d, r⟩
    have hKb : K.In (hidT s₁.heap H) := fun b o e => (clear (KX b o e)).2 e
    have hM : Mod K mg (hidT s₁.heap H) := ⟨hKb, nsK hns, ⟨mb, nsK hb, hbb⟩, hlim.imp fun _ z => ⟨nsK z.1, z.2⟩⟩
    have TB : ∀ p ∈ cs, LamX.TabB (hidT s₁.heap H) mg p.1 p.2 := fun p hp => by
      have tp := T.at_ p hp
      refine ⟨?_, ?_, fun z => ?_⟩
      · have hc := T.hd p hp
        unfold PySem.W.CodeHd at hc ⊢
        obtain ⟨o, us, file, tf, flags, tg, inF, text, tt, e1, ec, e2, e3, rest⟩ := hc
        exact ⟨o, us, file, tf, flags, tg, inF, text, tt, (clear e1).1 (by rw [e2]; intro z; cases z; simp at e3) (by rw [e2]; exact fun _ _ z => (nomatch z)), ec, e2, e3, rest⟩
      · obtain ⟨bm, ob, g1, g2, g3, g4, g5, g6⟩ := hbm
        refine ⟨bm, ob, g1, g2, fun q => ?_, fun q => ?_, (clear g3).1 (by rw [g6]; exact fun z => (nomatch z)) (by rw [g6]; exact fun _ _ z => (nomatch z)), g4, g5, g6⟩
        · obtain ⟨o, es, ep, e, d, _⟩ := hns
          rw [q, e] at g3; cases g3
          rw [d] at g6; cases g6
        · rw [q, tp] at g3; cases g3
          cases g6
      · obtain ⟨o, es, ep, e, d, _⟩ := hns
        rw [z, tp] at e; cases e
        cases d
    have e0 : Env0 P w K mg (hidT s₁.heap H) callerA [] s₁ H := ⟨rfl, hM, fun b o e => of_hidT e, Nat.le_of_eq (hidT_size _ _), trivial, fun b hb => absurd (show b ∈ ([] : List Addr) from hb) (by simp), hok, .of_eq hg⟩
    -- F and U tell of the script alone
    obtain ⟨F0, fs, f0, fT⟩ : ∃ F0 : Hp, Same F0 H ∧ SqL K F0 a (ns.map V.int) ∧ ∀ b u, F0 b = some u → True := ⟨H, Same.refl _, hS, fun _ _ _ => trivial⟩
    have hsp : spV C m [.ref a] H (fun v _ => v = .bl true) (fun _ _ _ => False) := by
      refine ⟨fun b => if b = a then H a else none, fun b => if b = a then H a else none, [], [], [.scr ns], ⟨Same.refl _, fun b u z => ?_, List.nodup_nil, rfl, fun _ z => absurd z (by simp), fun k a o z _ => by simp at z, fun p hp => ?_, fun b ps z => ?_⟩, .cons ⟨a, rfl, ?_⟩ .nil, ?_⟩
      · have z : (if b = a then H a else none) = some u := z
        split at z
        · rename_i hb; rw [hb]; exact z
        · cases z
      · exact LamX.TabS.nil (hT p.1 (hfed p (by rw [← hC]; exact hp)))
      · have z : (if b = a then H a else none) = some (HO.tbl ps) := z
        split at z
        · rcases hH a _ z with ⟨_, _, o, xs, e⟩ | hb
          · cases e
          · exact aT hb
        · cases z
      · rw [hC]
        rcases hS with (h1 | ⟨o, h1⟩) | h1
        · exact .inl (.inl (by show (if a = a then H a else none) = _; rw [if_pos rfl]; exact h1))
        · exact .inl (.inr ⟨o, by show (if a = a then H a else none) = _; rw [if_pos rfl]; exact h1⟩)
        · exact .inr h1
      · rw [hm]
        exact fun b F' U' μ' H' g p l r => by cases (show RD C.K F' b (.bool true) from r); rfl
    refine codeAny_mono ((F _ hKb (nsK hns) TB).run callerA [] s₁ H ⟨[.ref a], []⟩ [.ref a] [.ref a] _ _ hr rfl e0 (hbind s₁ (.ref a)) rfl (.cons rfl .nil) hsp) fun r s' h => ?_
    cases r with
    | error e =>
      obtain ⟨_, _, _, _, _, _, _, _, _, _, _, _, z⟩ := h
      exact z.elim
    | ok fl =>
      cases fl with
      | next => exact False.elim h
      | brk => exact False.elim h
      | cont => exact False.elim h
      | ret u =>
        obtain ⟨v, H', os, bare, un, hok', r', q⟩ := h
        cases (show v = .bl true from q)
        cases (show u = Value.bool true from r')
        have grow : ∀ b ∈ cs.map (·.2), ∃ more : Array Value, s'.heap.get? b = some { cls := .none, data := .fields more } := fun b hb => by
          obtain ⟨more, z⟩ := un.tbls b #[] (hT b hb)
          exact ⟨_, hok' b _ z⟩
        have stay : ∀ b o, b ∉ cs.map (·.2) → s₁.heap.get? b = some o → s'.heap.get? b = some o := fun b o nb e => by
          cases q : H b with
          | none => exact un.keep b o e q (by intro z; exact absurd (show b ∈ ([] : List Addr) from z) (by simp)) (by simp)
          | some u =>
            rcases hH b u q with ⟨_, _, ob, xs, rfl⟩ | hb
            · obtain ⟨e1, _⟩ := hok b _ q
              obtain ⟨e2, _⟩ := hok' b _ (un.frzs b ob _ q)
              rw [e] at e1; cases e1
              exact e2
            · exact absurd hb nb
        refine ⟨rfl, ⟨fun b o e => ?_, fun b o e => ?_⟩, os, bare⟩
        · by_cases hb : b ∈ cs.map (·.2)
          · obtain ⟨more, e2⟩ := grow b hb
            have e1 := (tabAt b hb).1
            rw [e] at e1
            cases e1
            obtain ⟨p, hp, rfl⟩ := List.mem_map.mp hb
            exact .inr (.inl ⟨((T.hd p hp).tab (T.at_ p hp)).isCodeTable, rfl, #[], more, rfl, by rw [e2, Array.empty_append]⟩)
          · exact .inl (stay b o hb e)
        · by_cases hb : b ∈ cs.map (·.2)
          · obtain ⟨more, e2⟩ := grow b hb
            exact ⟨_, e2⟩
          · exact ⟨o, stay b o hb e⟩
  have rv := vals_ints hi
  cases hk : K.lookup a with
  | some o =>
    have e := KX a o hk
    rw [ha] at e
    cases e
    refine core (fun b => if b ∈ cs.map (·.2) then some (.tbl #[]) else none) (.inr ⟨_, vs.toArray, _, hk, rfl, rfl, rfl, by rw [List.size_toArray, hi.length]; exact hl, by simpa using rv⟩) (fun b u z => ?_) (fun b hb => if_pos hb) fun b u z => .inr ?_
    · have z : (if b ∈ cs.map (·.2) then some (HO.tbl #[]) else none) = some u := z
      split at z
      · cases z; rename_i hb; exact (tabAt b hb).1
      · cases z
    · have z : (if b ∈ cs.map (·.2) then some (HO.tbl #[]) else none) = some u := z
      split at z
      · assumption
      · cases z
  | none =>
    refine core (fun b => if b ∈ cs.map (·.2) then some (.tbl #[]) else if b = a then some (.frz { cls := .type "list", data := .seq vs.toArray } (.lst (ns.map V.int))) else none) (.inl (.inr ⟨{ cls := .type "list", data := .seq vs.toArray }, (if_neg aT).trans (if_pos rfl)⟩)) (fun b u z => ?_) (fun b hb => if_pos hb) fun b u z => ?_
    · have z : (if b ∈ cs.map (·.2) then some (.tbl #[]) else if b = a then some (HO.frz { cls := .type "list", data := .seq vs.toArray } (.lst (ns.map V.int))) else none) = some u := z
      split at z
      · cases z; rename_i hb; exact (tabAt b hb).1
      · split at z
        · cases z; rename_i hb; subst hb; exact ⟨ha, by rw [List.length_map]; exact hl, vs, _, rv, ha⟩
        · cases z
    · have z : (if b ∈ cs.map (·.2) then some (.tbl #[]) else if b = a then some (HO.frz { cls := .type "list", data := .seq vs.toArray } (.lst (ns.map V.int))) else none) = some u := z
      split at z
      · exact .inr ‹_›
      · split at z
        · cases z; exact .inl ⟨‹_›, hk, _, _, rfl⟩
        · cases z
theorem walk_end [Fed] {l : PySem.W.OpenLaw} {n k : Nat} {q : Program} {loose : List Str} {XP : (Str → Option Value) → Heap → Prop} {YP : World → Heap → Prop} {d : DefRec} {x : Str} {m : List Int → Fm}
    (hn : l.most = some n) (hn2 : n ≤ sizeLine) (hdf : d.params.defaults = []) (hr : Room k callerA)
    (F : ∀ (w : World) (mg : Str → Option Value) (fa : Addr) (h : Heap), YP w h → h.Ns mainGlobals mg → mg d.name = some (.ref fa) →
      ∃ (K : PySem.W.Frag) (C : Cn) (fd : FuncData) (cs : List (Addr × Addr)), C.K = K ∧ K.In h ∧ EndT K mg h cs ∧ (∀ p ∈ Fed.tb K, p.1 ∈ cs.map (·.2)) ∧ (∀ (s : Shared) (u : Value), BindsTo s fd ⟨[u], []⟩ [(x, u)]) ∧
        ∀ ns : List Int, ns.length ≤ n → ∀ base : Heap, K.In base → base.Ns mainGlobals mg → (∀ p ∈ cs, LamX.TabB base mg p.1 p.2) → FnV l.prog w K mg base C k fa fd [x] (m ns))
    (hm : ∀ ns : List Int, ns.length ≤ n → ∃ h', m ns [.scr ns] [] = .ok (.dat (.bool true)) h') :
    PySem.W.WalkO q loose XP YP l.row.toRowW d [] (fun f vs => PySem.call f vs) := by
  refine Att.attach_call hn hdf fun w s₀ s₁ mg mb fa o pm cd doc a vs ns G Y ho hd hcd hmg hobj hints hlen hg => ?_
  obtain ⟨K, C, fd, cs, hC, KX, T, hfed, hb, hF⟩ := F w mg fa _ Y G.T.g hmg
  exact law_end hC KX G.T.g G.T.b G.T.builtins G.T.nolimit hg T G.T.bmain hfed hobj hints (Nat.le_trans hlen hn2) hr (hF ns hlen) hb (hm ns hlen)
end Pv

/-! Pv, part I: repr, more built-ins. -/
namespace Pv
open PySem PySem.Spec PyProof.Rows L2

/-! ### data that are the same -/
mutual
def pdEq : PD → PD → Bool
  | .none, .none => true
  | .bool a, .bool b => a == b
  | .int a, .int b => decide (a = b)
  | .str a, .str b => strEq a b
  | .list a, .list b => pdEqs a b
  | .tuple a, .tuple b => pdEqs a b
  | .dict a, .dict b => pdEqk a b
  | _, _ => false
def pdEqs : List PD → List PD → Bool
  | [], [] => true
  | a :: as, b :: bs => pdEq a b && pdEqs as bs
  | _, _ => false
def pdEqk : List (PD × PD) → List (PD × PD) → Bool
  | [], [] => true
  | (a, c) :: as, (b, d) :: bs => pdEq a b && (pdEq c d && pdEqk as bs)
  | _, _ => false
end
mutual
theorem pdEq_ok [Fed] : ∀ {a b : PD}, pdEq a b = true → a = b
  | .none, b, h => by cases b <;> first | rfl | (simp [pdEq] at h)
  | .bool a, b, h => by cases b <;> simp [pdEq] at h; rw [h]
  | .int a, b, h => by cases b <;> simp [pdEq] at h; rw [h]
  | .str a, b, h => by cases b <;> simp [pdEq, strEq_iff] at h; rw [h]
  | .list a, b, h => by cases b <;> simp [pdEq] at h; rw [pdEqs_ok h]
  | .tuple a, b, h => by cases b <;> simp [pdEq] at h; rw [pdEqs_ok h]
  | .dict a, b, h => by cases b <;> simp [pdEq] at h; rw [pdEqk_ok h]
theorem pdEqs_ok [Fed] : ∀ {a b : List PD}, pdEqs a b = true → a = b
  | [], [], _ => rfl
  | [], _ :: _, h => by simp [pdEqs] at h
  | _ :: _, [], h => by simp [pdEqs] at h
  | a :: as, b :: bs, h => by
    simp only [pdEqs, Bool.and_eq_true] at h
    rw [pdEq_ok h.1, pdEqs_ok h.2]
theorem pdEqk_ok [Fed] : ∀ {a b : List (PD × PD)}, pdEqk a b = true → a = b
  | [], [], _ => rfl
  | [], _ :: _, h => by simp [pdEqk] at h
  | _ :: _, [], h => by simp [pdEqk] at h
  | (a, c) :: as, (b, d) :: bs, h => by
    simp only [pdEqk, Bool.and_eq_true] at h
    rw [pdEq_ok h.1, pdEq_ok h.2.1, pdEqk_ok h.2.2]
end

/-! ### repr -/
mutual
def low : PD → Bool
  | .none | .bool _ | .str _ => true
  | .int i => decide (i.natAbs < 10 ^ 60)
  | .list xs => lows xs
  | .tuple xs => lows xs
  | .dict _ => false
def lows : List PD → Bool
  | [] => true
  | x :: xs => low x && lows xs
end
theorem low_int {i : Int} (h : i.natAbs < 10 ^ 60) : (PyData.shown (.int i)).length ≤ 61 ∧ i.natAbs.log2 < 1920 := by
  refine ⟨?_, ?_⟩
  · have e := int_text_length_le10 (k := 60) (by decide) h
    simp only [PyData.shown]
    show (Str.ofString (toString i)).length ≤ 61
    rw [PySem.ofString_length]
    exact e
  · by_cases z : i.natAbs = 0
    · rw [z]; decide
    · exact (Nat.log2_lt z).mpr (Nat.lt_trans h (by decide +kernel))
mutual
theorem low_ok : ∀ {d : PD}, low d = true → d.intsShort 61 = true ∧ d.showable = true
  | .none, _ => ⟨rfl, rfl⟩
  | .bool _, _ => ⟨rfl, rfl⟩
  | .str _, _ => ⟨rfl, rfl⟩
  | .int i, h => by
    have z := low_int (of_decide_eq_true (show decide (i.natAbs < 10 ^ 60) = true by simpa only [low] using h))
    simp only [PyData.intsShort, PyData.showable]
    exact ⟨decide_eq_true z.1, decide_eq_true z.2⟩
  | .list xs, h => by
    have z := lows_ok (show lows xs = true by simpa only [low] using h)
    simpa only [PyData.intsShort, PyData.showable] using z
  | .tuple xs, h => by
    have z := lows_ok (show lows xs = true by simpa only [low] using h)
    simpa only [PyData.intsShort, PyData.showable] using z
  | .dict _, h => by simp [low] at h
theorem lows_ok : ∀ {ds : List PD}, lows ds = true → PyData.intsShortAll 61 ds = true ∧ PyData.showableAll ds = true
  | [], _ => ⟨rfl, rfl⟩
  | d :: ds, h => by
    simp only [lows, Bool.and_eq_true] at h
    obtain ⟨a1, a2⟩ := low_ok h.1
    obtain ⟨b1, b2⟩ := lows_ok h.2
    simp [PyData.intsShortAll, PyData.showableAll, a1, a2, b1, b2]
end
mutual
def lowB : PD → Bool
  | .none | .bool _ | .str _ => true
  | .int i => decide (i.natAbs < 10 ^ 500)
  | .list xs => lowsB xs
  | .tuple xs => lowsB xs
  | .dict _ => false
def lowsB : List PD → Bool
  | [] => true
  | x :: xs => lowB x && lowsB xs
end
theorem lowB_int {i : Int} (h : i.natAbs < 10 ^ 500) : (PyData.shown (.int i)).length ≤ 501 ∧ i.natAbs.log2 < 1920 := by
  refine ⟨?_, ?_⟩
  · have e := int_text_length_le10 (k := 500) (by decide) h
    simp only [PyData.shown]
    show (Str.ofString (toString i)).length ≤ 501
    rw [PySem.ofString_length]
    exact e
  · by_cases z : i.natAbs = 0
    · rw [z]; decide
    · exact (Nat.log2_lt z).mpr (Nat.lt_trans h (by decide +kernel))
mutual
theorem lowB_ok : ∀ {d : PD}, lowB d = true → d.intsShort 501 = true ∧ d.showable = true
  | .none, _ => ⟨rfl, rfl⟩
  | .bool _, _ => ⟨rfl, rfl⟩
  | .str _, _ => ⟨rfl, rfl⟩
  | .int i, h => by
    have z := lowB_int (of_decide_eq_true (show decide (i.natAbs < 10 ^ 500) = true by simpa only [lowB] using h))
    simp only [PyData.intsShort, PyData.showable]
    exact ⟨decide_eq_true z.1, decide_eq_true z.2⟩
  | .list xs, h => by
    have z := lowsB_ok (show lowsB xs = true by simpa only [lowB] using h)
    simpa only [PyData.intsShort, PyData.showable] using z
  | .tuple xs, h => by
    have z := lowsB_ok (show lowsB xs = true by simpa only [lowB] using h)
    simpa only [PyData.intsShort, PyData.showable] using z
  | .dict _, h => by simp [lowB] at h
theorem lowsB_ok : ∀ {ds : List PD}, lowsB ds = true → PyData.intsShortAll 501 ds = true ∧ PyData.showableAll ds = true
  | [], _ => ⟨rfl, rfl⟩
  | d :: ds, h => by
    simp only [lowsB, Bool.and_eq_true] at h
    obtain ⟨a1, a2⟩ := lowB_ok h.1
    obtain ⟨b1, b2⟩ := lowsB_ok h.2
    simp [PyData.intsShortAll, PyData.showableAll, a1, a2, b1, b2]
end
def showOk (d : PD) : Bool := (low d && (okF 64 d && decide (d.weight ≤ 200000))) || (lowB d && (okF 64 d && decide (d.weight ≤ 20000)))
def rRepr (K : PySem.W.Frag) : List V → Hp → VK → Prop := fun xs H Q => ∃ x d, xs = [x] ∧ Dp K H x d ∧ showOk d = true ∧ Q (.str d.shown) H
theorem showOk_iff {d : PD} (h : showOk d = true) : d.showable = true ∧ d.canLay0 = true ∧ d.depth ≤ 64 ∧ d.shown.length ≤ sizeLine := by
  unfold showOk at h
  simp only [Bool.or_eq_true, Bool.and_eq_true, decide_eq_true_eq] at h
  rcases h with ⟨h1, h23, h4⟩ | ⟨h1, h23, h4⟩
  · obtain ⟨h2, h3⟩ := okF_ok 64 h23
    obtain ⟨a1, a2⟩ := low_ok h1
    have := PyData.shown_le 61 (by decide) d (PyData.leavesShort_of_canLay0 61 d h2 a1)
    exact ⟨a2, h2, h3, by rw [sizeLine_eq]; omega⟩
  · obtain ⟨h2, h3⟩ := okF_ok 64 h23
    obtain ⟨a1, a2⟩ := lowB_ok h1
    have := PyData.shown_le 501 (by decide) d (PyData.leavesShort_of_canLay0 501 d h2 a1)
    exact ⟨a2, h2, h3, by rw [sizeLine_eq]; omega⟩
theorem call_repr [Fed] {X : Cx} (hg : X.A.guards = some []) (hu : X.A.units + 66 < cLine) : CallR X (.builtin "repr") (rRepr X.K) := by
  intro pins s σ H xs us Q I r h
  obtain ⟨x, d, rfl, hd, hs, q⟩ := h
  obtain ⟨u, rfl, ru⟩ := vals1 r
  obtain ⟨s1, s2, s3, s4⟩ := showOk_iff hs
  obtain ⟨as, rd⟩ := Dp.reads I d x u hd ru
  cases rd with
  | none => simp only [PyData.shown] at q; exact PySem.P.repr_of_none ⟨.str _, H, I.tok _, ⟨_, rfl⟩, q⟩
  | bool b => simp only [PyData.shown] at q; exact PySem.P.repr_of_bool ⟨.str _, H, I.tok _, ⟨_, rfl⟩, q⟩
  | int i t => simp only [PyData.shown] at q; exact PySem.P.repr_of_int (by simpa [PyData.showable] using s1) ⟨.str _, H, I.tok _, ⟨_, rfl⟩, q⟩
  | str z t => simp only [PyData.shown] at q s4; exact PySem.P.repr_of_str ⟨.str _, H, I.tok _, ⟨_, rfl⟩, q⟩ s4
  | list h1 h2 h3 h4 => exact repr_of_reads' (.list h1 h2 h3 h4) s1 (PyData.noDict_hsm (PyData.hasDict_of_canLay _ s2)) hg (by omega) (fun _ _ e => e) (fun h' u tk hk => ⟨.str _, H, I.kept hk, ⟨_, rfl⟩, q⟩) s4
  | tuple h1 h2 h3 h4 => exact repr_of_reads' (.tuple h1 h2 h3 h4) s1 (PyData.noDict_hsm (PyData.hasDict_of_canLay _ s2)) hg (by omega) (fun _ _ e => e) (fun h' u tk hk => ⟨.str _, H, I.kept hk, ⟨_, rfl⟩, q⟩) s4
  | dict => cases s2
def gRepr : GC
  | [x], h => match vw x h with
    | some d => if showOk d then .ok (.rep d) h else .no
    | none => .no
  | _, _ => .no
theorem cd_repr [Fed] {K : PySem.W.Frag} : CallD K (rRepr K) gRepr := by
  intro C hC F U μ H h W vs xs Q l r o
  subst hC
  unfold gRepr at o
  split at o
  · obtain ⟨v, rfl, rv⟩ := slRs1 r
    split at o
    · rename_i d e
      split at o
      · rename_i hs
        exact ⟨v, d, rfl, (vw_ok l rv e).dp l.fh (showOk_iff hs).2.1, hs, o.here l rfl⟩
      · exact o.elim
    · exact o.elim
  · exact o.elim
def gEqR : G2
  | .rep d, .rep e, h => if pdEq d e then .ok (.dat (.bool true)) h else .no
  | _, _, _ => .no
theorem od_eqR [Fed] {K : PySem.W.Frag} : OpD K rEq gEqR := by
  intro C hC F U μ H h W x y a b Q l ra rb o
  subst hC
  unfold gEqR at o
  split at o
  · split at o
    · rename_i he
      cases pdEq_ok he
      cases (show x = .str _ from ra)
      cases (show y = .str _ from rb)
      exact ⟨rfl, o.here l (by rw [show decide (V.str _ = V.str _) = true from decide_eq_true rfl]; exact .bl true)⟩
    · exact o.elim
  · exact o.elim

/-- == and != of data, of texts made by repr -/
def gEqA : G2 := fun a b h => match a, b with
  | .rep d, .rep e => gEqR (.rep d) (.rep e) h
  | a, b => gEq a b h
def gNeA : G2 := fun a b h => match a, b with
  | .rep d, .rep e => if pdEq d e then .ok (.dat (.bool false)) h else .no
  | a, b => gNe a b h
def rEqA (K : PySem.W.Frag) : R2 := fun x y H Q => rEq x y H Q ∨ rEqD K x y H Q
def rNeA (K : PySem.W.Frag) : R2 := fun x y H Q => rNe x y H Q ∨ rNeD K x y H Q
theorem or_eqA {X : Cx} (hu : X.A.units + 64 < cLine) : OpR X (compareOp .Eq) (rEqA X.K) := OpR.or op_eq (op_eqD hu)
theorem or_neA {X : Cx} (hu : X.A.units + 64 < cLine) : OpR X (compareOp .NotEq) (rNeA X.K) := OpR.or op_ne (op_neD hu)
theorem od_eqA [Fed] {K : PySem.W.Frag} : OpD K (rEqA K) gEqA := by
  intro C hC F U μ H h W x y a b Q l ra rb o
  unfold gEqA at o
  split at o
  · exact .inl (od_eqR C hC F U μ H h W x y _ _ Q l ra rb o)
  · exact .inr (od_eq C hC F U μ H h W x y a b Q l ra rb o)
theorem od_neA [Fed] {K : PySem.W.Frag} : OpD K (rNeA K) gNeA := by
  intro C hC F U μ H h W x y a b Q l ra rb o
  unfold gNeA at o
  split at o
  · split at o
    · rename_i he
      cases pdEq_ok he
      cases (show x = .str _ from ra)
      cases (show y = .str _ from rb)
      exact .inl ⟨rfl, o.here l (by rw [show decide (V.str _ = V.str _) = true from decide_eq_true rfl]; exact .bl false)⟩
    · exact o.elim
  · exact .inr (od_ne C hC F U μ H h W x y a b Q l ra rb o)

/-! ### max, min of a list of ints -/
def maxI : Int → List Int → Int
  | m, [] => m
  | m, x :: xs => maxI (if m < x then x else m) xs
def minI : Int → List Int → Int
  | m, [] => m
  | m, x :: xs => minI (if x < m then x else m) xs
theorem maxI_ok [Fed] : ∀ (xs : List Int) (m : Int), (maxI m xs = m ∨ maxI m xs ∈ xs) ∧ m ≤ maxI m xs ∧ ∀ y ∈ xs, y ≤ maxI m xs
  | [], m => ⟨.inl rfl, Int.le_refl _, fun y h => by cases h⟩
  | x :: xs, m => by
    obtain ⟨h1, h2, h3⟩ := maxI_ok xs (if m < x then x else m)
    show (maxI (if m < x then x else m) xs = m ∨ maxI (if m < x then x else m) xs ∈ x :: xs) ∧ m ≤ maxI (if m < x then x else m) xs ∧ ∀ y ∈ x :: xs, y ≤ maxI (if m < x then x else m) xs
    generalize maxI (if m < x then x else m) xs = z at h1 h2 h3
    by_cases c : m < x
    · rw [if_pos c] at h1 h2
      refine ⟨.inr ?_, by omega, fun y hy => ?_⟩
      · rcases h1 with e | e
        · rw [e]; exact List.mem_cons_self
        · exact List.mem_cons_of_mem _ e
      · rcases List.mem_cons.mp hy with e | e
        · rw [e]; exact h2
        · exact h3 y e
    · rw [if_neg c] at h1 h2
      refine ⟨?_, h2, fun y hy => ?_⟩
      · rcases h1 with e | e
        · exact .inl e
        · exact .inr (List.mem_cons_of_mem _ e)
      · rcases List.mem_cons.mp hy with e | e
        · rw [e]; omega
        · exact h3 y e
theorem minI_ok [Fed] : ∀ (xs : List Int) (m : Int), (minI m xs = m ∨ minI m xs ∈ xs) ∧ minI m xs ≤ m ∧ ∀ y ∈ xs, minI m xs ≤ y
  | [], m => ⟨.inl rfl, Int.le_refl _, fun y h => by cases h⟩
  | x :: xs, m => by
    obtain ⟨h1, h2, h3⟩ := minI_ok xs (if x < m then x else m)
    show (minI (if x < m then x else m) xs = m ∨ minI (if x < m then x else m) xs ∈ x :: xs) ∧ minI (if x < m then x else m) xs ≤ m ∧ ∀ y ∈ x :: xs, minI (if x < m then x else m) xs ≤ y
    generalize minI (if x < m then x else m) xs = z at h1 h2 h3
    by_cases c : x < m
    · rw [if_pos c] at h1 h2
      refine ⟨.inr ?_, by omega, fun y hy => ?_⟩
      · rcases h1 with e | e
        · rw [e]; exact List.mem_cons_self
        · exact List.mem_cons_of_mem _ e
      · rcases List.mem_cons.mp hy with e | e
        · rw [e]; exact h2
        · exact h3 y e
    · rw [if_neg c] at h1 h2
      refine ⟨?_, h2, fun y hy => ?_⟩
      · rcases h1 with e | e
        · exact .inl e
        · exact .inr (List.mem_cons_of_mem _ e)
      · rcases List.mem_cons.mp hy with e | e
        · rw [e]; omega
        · exact h3 y e
def gMaxL : GC
  | [x], h => match vw x h with
    | some (.list ds) => match intsOf ds with
      | some (n :: ns) => .ok (.dat (.int (maxI n ns))) h
      | _ => .no
    | _ => .no
  | _, _ => .no
def gMinL : GC
  | [x], h => match vw x h with
    | some (.list ds) => match intsOf ds with
      | some (n :: ns) => .ok (.dat (.int (minI n ns))) h
      | _ => .no
    | _ => .no
  | _, _ => .no
theorem cd_maxL [Fed] {K : PySem.W.Frag} : CallD K (rMax K) gMaxL := by
  intro C hC F U μ H h W vs xs Q l r o
  subst hC
  unfold gMaxL at o
  split at o
  · obtain ⟨v, rfl, rv⟩ := slRs1 r
    split at o
    · rename_i ds e
      split at o
      · rename_i n ns eb
        cases vw_ok l rv e with
        | lst s d =>
          rw [ints_ok d eb] at s
          refine ⟨_, n :: ns, rfl, s, Nat.succ_pos _, fun m hm hall => ?_⟩
          obtain ⟨h1, h2, h3⟩ := maxI_ok ns n
          have em : m = maxI n ns := by
            have a1 : m ≤ maxI n ns := by
              rcases List.mem_cons.mp hm with z | z
              · rw [z]; exact h2
              · exact h3 m z
            have a2 : maxI n ns ≤ m := by
              rcases h1 with z | z
              · rw [z]; exact hall n List.mem_cons_self
              · exact hall _ (List.mem_cons_of_mem _ z)
            omega
          rw [em]
          exact o.here l (.int _)
      · exact o.elim
    · exact o.elim
  · exact o.elim
theorem cd_minL [Fed] {K : PySem.W.Frag} : CallD K (rMin K) gMinL := by
  intro C hC F U μ H h W vs xs Q l r o
  subst hC
  unfold gMinL at o
  split at o
  · obtain ⟨v, rfl, rv⟩ := slRs1 r
    split at o
    · rename_i ds e
      split at o
      · rename_i n ns eb
        cases vw_ok l rv e with
        | lst s d =>
          rw [ints_ok d eb] at s
          refine ⟨_, n :: ns, rfl, s, Nat.succ_pos _, fun m hm hall => ?_⟩
          obtain ⟨h1, h2, h3⟩ := minI_ok ns n
          have em : m = minI n ns := by
            have a1 : minI n ns ≤ m := by
              rcases List.mem_cons.mp hm with z | z
              · rw [z]; exact h2
              · exact h3 m z
            have a2 : m ≤ minI n ns := by
              rcases h1 with z | z
              · rw [z]; exact hall n List.mem_cons_self
              · exact hall _ (List.mem_cons_of_mem _ z)
            omega
          rw [em]
          exact o.here l (.int _)
      · exact o.elim
    · exact o.elim
  · exact o.elim

/-! ### sorted: ints -/
def insI (x : Int) : List Int → List Int
  | [] => [x]
  | y :: ys => if x ≤ y then x :: y :: ys else y :: insI x ys
def sortI : List Int → List Int
  | [] => []
  | x :: xs => insI x (sortI xs)
theorem insI_perm [Fed] (x : Int) : ∀ ys : List Int, (insI x ys).Perm (x :: ys)
  | [] => .refl _
  | y :: ys => by
    unfold insI
    split
    · exact .refl _
    · exact ((insI_perm x ys).cons y).trans (.swap x y ys)
theorem insI_sorted [Fed] (x : Int) : ∀ {ys : List Int}, ys.Pairwise (· ≤ ·) → (insI x ys).Pairwise (· ≤ ·)
  | [], _ => by unfold insI; exact List.pairwise_cons.mpr ⟨fun _ z => absurd z (by simp), .nil⟩
  | y :: ys, h => by
    unfold insI
    obtain ⟨h1, h2⟩ := List.pairwise_cons.mp h
    split
    · rename_i c
      refine List.pairwise_cons.mpr ⟨fun z hz => ?_, h⟩
      rcases List.mem_cons.mp hz with e | e
      · rw [e]; exact c
      · have := h1 z e; omega
    · rename_i c
      refine List.pairwise_cons.mpr ⟨fun z hz => ?_, insI_sorted x h2⟩
      rcases List.mem_cons.mp ((insI_perm x ys).mem_iff.mp hz) with e | e
      · rw [e]; omega
      · exact h1 z e
theorem sortI_perm [Fed] : ∀ xs : List Int, (sortI xs).Perm xs
  | [] => .refl _
  | x :: xs => (insI_perm x _).trans ((sortI_perm xs).cons x)
theorem sortI_sorted [Fed] : ∀ xs : List Int, (sortI xs).Pairwise (· ≤ ·)
  | [] => .nil
  | x :: xs => insI_sorted x (sortI_sorted xs)
theorem sorted_uniq [Fed] {a b : List Int} (p : a.Perm b) (ha : a.Pairwise (· ≤ ·)) (hb : b.Pairwise (· ≤ ·)) : a = b := p.eq_of_pairwise (fun x y _ _ h1 h2 => Int.le_antisymm h1 h2) ha hb
def gSortI (ob : Bool) : GC
  | [x], h => match vw x h with
    | some (.list ds) => match intsOf ds with
      | some ns => if ob then .ok (.obj h.length) (h ++ [.lst ((sortI ns).map PyData.int)]) else .ok (.dat (.list ((sortI ns).map PyData.int))) h
      | _ => .no
    | _ => .no
  | _, _ => .no
theorem cd_sortI [Fed] {K : PySem.W.Frag} {ob : Bool} : CallD K (rSortedI K) (gSortI ob) := by
  intro C hC F U μ H h W vs xs Q l r o
  subst hC
  unfold gSortI at o
  split at o
  · obtain ⟨v, rfl, rv⟩ := slRs1 r
    split at o
    · rename_i ds e
      split at o
      · rename_i ns eb
        cases vw_ok l rv e with
        | lst s d =>
          rw [ints_ok d eb] at s
          refine ⟨_, ns, rfl, s, fun ns' p hp1 hp2 hp => ?_⟩
          have e2 : ns' = sortI ns := sorted_uniq (hp1.trans (sortI_perm ns).symm) hp2 (sortI_sorted ns)
          subst e2
          cases ob with
          | true => exact Out.newO (by simpa using o) l (RDs.ints _) hp
          | false => exact Out.newL (by simpa using o) l (RDs.ints _) hp
      · exact o.elim
    · exact o.elim
  · exact o.elim
end Pv

/-! Pv, part J: dicts. -/
namespace Pv
open PySem PySem.Spec PyProof.Rows L2

def toKey : PD → Option Key
  | .int i => some (.inl i)
  | .str x => some (.inr x)
  | _ => none
theorem toKey_ok [Fed] {d : PD} {k : Key} (h : toKey d = some k) : d = keyD k := by
  cases d <;> simp [toKey] at h <;> subst h <;> rfl
def keyEq (d : PD) (e : PD) : Bool := match d, e with
  | .int a, .int b => decide (a = b)
  | .str a, .str b => strEq a b
  | _, _ => false
theorem keyEq_iff [Fed] (k k' : Key) : keyEq (keyD k) (keyD k') = decide (k = k') := by
  cases k <;> cases k' <;> simp [keyEq, keyD]
  rename_i a b
  rw [strEq_eq]
  by_cases h : a = b
  · subst h; simp
  · simp [h]
def lookP (kvs : List (PD × PD)) (k : PD) : Option PD := (kvs.find? fun p => keyEq p.1 k).map (·.2)
def putP (kvs : List (PD × PD)) (k v : PD) : List (PD × PD) := if kvs.any (fun p => keyEq p.1 k) then kvs.map (fun p => if keyEq p.1 k then (p.1, v) else p) else kvs ++ [(k, v)]
def mergeP (kvs more : List (PD × PD)) : List (PD × PD) := more.foldl (fun acc kv => putP acc kv.1 kv.2) kvs
section
variable {K : PySem.W.Frag} {F : Hp}
theorem RKs.len [Fed] : ∀ {vs : List (Key × V)} {kvs : List (PD × PD)}, RKs K F vs kvs → vs.length = kvs.length
  | _, _, .nil => rfl
  | _, _, .cons _ b => congrArg Nat.succ b.len
theorem RKs.look [Fed] (k : Key) : ∀ {vs : List (Key × V)} {kvs : List (PD × PD)}, RKs K F vs kvs → (valV vs k = none ∧ lookP kvs (keyD k) = none) ∨ ∃ v d, valV vs k = some v ∧ lookP kvs (keyD k) = some d ∧ RD K F v d
  | _, _, .nil => .inl ⟨rfl, rfl⟩
  | _, _, .cons (k := k') (v := v) (d := d) (kvs := vs) (kds := kvs) a b => by
    by_cases e : k' = k
    · refine .inr ⟨v, d, valV_pos e, ?_, a⟩
      unfold lookP
      rw [List.find?_cons_of_pos (by rw [keyEq_iff]; exact decide_eq_true e)]
      rfl
    · rw [valV_neg (p := (k', v)) e]
      have e2 : lookP ((keyD k', d) :: kvs) (keyD k) = lookP kvs (keyD k) := by
        unfold lookP
        rw [List.find?_cons_of_neg (by rw [keyEq_iff]; simpa using e)]
      rw [e2]
      exact b.look k
theorem RKs.any [Fed] (k : Key) : ∀ {vs : List (Key × V)} {kvs : List (PD × PD)}, RKs K F vs kvs → (vs.any fun p => decide (p.1 = k)) = kvs.any (fun p => keyEq p.1 (keyD k))
  | _, _, .nil => rfl
  | _, _, .cons a b => by rw [List.any_cons, List.any_cons, b.any k, keyEq_iff]
theorem RKs.map [Fed] (k : Key) {v : V} {d : PD} (r : RD K F v d) : ∀ {vs : List (Key × V)} {kvs : List (PD × PD)}, RKs K F vs kvs → RKs K F (vs.map fun p => if p.1 = k then (p.1, v) else p) (kvs.map fun p => if keyEq p.1 (keyD k) then (p.1, d) else p)
  | _, _, .nil => .nil
  | _, _, .cons (k := k') a b => by
    rw [List.map_cons, List.map_cons, keyEq_iff]
    by_cases e : k' = k
    · rw [if_pos e, if_pos (decide_eq_true e)]
      exact .cons r (b.map k r)
    · rw [if_neg e, if_neg (by simpa using e)]
      exact .cons a (b.map k r)
theorem RKs.snoc [Fed] (k : Key) {v : V} {d : PD} (r : RD K F v d) : ∀ {vs : List (Key × V)} {kvs : List (PD × PD)}, RKs K F vs kvs → RKs K F (vs ++ [(k, v)]) (kvs ++ [(keyD k, d)])
  | _, _, .nil => .cons r .nil
  | _, _, .cons a b => .cons a (b.snoc k r)
theorem RKs.put [Fed] (k : Key) {v : V} {d : PD} (r : RD K F v d) {vs : List (Key × V)} {kvs : List (PD × PD)} (h : RKs K F vs kvs) : RKs K F (putK vs k v) (putP kvs (keyD k) d) := by
  unfold putK putP
  rw [h.any k]
  split
  · exact h.map k r
  · exact h.snoc k r
theorem RKs.merge [Fed] : ∀ {more : List (Key × V)} {moreD : List (PD × PD)} {vs : List (Key × V)} {kvs : List (PD × PD)}, RKs K F more moreD → RKs K F vs kvs → RKs K F (mergeK vs more) (mergeP kvs moreD)
  | _, _, _, _, .nil, h => h
  | _, _, vs, kvs, .cons (k := k) (v := v) (d := d) (kvs := more) (kds := moreD) a b, h => RKs.merge (more := more) (moreD := moreD) b (h.put k a)
end
/-- a dict, whatever holds it -/
def vwD (x : Sl) (h : AH) : Option (List (PD × PD)) := match vw x h with
  | some (.dict kvs) => some kvs
  | _ => none
theorem vwD_ok [Fed] {K : PySem.W.Frag} {F U H : Hp} {μ : List Addr} {h : AH} {v : V} {x : Sl} {kvs : List (PD × PD)} (l : Lk K F U μ H h) (r : SlR K F μ v x) (e : vwD x h = some kvs) : ∃ a vs, v = .ref a ∧ H a = some (.dK vs) ∧ RKs K F vs kvs := by
  unfold vwD at e
  split at e
  · rename_i kvs' e2
    cases e
    cases vw_ok l r e2 with
    | dct h1 h2 => exact ⟨_, _, rfl, h1, h2⟩
  · cases e
def cGet (td ty : Ex) : Ex := fun env h => (td env h).bind fun x h1 => (ty env h1).bind fun y h2 => match y with
  | .dat k => match toKey k, vwD x h2 with
    | some k', some kvs => match lookP kvs (keyD k') with
      | some d => .ok (.dat d) h2
      | none => .no
    | _, _ => .no
  | _ => .no
/-- d[k] = v -/
def sPut (td ty tv : Ex) : Sx := fun env h => (tv env h).bind fun v h1 => (td env h1).bind fun x h2 => (ty env h2).bind fun y h3 => match x, y, v with
  | .obj i, .dat k, .dat d => match h3[i]?, toKey k with
    | some (.dct kvs), some k' => if kvs.length < sizeLine then .ok (.nx env) (h3.set i (.dct (putP kvs (keyD k') d))) else .no
    | _, _ => .no
  | _, _, _ => .no
section
variable {C : Cn} {Wx : XK} {X : Cx} {o i value : Expr} {td ty tv : Ex} {pos pos' : Pos}
theorem key_rel [Fed] {K : PySem.W.Frag} {F : Hp} {v : V} {d : PD} {k : Key} (r : RD K F v d) (e : toKey d = some k) : v = kV k := by
  cases toKey_ok e
  cases k <;> cases r <;> rfl
theorem se_get [Fed] (hu : X.A.units + 1 < cLine) (ho : SE C Wx X o td) (hi : SE C Wx X i ty) (hs : NoSl i := by intro _ _; rfl) : SE C Wx X (.Subscript o i pos) (cGet td ty) := ⟨pe_imp (pe_dget hu ho.pe hi.pe hs) fun σ H Q q => by
  obtain ⟨F, U, μ, env, h, l, ev, o⟩ := q
  refine rd_step l ev o fun x vx F1 U1 μ1 H1 h1 g1 p1 l1 r1 e1 o1 => ?_
  refine rd_step l1 e1 o1 fun y vy F2 U2 μ2 H2 h2 g2 p2 l2 r2 e2 o2 => ?_
  split at o2
  · split at o2
    · rename_i k _ _ k' kvs ek ev'
      obtain ⟨a, vs, rfl, hH, hr⟩ := vwD_ok l2 (r1.mono g2.f p2) ev'
      cases key_rel r2 ek
      rcases hr.look k' with ⟨n1, n2⟩ | ⟨v, d, n1, n2, rd⟩
      · rw [n2] at o2; exact o2.elim
      · rw [n2] at o2
        exact ⟨a, v, rfl, by rw [← n1]; exact DGet.k hH, o2.here l2 rd⟩
    · exact o2.elim
  · exact o2.elim⟩
theorem ss_put [Fed] (hu : X.A.units + 1 < cLine) (ho : SE C Wx X o td) (hi : SE C Wx X i ty) (hv : SE C Wx X value tv) (hs : swapsWith value (some (.Subscript o i pos')) pos.line X.env = pure false := by rfl) : SS C Wx X (.Assign [.Subscript o i pos'] value pos) (sPut td ty tv) :=
  ⟨ps_imp (ps_dput hu ho.pe hi.pe hv.pe hs) fun D σ H q => by
    obtain ⟨F, U, μ, env, h, l, ev, o⟩ := q
    refine rd_step l ev o fun v vv F1 U1 μ1 H1 h1 g1 p1 l1 r1 e1 o1 => ?_
    refine rd_step l1 e1 o1 fun x vx F2 U2 μ2 H2 h2 g2 p2 l2 r2 e2 o2 => ?_
    refine rd_step l2 e2 o2 fun y vy F3 U3 μ3 H3 h3 g3 p3 l3 r3 e3 o3 => ?_
    split at o3
    · split at o3
      · split at o3
        · rename_i i k d _ _ kvs k' eh ek hz
          obtain ⟨a, ha, rfl⟩ := r2.mono g3.f p3
          obtain ⟨hU, vs, hH, hr⟩ := l3.obj _ a _ ha eh
          cases key_rel r3 ek
          have rd : RD C.K F3 vv d := RD.mono g3.f (RD.mono g2.f r1)
          refine ⟨a, _, rfl, DPut.k hH (by rw [hr.len]; exact hz), ?_⟩
          exact o3.nxt (l3.put ha eh hU ⟨hU, _, upd_same, hr.put k' rd⟩) e3
        · exact o3.elim
      · exact o3.elim
    · exact o3.elim⟩
end

/-! ### displays -/
def pairsE : List (Ex × Ex) → Ev → AH → Res (List (PD × PD))
  | [], _, h => .ok [] h
  | (tk, tv) :: r, env, h => (tk env h).bind fun k h1 => (tv env h1).bind fun v h2 => match k, v with
    | .dat k, .dat v => if (toKey k).isSome then (pairsE r env h2).bind fun ps h3 => .ok ((k, v) :: ps) h3 else .no
    | _, _ => .no
def cDisp (ts : List (Ex × Ex)) : Ex := fun env h => (pairsE ts env (h ++ [.dct []])).bind fun ps h1 => match h1[h.length]? with
  | some (.dct []) => if ps.length ≤ 15 then .ok (.obj h.length) (h1.set h.length (.dct (mergeP [] ps))) else .no
  | _ => .no
abbrev trsOf [Fed] (C : Cn) (Wx : XK) (ts : List (Ex × Ex)) : List (TE × TE) := ts.map fun p => (rdE C Wx p.1, rdE C Wx p.2)
structure SPP [Fed] (C : Cn) (Wx : XK) (X : Cx) (pos : Pos) (keys : List (Option Expr)) (values : List Expr) (ts : List (Ex × Ex)) : Prop where pps : PPs X pos keys values (trsOf C Wx ts)
section
variable {C : Cn} {Wx : XK} {X : Cx} {pos : Pos} {k v : Expr} {ks : List (Option Expr)} {vs : List Expr} {tk tv : Ex} {ts : List (Ex × Ex)}
theorem spp_nil [Fed] : SPP C Wx X pos [] [] [] := ⟨pps_nil⟩
theorem spp_cons [Fed] (hk : SE C Wx X k tk) (hv : SE C Wx X v tv) (hr : SPP C Wx X pos ks vs ts) : SPP C Wx X pos (some k :: ks) (v :: vs) ((tk, tv) :: ts) := ⟨pps_cons hk.pe hv.pe hr.pps⟩
theorem rd_pairs [Fed] {γ δ : Type} {R2 : γ → Hp → Hp → List Addr → δ → Prop} {Q2 : δ → Hp → Prop} {σ : L2.St} {env : Ev} :
    ∀ (ts : List (Ex × Ex)) {F U : Hp} {μ : List Addr} {H : Hp} {h : AH} {Q : List (V × V) → Hp → Prop} {f : List (PD × PD) → AH → Res γ}, Lk C.K F U μ H h → EvR C.K F μ σ env → Out C F U μ Wx R2 Q2 ((pairsE ts env h).bind f) →
      (∀ ps kvs F' U' μ' H' h', Gr F U F' U' → μ <+: μ' → Lk C.K F' U' μ' H' h' → RKs C.K F' kvs ps → Out C F' U' μ' Wx R2 Q2 (f ps h') → Q (kvs.map fun kv => (kV kv.1, kv.2)) H') → tPairs (trsOf C Wx ts) σ H Q
  | [], F, U, μ, H, h, Q, f, l, ev, q, k => k [] [] F U μ H h Gr.refl (List.prefix_refl _) l .nil q
  | (tk, tv) :: ts, F, U, μ, H, h, Q, f, l, ev, q, k => by
    have q' : Out C F U μ Wx R2 Q2 ((tk env h).bind fun k h1 => (tv env h1).bind fun v h2 => Res.bind (match k, v with
      | .dat k, .dat v => if (toKey k).isSome then (pairsE ts env h2).bind fun ps h3 => .ok ((k, v) :: ps) h3 else .no
      | _, _ => .no) f) := by
      have e : ∀ {α β γ : Type} (r : Res α) (g : α → AH → Res β) (f : β → AH → Res γ), (r.bind g).bind f = r.bind fun a h => (g a h).bind f := by
        intro α β γ r g f
        cases r <;> rfl
      have q2 : Out C F U μ Wx R2 Q2 (((tk env h).bind fun k h1 => (tv env h1).bind fun v h2 => match k, v with
        | .dat k, .dat v => if (toKey k).isSome then (pairsE ts env h2).bind fun ps h3 => .ok ((k, v) :: ps) h3 else .no
        | _, _ => .no).bind f) := q
      rw [e] at q2
      simpa only [e] using q2
    show rdE C Wx tk σ H _
    refine rd_step l ev q' fun x vx F1 U1 μ1 H1 h1 g1 p1 l1 r1 e1 o1 => ?_
    refine rd_step l1 e1 o1 fun y vy F2 U2 μ2 H2 h2 g2 p2 l2 r2 e2 o2 => ?_
    cases x with
    | dat kd =>
      cases y with
      | dat vd =>
        dsimp only at o2
        cases ek : toKey kd with
        | none => rw [ek] at o2; exact o2.elim
        | some kk =>
          rw [ek] at o2
          have o3 : Out C F2 U2 μ2 Wx R2 Q2 ((pairsE ts env h2).bind fun ps h3 => f ((kd, vd) :: ps) h3) := by
            rw [if_pos (show (some kk).isSome = true from rfl)] at o2
            cases e : pairsE ts env h2 with
            | ok a h' => rw [e] at o2; exact o2
            | exc c fs h' => rw [e] at o2; exact o2
            | no => rw [e] at o2; exact o2
          refine rd_pairs ts l2 e2 o3 fun ps kvs F3 U3 μ3 H3 h3 g3 p3 l3 r3 o4 => ?_
          cases key_rel (RD.mono g2.f r1) ek
          cases toKey_ok ek
          exact k _ ((kk, vy) :: kvs) F3 U3 μ3 H3 h3 ((g1.trans g2).trans g3) ((p1.trans p2).trans p3) l3 (.cons (RD.mono g3.f r2) r3) o4
      | _ => exact o2.elim
    | _ => exact o2.elim
theorem se_disp [Fed] {values : List Expr} {keys : List (Option Expr)} (h : SPP C Wx X pos keys values ts) (hall : keys.all (·.isSome) = true := by rfl) (hl : keys.length = values.length := by rfl) (h0 : keys ≠ [] := by exact fun h => nomatch h)
    (h15 : keys.length ≤ 15 := by decide) : SE C Wx X (.Dict keys values pos) (cDisp ts) := ⟨pe_imp (pe_disp h.pps hall hl h0 h15) fun σ H Q q => by
  obtain ⟨F, U, μ, env, h, l, ev, o⟩ := q
  intro p hp
  have l1 := l.newO (o := .dK []) (a' := .dct []) hp ⟨same_none l.uh hp, [], upd_same, .nil⟩
  refine rd_pairs ts l1 (ev.mono (Same.refl _) (List.prefix_append _ _)) (o.mono Gr.refl (List.prefix_append _ _)) fun ps kvs F' U' μ' H' h' g p l' r o' => ?_
  split at o'
  · rename_i eh
    split at o'
    · rename_i hz
      have ha : μ'[h.length]? = some _ := pre_get p (by rw [← l.len, List.getElem?_append_right (Nat.le_refl _)]; simp; rfl)
      obtain ⟨hU, vs, hH, hr⟩ := l'.obj _ _ _ ha eh
      cases hr
      exact ⟨hH, kvs, rfl, by rw [r.len]; exact hz, o'.here (l'.put ha eh hU ⟨hU, _, upd_same, r.merge .nil⟩) ⟨_, ha, rfl⟩⟩
    · exact o'.elim
  · exact o'.elim⟩
end
end Pv

/-! Pv, part K: room; draws by an oracle. -/
namespace Pv
open PySem PySem.Spec PyProof.Rows L2

theorem ru1 {k : Nat} {A : Around} (r : Room k A) : A.units + 1 < cLine := by have := r.un; omega
theorem ru64 {k : Nat} {A : Around} (r : Room k A) : A.units + 64 < cLine := by have := r.un; omega
theorem ru65 {k : Nat} {A : Around} (r : Room k A) : A.units + 65 < cLine := by have := r.un; omega
theorem ru66 {k : Nat} {A : Around} (r : Room k A) : A.units + 66 < cLine := by have := r.un; omega

/-- one draw: q is asked, n comes -/
def Step (m : Fm) (kvs : List (PD × PD)) (q n : Int) (kvs' : List (PD × PD)) : Prop := ∀ (h : AH) (k : Nat), h[k]? = some (.dct kvs) → m [.obj k, .dat (.int q)] h = .ok (.dat (.int n)) (h.set k (.dct kvs'))
inductive GD (m : Fm) : List (PD × PD) → List (Int × Int) → Prop
  | nil (kvs : List (PD × PD)) : GD m kvs []
  | cons {kvs kvs' : List (PD × PD)} {q n : Int} {os : List (Int × Int)} : Step m kvs q n kvs' → GD m kvs' os → GD m kvs ((q, n) :: os)
def mDraw : Fm := fun xs h => match xs with
  | [.obj k, .dat (.int q)] => match h[k]? with
    | some (.fed ((q', n) :: os) qs) => if q = q' then .ok (.dat (.int n)) (h.set k (.fed os qs)) else .no
    | some (.fed [] (q' :: qs)) => if q = q' then .ok (.anyI q) (h.set k (.fed [] qs)) else .no
    | _ => .no
  | _ => .no
def mFeed (ns : List Int) (os : List (Int × Int)) : Fm := fun xs h => match xs with
  | [.scr ms] => if ms = ns then .ok (.obj h.length) (h ++ [.fed os []]) else .no
  | _ => .no
def mFeedU (ns : List Int) (qs : List Int) : Fm := fun xs h => match xs with
  | [.scr ms] => if ms = ns then .ok (.obj h.length) (h ++ [.fed [] qs]) else .no
  | _ => .no
section
variable [Fed] {P : Program} {w : World} {K : PySem.W.Frag} {mg : Str → Option Value} {base : Heap} {C : Cn} {k : Nat} {f : Addr} {fd : FuncData} {ps : List Str} {m : Fm}
theorem FnV.draw (V : FnV P w K mg base C k f fd ps m) (hP : ∀ kvs os, Fed.P kvs os → GD m kvs os) (hP' : ∀ kvs os, GD m kvs os → Fed.P kvs os) : FnV P w K mg base C k f fd ps mDraw := by
  refine ⟨fun A outer s H args us vs Q E hr hg e0 hb hul r hsp => V.run A outer s H args us vs Q E hr hg e0 hb hul r ?_⟩
  obtain ⟨F, U, μ, h, xs, l, rx, o⟩ := hsp
  unfold mDraw at o
  split at o
  · rename_i k q
    split at o
    · rename_i q' n os qs eh
      split at o
      · rename_i hq
        subst hq
        have hk : k < h.length := (List.getElem?_eq_some_iff.mp eh).1
        have hx : ∃ a, μ[k]? = some a := ⟨_, List.getElem?_eq_getElem (by rw [l.len]; exact hk)⟩
        obtain ⟨a, ha⟩ := hx
        obtain ⟨hU, vs', kvs, hH, hr', os2, ho2, hp⟩ := l.obj k a _ ha eh
        cases hP _ _ hp with
        | cons st gd =>
          rename_i kvs'
          refine ⟨F, U, μ, h.set k (.dct kvs), _, l.retell fun a' ha' => ?_, rx, ?_⟩
          · rw [ha] at ha'; cases ha'
            exact ⟨hU, vs', hH, hr'⟩
          · rw [st _ k (List.getElem?_set_self hk), List.set_set]
            intro b F' U' μ' H' g p l2 r2
            refine o b F' U' μ' H' g p ?_ r2
            have l3 := l2.retell (k := k) (x' := .fed os qs) fun a' ha' => by
              obtain ⟨z1, z2, z3, z4⟩ := l2.obj k a' _ ha' (List.getElem?_set_self hk)
              exact ⟨z1, z2, kvs', z3, z4, os2, ho2, hP' _ _ gd⟩
            rw [List.set_set] at l3
            exact l3
      · exact o.elim
    · rename_i q' qs eh
      split at o
      · rename_i hq
        subst hq
        have hk : k < h.length := (List.getElem?_eq_some_iff.mp eh).1
        have hx : ∃ a, μ[k]? = some a := ⟨_, List.getElem?_eq_getElem (by rw [l.len]; exact hk)⟩
        obtain ⟨a, ha⟩ := hx
        obtain ⟨hU, vs', kvs, hH, hr', os2, ho2, hp⟩ := l.obj k a _ ha eh
        obtain ⟨nn, hnn, hos⟩ := List.mem_flatMap.mp ho2
        obtain ⟨os3, ho3, rfl⟩ := List.mem_map.mp hos
        cases hP _ _ hp with
        | cons st gd =>
          rename_i kvs'
          refine ⟨F, U, μ, h.set k (.dct kvs), _, l.retell fun a' ha' => ?_, rx, ?_⟩
          · rw [ha] at ha'; cases ha'
            exact ⟨hU, vs', hH, hr'⟩
          · rw [st _ k (List.getElem?_set_self hk), List.set_set]
            intro b F' U' μ' H' g p l2 r2
            cases r2
            refine o _ F' U' μ' H' g p ?_ ⟨Int.ofNat nn, rfl, Int.natCast_nonneg nn, by have := List.mem_range.mp hnn; show (nn : Int) < q; omega⟩
            have l3 := l2.retell (k := k) (x' := .fed [] qs) fun a' ha' => by
              obtain ⟨z1, z2, z3, z4⟩ := l2.obj k a' _ ha' (List.getElem?_set_self hk)
              exact ⟨z1, z2, kvs', z3, z4, os3, ho3, hP' _ _ gd⟩
            rw [List.set_set] at l3
            exact l3
      · exact o.elim
    · exact o.elim
  · exact o.elim
theorem FnV.feed {ns : List Int} {os : List (Int × Int)} {kvs : List (PD × PD)} (V : FnV P w K mg base C k f fd ps m) (hm : ∀ h, m [.scr ns] h = .ok (.obj h.length) (h ++ [.dct kvs])) (hP : Fed.P kvs os) : FnV P w K mg base C k f fd ps (mFeed ns os) := by
  refine ⟨fun A outer s H args us vs Q E hr hg e0 hb hul r hsp => V.run A outer s H args us vs Q E hr hg e0 hb hul r ?_⟩
  obtain ⟨F, U, μ, h, xs, l, rx, o⟩ := hsp
  unfold mFeed at o
  split at o
  · split at o
    · rename_i hms
      subst hms
      refine ⟨F, U, μ, h, _, l, rx, ?_⟩
      rw [hm]
      intro b F' U' μ' H' g p l2 r2
      refine o b F' U' μ' H' g p ?_ r2
      have l3 := l2.retell (k := h.length) (x' := .fed os []) fun a' ha' => by
        obtain ⟨z1, z2, z3, z4⟩ := l2.obj _ a' _ ha' (by rw [List.getElem?_append_right (Nat.le_refl _)]; simp; rfl)
        exact ⟨z1, z2, kvs, z3, z4, [], List.mem_singleton.mpr rfl, by rw [List.append_nil]; exact hP⟩
      rw [List.set_append_right _ _ (Nat.le_refl _)] at l3
      simpa using l3
    · exact o.elim
  · exact o.elim
theorem FnV.feedU {ns : List Int} {qs : List Int} {kvs : List (PD × PD)} (V : FnV P w K mg base C k f fd ps m) (hm : ∀ h, m [.scr ns] h = .ok (.obj h.length) (h ++ [.dct kvs])) (hP : ∃ os ∈ combos qs, Fed.P kvs os) : FnV P w K mg base C k f fd ps (mFeedU ns qs) := by
  refine ⟨fun A outer s H args us vs Q E hr hg e0 hb hul r hsp => V.run A outer s H args us vs Q E hr hg e0 hb hul r ?_⟩
  obtain ⟨F, U, μ, h, xs, l, rx, o⟩ := hsp
  unfold mFeedU at o
  split at o
  · split at o
    · rename_i hms
      subst hms
      refine ⟨F, U, μ, h, _, l, rx, ?_⟩
      rw [hm]
      intro b F' U' μ' H' g p l2 r2
      refine o b F' U' μ' H' g p ?_ r2
      have l3 := l2.retell (k := h.length) (x' := .fed [] qs) fun a' ha' => by
        obtain ⟨z1, z2, z3, z4⟩ := l2.obj _ a' _ ha' (by rw [List.getElem?_append_right (Nat.le_refl _)]; simp; rfl)
        exact ⟨z1, z2, kvs, z3, z4, hP⟩
      rw [List.set_append_right _ _ (Nat.le_refl _)] at l3
      simpa using l3
    · exact o.elim
  · exact o.elim
end
theorem draws_ex {m : Fm} {Good : List (PD × PD) → Nat → Prop} (hd : ∀ kvs b q, Good kvs (b + 1) → 1 ≤ q → q ≤ 1000000 → ∃ n kvs', Step m kvs q n kvs' ∧ 0 ≤ n ∧ n < q ∧ Good kvs' b) :
    ∀ (qs : List Int) (kvs : List (PD × PD)), (qs.all fun q => decide (1 ≤ q) && decide (q ≤ 1000000)) = true → Good kvs qs.length → ∃ os ∈ combos qs, GD m kvs os
  | [], kvs, _, _ => ⟨[], by simp [combos], .nil _⟩
  | q :: qs, kvs, h, g => by
    simp only [List.all_cons, Bool.and_eq_true, decide_eq_true_eq] at h
    obtain ⟨n, kvs', st, h1, h2, g'⟩ := hd kvs qs.length q g h.1.1 h.1.2
    obtain ⟨os, ho, gd⟩ := draws_ex hd qs kvs' (by simpa using h.2) g'
    refine ⟨(q, n) :: os, ?_, .cons st gd⟩
    unfold combos
    refine List.mem_flatMap.mpr ⟨n.toNat, List.mem_range.mpr (by omega), List.mem_map.mpr ⟨os, ho, ?_⟩⟩
    rw [show Int.ofNat n.toNat = n from Int.toNat_of_nonneg h1]
def isTrue : Res Sl → Bool
  | .ok (.dat (.bool true)) _ => true
  | _ => false
theorem isTrue_ok {r : Res Sl} (h : isTrue r = true) : ∃ h', r = .ok (.dat (.bool true)) h' := by
  unfold isTrue at h
  split at h
  · exact ⟨_, rfl⟩
  · cases h
end Pv

/-! Pv, part L: tuple(range), list(range), chains, three at once. -/
namespace Pv
open PySem PySem.Spec PyProof.Rows L2

theorem rgOk_iff {a b : Int} (h : decide (-(2 ^ 62) ≤ a ∧ a < 2 ^ 62 ∧ -(2 ^ 62) ≤ b ∧ b < 2 ^ 62 ∧ (b - a).toNat ≤ 2 ^ 24) = true) : RgOk a b := by
  have z := of_decide_eq_true h
  exact z
def rgOk (a b : Int) : Bool := decide (-(2 ^ 62) ≤ a ∧ a < 2 ^ 62 ∧ -(2 ^ 62) ≤ b ∧ b < 2 ^ 62 ∧ (b - a).toNat ≤ 2 ^ 24)
def gTupRg (a b : Int) (h : AH) : Res Sl := if rgOk a b then .ok (.dat (.tuple (rngD a (b - a).toNat))) h else .no
def gLstRg (ob : Bool) (a b : Int) (h : AH) : Res Sl := if rgOk a b then (if ob then .ok (.obj h.length) (h ++ [.lst (rngD a (b - a).toNat)]) else .ok (.dat (.list (rngD a (b - a).toNat))) h) else .no
def cRg1 (g : Int → Int → AH → Res Sl) (ta : Ex) : Ex := fun env h => (ta env h).bind fun x h1 => match x with
  | .dat (.int n) => g 0 n h1
  | _ => .no
def cRg2 (g : Int → Int → AH → Res Sl) (ta tb : Ex) : Ex := fun env h => (ta env h).bind fun x h1 => (tb env h1).bind fun y h2 => match x, y with
  | .dat (.int i), .dat (.int j) => g i j h2
  | _, _ => .no
theorem rds_rg {K : PySem.W.Frag} {F : Hp} {a b : Int} : RDs K F (rgV a b) (rngD a (b - a).toNat) := by
  unfold rgV rngD
  generalize List.range (b - a).toNat = l
  induction l with
  | nil => exact .nil
  | cons x l ih => exact .cons (.int _) ih
section
variable [Fed] {C : Cn} {Wx : XK} {X : Cx} {a b c e : Expr} {ta tb tc : Ex} {p q pos pos' : Pos}
theorem se_tupRg1 (hg : Gl X "tuple") (hm : X.mg "tuple" = none) (hg2 : Gl X "range") (hm2 : X.mg "range" = none) (ha : SE C Wx X a ta) (hc : X.calm = true := by rfl) (na : starEach [a] X.env = (false, eval a X.env) :: starEach [] X.env := by rfl)
    (nb : starEach [.Call (.Name "range" q) [a] [] pos'] X.env = (false, eval (.Call (.Name "range" q) [a] [] pos') X.env) :: starEach [] X.env := by rfl) : SE C Wx X (.Call (.Name "tuple" p) [.Call (.Name "range" q) [a] [] pos'] [] pos) (cRg1 gTupRg ta) :=
  ⟨pe_imp (pe_tupRg hc hg hm (prg_1 hg2 hm2 ha.pe na) nb) fun σ H Q z => by
    obtain ⟨F, U, μ, env, h, l, ev, o⟩ := z
    refine rd_step l ev o fun x vx F1 U1 μ1 H1 h1 g1 p1 l1 r1 e1 o1 => ?_
    split at o1
    · cases r1
      unfold gTupRg at o1
      split at o1
      · rename_i hz
        exact ⟨_, rfl, rgOk_iff hz, fun p hp => o1.newT l1 rds_rg hp⟩
      · exact o1.elim
    · exact o1.elim⟩
theorem se_tupRg2 (hg : Gl X "tuple") (hm : X.mg "tuple" = none) (hg2 : Gl X "range") (hm2 : X.mg "range" = none) (ha : SE C Wx X a ta) (hb : SE C Wx X b tb) (hc : X.calm = true := by rfl) (na : starEach [a, b] X.env = (false, eval a X.env) :: starEach [b] X.env := by rfl)
    (nb' : starEach [b] X.env = (false, eval b X.env) :: starEach [] X.env := by rfl) (hp : (backTo pos' (starEach [b] X.env)).any (·.1) = false := by rfl)
    (nb : starEach [.Call (.Name "range" q) [a, b] [] pos'] X.env = (false, eval (.Call (.Name "range" q) [a, b] [] pos') X.env) :: starEach [] X.env := by rfl) : SE C Wx X (.Call (.Name "tuple" p) [.Call (.Name "range" q) [a, b] [] pos'] [] pos) (cRg2 gTupRg ta tb) :=
  ⟨pe_imp (pe_tupRg hc hg hm (prg_2 hg2 hm2 ha.pe hb.pe na nb' hp) nb) fun σ H Q z => by
    obtain ⟨F, U, μ, env, h, l, ev, o⟩ := z
    refine rd_step l ev o fun x vx F1 U1 μ1 H1 h1 g1 p1 l1 r1 e1 o1 => ?_
    refine rd_step l1 e1 o1 fun y vy F2 U2 μ2 H2 h2 g2 p2 l2 r2 e2 o2 => ?_
    split at o2
    · cases r1
      cases r2
      unfold gTupRg at o2
      split at o2
      · rename_i hz
        exact ⟨_, _, rfl, rfl, rgOk_iff hz, fun p hp => o2.newT l2 rds_rg hp⟩
      · exact o2.elim
    · exact o2.elim⟩
theorem out_lstRg {ob : Bool} {F U H : Hp} {μ : List Addr} {h : AH} {Q : VK} {i j : Int} (l : Lk C.K F U μ H h) (o : Out C F U μ Wx (rSl C.K) Q (gLstRg ob i j h)) : RgOk i j ∧ ∀ q, H q = none → Q (.ref q) (upd H q (.lst (rgV i j))) := by
  unfold gLstRg at o
  split at o
  · rename_i hz
    refine ⟨rgOk_iff hz, fun p hp => ?_⟩
    cases ob with
    | true => exact Out.newO (by simpa using o) l rds_rg hp
    | false => exact Out.newL (by simpa using o) l rds_rg hp
  · exact o.elim
theorem se_lstRg1 (ob : Bool) (hg : Gl X "list") (hm : X.mg "list" = none) (hg2 : Gl X "range") (hm2 : X.mg "range" = none) (ha : SE C Wx X a ta) (hc : X.calm = true := by rfl) (na : starEach [a] X.env = (false, eval a X.env) :: starEach [] X.env := by rfl)
    (nb : starEach [.Call (.Name "range" q) [a] [] pos'] X.env = (false, eval (.Call (.Name "range" q) [a] [] pos') X.env) :: starEach [] X.env := by rfl) : SE C Wx X (.Call (.Name "list" p) [.Call (.Name "range" q) [a] [] pos'] [] pos) (cRg1 (gLstRg ob) ta) :=
  ⟨pe_imp (pe_listRg hc hg hm (prg_1 hg2 hm2 ha.pe na) nb) fun σ H Q z => by
    obtain ⟨F, U, μ, env, h, l, ev, o⟩ := z
    refine rd_step l ev o fun x vx F1 U1 μ1 H1 h1 g1 p1 l1 r1 e1 o1 => ?_
    split at o1
    · cases r1
      exact ⟨_, rfl, out_lstRg l1 o1⟩
    · exact o1.elim⟩
theorem se_lstRg2 (ob : Bool) (hg : Gl X "list") (hm : X.mg "list" = none) (hg2 : Gl X "range") (hm2 : X.mg "range" = none) (ha : SE C Wx X a ta) (hb : SE C Wx X b tb) (hc : X.calm = true := by rfl) (na : starEach [a, b] X.env = (false, eval a X.env) :: starEach [b] X.env := by rfl)
    (nb' : starEach [b] X.env = (false, eval b X.env) :: starEach [] X.env := by rfl) (hp : (backTo pos' (starEach [b] X.env)).any (·.1) = false := by rfl)
    (nb : starEach [.Call (.Name "range" q) [a, b] [] pos'] X.env = (false, eval (.Call (.Name "range" q) [a, b] [] pos') X.env) :: starEach [] X.env := by rfl) : SE C Wx X (.Call (.Name "list" p) [.Call (.Name "range" q) [a, b] [] pos'] [] pos) (cRg2 (gLstRg ob) ta tb) :=
  ⟨pe_imp (pe_listRg hc hg hm (prg_2 hg2 hm2 ha.pe hb.pe na nb' hp) nb) fun σ H Q z => by
    obtain ⟨F, U, μ, env, h, l, ev, o⟩ := z
    refine rd_step l ev o fun x vx F1 U1 μ1 H1 h1 g1 p1 l1 r1 e1 o1 => ?_
    refine rd_step l1 e1 o1 fun y vy F2 U2 μ2 H2 h2 g2 p2 l2 r2 e2 o2 => ?_
    split at o2
    · cases r1
      cases r2
      exact ⟨_, _, rfl, rfl, out_lstRg l2 o2⟩
    · exact o2.elim⟩
/-! ### chains -/
theorem rd_chain {r r' : R2} {g g' : G2} (hg : OpD C.K r g) (hg' : OpD C.K r' g') {σ : L2.St} {H : Hp} {Q : VK} (q : rdE C Wx (cChain g g' ta tb tc) σ H Q) : tChain r r' (rdE C Wx ta) (rdE C Wx tb) (rdE C Wx tc) σ H Q := by
  obtain ⟨F, U, μ, env, h, l, ev, o⟩ := q
  refine rd_step l ev o fun x vx F1 U1 μ1 H1 h1 g1 p1 l1 r1 e1 o1 => ?_
  refine rd_step l1 e1 o1 fun y vy F2 U2 μ2 H2 h2 g2 p2 l2 r2 e2 o2 => ?_
  refine hg C rfl F2 U2 μ2 H2 h2 Wx vx vy x y _ l2 (r1.mono g2.f p2) r2 (o2.bind fun z vz F3 U3 μ3 H3 h3 g3 p3 l3 r3 o3 => ?_)
  split at o3
  · cases r3
    refine ⟨true, rfl, ?_⟩
    rw [if_pos rfl]
    exact rd_step l3 ((e2.mono g3.f p3)) o3 fun w vw F4 U4 μ4 H4 h4 g4 p4 l4 r4 e4 o4 => hg' C rfl F4 U4 μ4 H4 h4 Wx vy vw y w _ l4 ((r2.mono g3.f p3).mono g4.f p4) r4 o4
  · cases r3
    refine ⟨false, rfl, ?_⟩
    rw [if_neg Bool.false_ne_true]
    exact o3.here l3 (RD.bl false)
  · exact o3.elim
theorem se_chain {op op' : CmpOp} {r r' : R2} {g g' : G2} (ho : OpR X (compareOp op) r) (hg : OpD C.K r g) (ho' : OpR X (compareOp op') r') (hg' : OpD C.K r' g') (ha : SE C Wx X a ta) (hb : SE C Wx X b tb) (hc : SE C Wx X c tc)
    (hm : lastMarks [op, op'] [b, c] = false := by with_unfolding_all rfl) : SE C Wx X (.Compare a [op, op'] [b, c] pos) (cChain g g' ta tb tc) := ⟨pe_imp (pe_chain ho ho' ha.pe hb.pe hc.pe hm) fun _ _ _ => rd_chain hg hg'⟩
theorem st_chain {op op' : CmpOp} {r r' : R2} {g g' : G2} (ho : OpR X (compareOp op) r) (hg : OpD C.K r g) (ho' : OpR X (compareOp op') r') (hg' : OpD C.K r' g') (ha : SE C Wx X a ta) (hb : SE C Wx X b tb) (hc : SE C Wx X c tc)
    (hm : lastMarks [op, op'] [b, c] = false := by with_unfolding_all rfl) : STt C Wx X (.Compare a [op, op'] [b, c] pos) (uVal (cChain g g' ta tb tc)) := ⟨pt_imp (pt_chain ho ho' ha.pe hb.pe hc.pe hm) fun σ H Q q => by
  obtain ⟨F, U, μ, env, h, l, ev, o⟩ := q
  refine rd_chain hg hg' ⟨F, U, μ, env, h, l, ev, o.bind fun x v F1 U1 μ1 H1 h1 g1 p1 l1 r1 o1 => ?_⟩
  split at o1
  · cases r1
    exact ⟨_, rfl, o1.hereB l1⟩
  · exact o1.elim⟩
end
/-! ### three at once -/
def sPar3 (i j l : Nat) (ta : Ax) : Sx := fun env h => (ta env h).bind fun xs h1 => match xs with
  | [x, y, z] => .ok (.nx (((env.set i (some x)).set j (some y)).set l (some z))) h1
  | _ => .no
section
variable [Fed] {C : Cn} {Wx : XK} {X : Cx} {tr : Ax} {pos : Pos}
theorem ss_par3 (i j l : Nat) {x y z : Str} {a b c : Expr} {px py pz pt : Pos} {kt k2 pt2} (hN : X.N.Nodup) (hi : X.N[i]? = some x) (hj : X.N[j]? = some y) (hl : X.N[l]? = some z) (hij : i ≠ j) (hil : i ≠ l) (hjl : j ≠ l)
    (ha : SA C Wx X [a, b, c] tr) (hc : X.calm = true := by rfl) (hx : X.env.scope.names.lookup x = some .local := by rfl) (hy : X.env.scope.names.lookup y = some .local := by rfl) (hz : X.env.scope.names.lookup z = some .local := by rfl)
    (hw : swappedStores [.Tuple [.Name x px, .Name y py, .Name z pz] kt pt] (.Tuple [a, b, c] k2 pt2) X.env = pure (some [x, y, z]) := by rfl)
    (hs : swapsWithSole [.Tuple [.Name x px, .Name y py, .Name z pz] kt pt] (.Tuple [a, b, c] k2 pt2) pos.line X.env = pure false := by rfl) :
    SS C Wx X (.Assign [.Tuple [.Name x px, .Name y py, .Name z pz] kt pt] (.Tuple [a, b, c] k2 pt2) pos) (sPar3 i j l tr) := ⟨ps_imp (ps_par3 hc hN hi hj hl hij hil hjl hx hy hz ha.pa hw hs) fun D σ H q => by
  obtain ⟨F, U, μ, env, h, l, ev, o⟩ := q
  refine rd_step l ev o fun xs vs F1 U1 μ1 H1 h1 g1 p1 l1 r1 e1 o1 => ?_
  split at o1
  · cases r1 with
    | cons ra rr =>
      obtain ⟨v, w, rfl, rv, rw'⟩ := slRs2 rr
      exact ⟨_, v, w, rfl, o1.nxt l1 (((e1.set ra).set rv).set rw')⟩
  · exact o1.elim⟩
end
end Pv

/-! Pv, part M: a run of an evaluator, step by step (for the dict of draws). -/
namespace Pv
open PySem PySem.Spec PyProof.Rows L2

def Wp {α : Type} (r : Res α) (Q : α → AH → Prop) : Prop := match r with
  | .ok a h => Q a h
  | _ => False
section
variable {α β : Type} {Q : α → AH → Prop} {env : Ev} {h : AH} {ta tb tv : Ex} {k i : Nat} {kvs kvs2 : List (PD × PD)} {x : Str} {d : PD}
theorem wp_bind {r : Res β} {f : β → AH → Res α} (q : Wp r fun a h => Wp (f a h) Q) : Wp (r.bind f) Q := by
  cases r with
  | ok a h => exact q
  | exc c fs h => exact q.elim
  | no => exact q.elim
theorem wp_mono {r : Res α} {Q' : α → AH → Prop} (q : Wp r Q') (i : ∀ a h, Q' a h → Q a h) : Wp r Q := by
  cases r with
  | ok a h => exact i _ _ q
  | exc c fs h => exact q.elim
  | no => exact q.elim
variable {Q : Sl → AH → Prop}
theorem wp_dat (q : Q (.dat d) h) : Wp (cDat d env h) Q := q
theorem wp_var {x : Sl} (e : nth env i = some (some x)) (q : Q x h) : Wp (cVar i env h) Q := by unfold cVar; rw [e]; exact q
/-- ints alone, the heap left -/
structure EvI (t : Ex) (env : Ev) (h : AH) (n : Int) : Prop where e : t env h = .ok (.dat (.int n)) h
structure EvB (t : Ex) (env : Ev) (h : AH) (b : Bool) : Prop where e : t env h = .ok (.dat (.bool b)) h
structure EvL (t : Ex) (env : Ev) (h : AH) (cs : List Int) : Prop where e : t env h = .ok (.dat (.list (cs.map PyData.int))) h
structure EvT (t : Tx) (env : Ev) (h : AH) (b : Bool) : Prop where e : t env h = .ok b h
theorem ei_dat {n : Int} : EvI (cDat (.int n)) env h n := ⟨rfl⟩
theorem ei_var {n : Int} (e : nth env i = some (some (.dat (.int n))) := by rfl) : EvI (cVar i) env h n := ⟨by unfold cVar; rw [e]⟩
theorem el_var {cs : List Int} (e : nth env i = some (some (.dat (.list (cs.map PyData.int)))) := by rfl) : EvL (cVar i) env h cs := ⟨by unfold cVar; rw [e]⟩
theorem el_nil : EvL (cLst false aNil) env h [] := ⟨by simp [cLst, aNil, dats, Res.bind]⟩
theorem get_at (hl : k < h.length) (e : lookP kvs (.str x) = some d) (hi : nth env i = some (some (.obj k))) : cGet (cVar i) (cDat (.str x)) env (h.set k (.dct kvs)) = .ok (.dat d) (h.set k (.dct kvs)) := by
  have ev : vwD (.obj k) (h.set k (.dct kvs)) = some kvs := by
    unfold vwD vw
    dsimp only
    rw [List.getElem?_set_self hl]
  simp [cGet, cVar, cDat, hi, Res.bind, toKey, ev, keyD, e]
theorem ei_get {n : Int} (hl : k < h.length) (e : lookP kvs (.str x) = some (.int n)) (hi : nth env i = some (some (.obj k)) := by rfl) : EvI (cGet (cVar i) (cDat (.str x))) env (h.set k (.dct kvs)) n := ⟨get_at hl e hi⟩
theorem el_get {cs : List Int} (hl : k < h.length) (e : lookP kvs (.str x) = some (.list (cs.map PyData.int))) (hi : nth env i = some (some (.obj k)) := by rfl) : EvL (cGet (cVar i) (cDat (.str x))) env (h.set k (.dct kvs)) cs := ⟨get_at hl e hi⟩
variable {m n : Int}
theorem ei_add {ob : Bool} (a : EvI ta env h m) (b : EvI tb env h n) : EvI (cBin (gAdd ob) ta tb) env h (m + n) := ⟨by unfold cBin; rw [a.e]; show (tb env h).bind _ = _; rw [b.e]; rfl⟩
theorem ei_mul {ob : Bool} (a : EvI ta env h m) (b : EvI tb env h n) (c : m.natAbs.log2 + n.natAbs.log2 < 1000000) : EvI (cBin (gMul ob) ta tb) env h (m * n) := ⟨by
  unfold cBin; rw [a.e]; show (tb env h).bind _ = _; rw [b.e]
  show (if decide (m.natAbs.log2 + n.natAbs.log2 < 1000000) = true then Res.ok (Sl.dat (.int (m * n))) h else .no) = _
  rw [if_pos (decide_eq_true c)]⟩
theorem ei_mod (a : EvI ta env h m) (b : EvI tb env h n) (c : n ≠ 0) : EvI (cBin gMod ta tb) env h (m.fmod n) := ⟨by
  unfold cBin; rw [a.e]; show (tb env h).bind _ = _; rw [b.e]
  show (if decide (n ≠ 0) = true then Res.ok (Sl.dat (.int (m.fmod n))) h else .no) = _
  rw [if_pos (decide_eq_true c)]⟩
theorem log_small (h0 : 0 < n) (h1 : n ≤ 1000000) : n.natAbs.log2 < 9000 := by
  have h2 : n.natAbs < 2 ^ 9000 := Nat.lt_of_le_of_lt (show n.natAbs ≤ 1000000 by omega) (by decide +kernel)
  exact (Nat.log2_lt (by omega)).mpr h2
theorem ei_div (a : EvI ta env h m) (b : EvI tb env h n) (c : 0 < n) (c2 : n ≤ 1000000) : EvI (cBin gDiv ta tb) env h (m / n) := ⟨by
  unfold cBin; rw [a.e]; show (tb env h).bind _ = _; rw [b.e]
  show (if (decide (0 < n) && decide (n.natAbs.log2 < 9000)) = true then Res.ok (Sl.dat (.int (m / n))) h else .no) = _
  rw [if_pos (by rw [decide_eq_true c, decide_eq_true (log_small c c2)]; rfl)]⟩
theorem ei_big : EvI (cBin gPow (cDat (.int 10)) (cDat (.int 18))) env h (10 ^ 18) := ⟨by kernel_rfl⟩
theorem ei_int (a : EvI ta env h m) : EvI (cCall gInt (aCons ta aNil)) env h m := ⟨by
  unfold cCall aCons; rw [a.e]; rfl⟩
theorem ei_len {cs : List Int} (a : EvL ta env h cs) (c : cs.length ≤ 63) : EvI (cCall gLen (aCons ta aNil)) env h cs.length := ⟨by
  unfold cCall aCons
  rw [a.e]
  show gLen [.dat (.list (cs.map PyData.int))] h = _
  unfold gLen
  simp [vw]⟩
theorem eb_gt (a : EvI ta env h m) (b : EvI tb env h n) : EvB (cBin gGt ta tb) env h (decide (n < m)) := ⟨by unfold cBin; rw [a.e]; show (tb env h).bind _ = _; rw [b.e]; rfl⟩
theorem eb_ge (a : EvI ta env h m) (b : EvI tb env h n) : EvB (cBin gGe ta tb) env h (decide (n ≤ m)) := ⟨by unfold cBin; rw [a.e]; show (tb env h).bind _ = _; rw [b.e]; rfl⟩
theorem eb_lt (a : EvI ta env h m) (b : EvI tb env h n) : EvB (cBin gLt ta tb) env h (decide (m < n)) := ⟨by unfold cBin; rw [a.e]; show (tb env h).bind _ = _; rw [b.e]; rfl⟩
theorem okFs_ints (n : Nat) : ∀ cs : List Int, okFs n (cs.map PyData.int) = true
  | [] => rfl
  | c :: cs => by simp [okFs, okF, okFs_ints n cs]
theorem shaped_ints (cs : List Int) : shp (.list (cs.map PyData.int)) = true := by
  unfold shp
  simp [okF, okFs_ints]
theorem eb_ne {cs : List Int} (a : EvL ta env h cs) : EvB (cBin gNeA ta (cLst false aNil)) env h (!cs.isEmpty) := ⟨by
  have z : gNe (.dat (.list (cs.map PyData.int))) (.dat (.list [])) h = .ok (.dat (.bool (!cs.isEmpty))) h := by
    unfold gNe
    simp only [vw]
    rw [show shp (.list []) = true from shaped_ints [], shaped_ints cs]
    cases cs <;> simp [eqvF, eqvFs]
  have e2 := (el_nil (env := env) (h := h)).e
  simp only [List.map_nil] at e2
  have z2 : gNeA (.dat (.list (cs.map PyData.int))) (.dat (.list [])) h = .ok (.dat (.bool (!cs.isEmpty))) h := z
  simp [cBin, a.e, e2, Res.bind, z2]⟩
theorem fmod_at {cs : List Int} (h0 : 0 ≤ n) (hc : cs ≠ []) : ∃ c, L2.atI (cs.map PyData.int) (n.fmod cs.length) = some (.int c) := by
  have hl : (0 : Int) < cs.length := by
    have := List.length_pos_iff.mpr hc
    omega
  have e1 : 0 ≤ n.fmod cs.length := Int.fmod_nonneg_of_pos n hl
  have e2 : n.fmod cs.length < cs.length := Int.fmod_lt_of_pos n hl
  generalize n.fmod cs.length = z at e1 e2
  have hz : z.toNat < cs.length := by omega
  refine ⟨cs[z.toNat], ?_⟩
  unfold L2.atI ixN
  rw [List.length_map, if_pos e1, if_pos e2]
  show (cs.map PyData.int)[z.toNat]? = _
  rw [List.getElem?_map, List.getElem?_eq_getElem hz]
  rfl
theorem ei_ix {cs : List Int} {c : Int} (a : EvL ta env h cs) (b : EvI tb env h n) (e : L2.atI (cs.map PyData.int) n = some (.int c)) : EvI (cBin gIx ta tb) env h c := ⟨by
  unfold cBin; rw [a.e]; show (tb env h).bind _ = _; rw [b.e]
  show gIx (.dat (.list (cs.map PyData.int))) (.dat (.int n)) h = _
  unfold gIx
  simp only [vw, seqOf]
  rw [e]⟩
variable {b : Bool} {u u2 : Tx}
theorem et_val (a : EvB ta env h b) : EvT (uVal ta) env h b := ⟨by unfold uVal; rw [a.e]; rfl⟩
theorem et_and {b2 : Bool} (a : EvT u env h b) (a2 : EvT u2 env h b2) : EvT (uAnd u u2) env h (b && b2) := ⟨by
  unfold uAnd
  rw [a.e]
  cases b with
  | true => show u2 env h = _; rw [a2.e]; rfl
  | false => rfl⟩
theorem ei_if_t (c : EvT u env h true) (a : EvI ta env h m) : EvI (cIf u ta tb) env h m := ⟨by unfold cIf; rw [c.e]; exact a.e⟩
theorem ei_if_f (c : EvT u env h false) (a : EvI tb env h m) : EvI (cIf u ta tb) env h m := ⟨by unfold cIf; rw [c.e]; exact a.e⟩
/-! statements: where one stands -/
structure EvS (t : Sx) (env : Ev) (h : AH) (n : Int) (h' : AH) : Prop where e : t env h = .ok (.rt (.dat (.int n))) h'
variable {t f : Sx} {h' : AH}
theorem es_ret (a : EvI ta env h m) : EvS (sRet ta) env h m h := ⟨by unfold sRet; rw [a.e]; rfl⟩
theorem es_set (a : EvI ta env h m) (r : EvS f (env.set i (some (.dat (.int m)))) h n h') : EvS (sSeq (sSet i ta) f) env h n h' := ⟨by unfold sSeq sSet; rw [a.e]; exact r.e⟩
theorem es_setL {cs : List Int} (a : EvL ta env h cs) (r : EvS f (env.set i (some (.dat (.list (cs.map PyData.int))))) h n h') : EvS (sSeq (sSet i ta) f) env h n h' := ⟨by unfold sSeq sSet; rw [a.e]; exact r.e⟩
theorem es_par {j : Nat} {cs : List Int} (a : EvI ta env h m) (b : EvL tb env h cs) (r : EvS f ((env.set i (some (.dat (.int m)))).set j (some (.dat (.list (cs.map PyData.int))))) h n h') : EvS (sSeq (sPar i j (aCons ta (aCons tb aNil))) f) env h n h' := ⟨by
  unfold sSeq sPar aCons
  rw [a.e]
  show Res.bind (Res.bind (Res.bind ((tb env h).bind _) _) _) _ = _
  rw [b.e]
  exact r.e⟩
theorem es_par' {j : Nat} {cs : List Int} (a : EvL ta env h cs) (b : EvI tb env h m) (r : EvS f ((env.set i (some (.dat (.list (cs.map PyData.int))))).set j (some (.dat (.int m)))) h n h') : EvS (sSeq (sPar i j (aCons ta (aCons tb aNil))) f) env h n h' := ⟨by
  unfold sSeq sPar aCons
  rw [a.e]
  show Res.bind (Res.bind (Res.bind ((tb env h).bind _) _) _) _ = _
  rw [b.e]
  exact r.e⟩
theorem es_put (hl : k < h.length) (a : EvI tv env (h.set k (.dct kvs)) m) (e : putP kvs (.str x) (.int m) = kvs2) (c : kvs.length < sizeLine) (r : EvS f env (h.set k (.dct kvs2)) n h') (hi : nth env i = some (some (.obj k)) := by rfl) :
    EvS (sSeq (sPut (cVar i) (cDat (.str x)) tv) f) env (h.set k (.dct kvs)) n h' := ⟨by
  have ep : sPut (cVar i) (cDat (.str x)) tv env (h.set k (.dct kvs)) = .ok (.nx env) (h.set k (.dct kvs2)) := by
    unfold sPut cVar
    rw [a.e, hi]
    show (match (h.set k (.dct kvs))[k]?, toKey (.str x) with
      | some (.dct kvs'), some k' => if kvs'.length < sizeLine then Res.ok (Fl.nx env) ((h.set k (.dct kvs)).set k (.dct (putP kvs' (keyD k') (.int m)))) else .no
      | _, _ => .no) = _
    rw [List.getElem?_set_self hl]
    show (if kvs.length < sizeLine then Res.ok (Fl.nx env) ((h.set k (.dct kvs)).set k (.dct (putP kvs (.str x) (.int m)))) else .no) = _
    rw [if_pos c, e, List.set_set]
  unfold sSeq
  rw [ep]
  exact r.e⟩
theorem es_ift {a b : Sx} (c : EvT u env h true) (r : EvS a env h n h') : EvS (sSeq (sIf u a b) f) env h n h' := ⟨by unfold sSeq sIf; rw [c.e]; show Res.bind (a env h) _ = _; rw [r.e]; rfl⟩
theorem es_iff {a : Sx} (c : EvT u env h false) (r : EvS f env h n h') : EvS (sSeq (sIf u a sPass) f) env h n h' := ⟨by unfold sSeq sIf; rw [c.e]; exact r.e⟩
theorem EvT.to {b' : Bool} (a : EvT u env h b) (e : b = b') : EvT u env h b' := e ▸ a
theorem step_of {nN : Nat} {q : Int} {kvs2 : List (PD × PD)} (he : ∀ (h : AH) (k : Nat), k < h.length → EvS t (some (.obj k) :: some (.dat (.int q)) :: nones (nN - 2)) (h.set k (.dct kvs)) n (h.set k (.dct kvs2))) : Step (mFn false (nN - 2) t) kvs q n kvs2 := by
  intro h k hk
  have hl := (List.getElem?_eq_some_iff.mp hk).1
  have e1 : h.set k (.dct kvs) = h := by
    have := (List.getElem?_eq_some_iff.mp hk).2
    rw [← this]
    exact List.set_getElem_self hl
  have z := (he h k hl).e
  rw [e1] at z
  show (t (some (.obj k) :: some (.dat (.int q)) :: nones (nN - 2)) h).bind _ = _
  rw [z]
  rfl
/-- sizes -/
theorem fmod_range {m n : Int} (h : 0 < n) : 0 ≤ m.fmod n ∧ m.fmod n < n := ⟨Int.fmod_nonneg_of_pos m h, Int.fmod_lt_of_pos m h⟩
theorem log_lt {m : Int} {b : Nat} (h : m.natAbs < 2 ^ b) (hb : 0 < b) : m.natAbs.log2 < b := by
  by_cases z : m.natAbs = 0
  · rw [z]; exact hb
  · exact (Nat.log2_lt z).mpr h
theorem mulOk {m n : Int} (h1 : m.natAbs < 2 ^ 40) (h2 : n.natAbs < 2 ^ 40) : m.natAbs.log2 + n.natAbs.log2 < 1000000 := by
  have a := log_lt h1 (by decide)
  have b := log_lt h2 (by decide)
  omega
theorem small_fmod {m n : Int} (h : 0 < n) (h2 : n ≤ 1000000000000) : (m.fmod n).natAbs < 2 ^ 40 := by
  have := fmod_range (m := m) h
  omega
/-- [int(x) for x in ints] -/
theorem lc_ints {i : Nat} {vs : List Nat} {tt : Tx} {env : Ev} (htt : ∀ env h, tt env h = .ok true h) (hi : ∀ n : Int, nth ((wipeE env vs).set i (some (.dat (.int n)))) i = some (some (.dat (.int n)))) : ∀ (cs acc : List Int) (h : AH), acc.length + cs.length ≤ 1000 →
    lcL (.nm i) tt (cCall gInt (aCons (cVar i) aNil)) vs (cs.map PyData.int) (acc.map PyData.int) env h = .ok (.dat (.list ((acc ++ cs).map PyData.int))) h
  | [], acc, h, _ => by rw [List.append_nil]; rfl
  | c :: cs, acc, h, hz => by
    have e : (cCall gInt (aCons (cVar i) aNil)) ((wipeE env vs).set i (some (.dat (.int c)))) h = .ok (.dat (.int c)) h := (ei_int (ei_var (hi c))).e
    have ih := lc_ints htt hi cs (acc ++ [c]) h (by simp at hz ⊢; omega)
    show lcL (.nm i) tt (cCall gInt (aCons (cVar i) aNil)) vs (.int c :: cs.map PyData.int) (acc.map PyData.int) env h = _
    unfold lcL
    simp only [Tgt.asg, htt, strict, Res.bind, if_true, e]
    rw [if_pos (by rw [List.length_map, sizeLine_eq]; simp at hz; omega)]
    rw [show acc.map PyData.int ++ [.int c] = (acc ++ [c]).map PyData.int by simp, ih]
    simp
theorem cut63 (ns : List Int) : cutD (ns.map PyData.int) none (some 63) = (ns.take 63).map PyData.int := by
  have e1 : HT.sIx (ns.map PyData.int).length 0 none = 0 := rfl
  have e2 : HT.sIx (ns.map PyData.int).length (ns.map PyData.int).length (some 63) = min 63 (ns.map PyData.int).length := by
    unfold HT.sIx
    simp
    try omega
  unfold cutD
  rw [e1, e2, List.drop_zero, Nat.sub_zero, List.map_take]
  by_cases h : 63 ≤ (ns.map PyData.int).length
  · rw [Nat.min_eq_left h]
  · rw [Nat.min_eq_right (by omega), List.take_of_length_le (Nat.le_refl _), List.take_of_length_le (by omega)]
theorem feed_disp {T : Ex} {nN : Nat} {ns : List Int} {cs : List PD} {k1 k2 k3 k4 : Str} {h : AH} (hT : ∀ h, T (some (.scr ns) :: nones (nN - 1)) h = .ok (.dat (.list cs)) h) :
    mFn false (nN - 1) (sRet (cDisp ((cDat (.str k1), T) :: (cDat (.str k2), cDat (.int 0)) :: (cDat (.str k3), cDat (.int 0)) :: (cDat (.str k4), cDat (.int 0)) :: []))) [.scr ns] h =
      .ok (.obj h.length) (h ++ [.dct (mergeP [] [(.str k1, .list cs), (.str k2, .int 0), (.str k3, .int 0), (.str k4, .int 0)])]) := by
  simp [mFn, sRet, cDisp, pairsE, cDat, hT, Res.bind, toKey, retO, pre]
theorem slice_scr {nN : Nat} {ns : List Int} {h : AH} {l : List (Option Sl)} : iSeq (cSl false (cVar 0) pNone (pSome (cDat (.int 63)))) (some (.scr ns) :: l) h = .ok ((ns.take 63).map PyData.int) h := by
  rw [← cut63]; rfl
theorem list_scr {ns : List Int} {h : AH} {l : List (Option Sl)} : cCall (gList false) (aCons (cSl false (cVar 0) pNone (pSome (cDat (.int 63)))) aNil) (some (.scr ns) :: l) h = .ok (.dat (.list ((ns.take 63).map PyData.int))) h := by
  rw [← cut63]; rfl
def mfX (os : List (Int × Int)) : Fm := fun _ h => .ok (.obj h.length) (h ++ [.fed os []])
theorem mfX_eq (ns : List Int) (os : List (Int × Int)) (h : AH) : mFeed ns os [.scr ns] h = mfX os [.scr ns] h := by simp [mFeed, mfX]
def mfU (qs : List Int) : Fm := fun _ h => .ok (.obj h.length) (h ++ [.fed [] qs])
theorem mfU_eq (ns : List Int) (qs : List Int) (h : AH) : mFeedU ns qs [.scr ns] h = mfU qs [.scr ns] h := by simp [mFeedU, mfU]
theorem law_set {c : Bool} {mf mf' : Fm} {ns : List Int} (e : mf [.scr ns] [] = mf' [.scr ns] []) {rest : Sx} {i nN : Nat} : mFn c nN (sSeq (sSet i (cCallF mf 1 0 [.a 0] [] [] (aCons (cVar 0) aNil) aNil)) rest) [.scr ns] [] = mFn c nN (sSeq (sSet i (cCallF mf' 1 0 [.a 0] [] [] (aCons (cVar 0) aNil) aNil)) rest) [.scr ns] [] := by
  simp [mFn, pre, sSeq, sSet, cCallF, aCons, aNil, cVar, nth, Res.bind, pick, Src.get, e]
theorem law_par {c : Bool} {mf mf' : Fm} {ns : List Int} (e : mf [.scr ns] [] = mf' [.scr ns] []) {ta : Ax} {rest : Sx} {i j nN : Nat} : mFn c nN (sSeq (sPar i j (aCons (cCallF mf 1 0 [.a 0] [] [] (aCons (cVar 0) aNil) aNil) ta)) rest) [.scr ns] [] = mFn c nN (sSeq (sPar i j (aCons (cCallF mf' 1 0 [.a 0] [] [] (aCons (cVar 0) aNil) aNil) ta)) rest) [.scr ns] [] := by
  simp [mFn, pre, sSeq, sPar, cCallF, aCons, aNil, cVar, nth, Res.bind, pick, Src.get, e]
end
end Pv

/-! Pv, part N: order of data, sorted. -/
namespace Pv
open PySem PySem.Spec PyProof.Rows L2

/-! ### <, <=, >, >= of data -/
def cmpOk (d e : PD) : Bool := W.alike d e && (shp d && (shp e && !isNone (.dat d)))
def rCmpD (K : PySem.W.Frag) (f : PD → PD → Bool) : R2 := fun x y H Q => ∃ d e, Dp K H x d ∧ Dp K H y e ∧ cmpOk d e = true ∧ Q (.bl (f d e)) H
theorem cmpOk_iff {d e : PD} (h : cmpOk d e = true) : W.alike d e = true ∧ SeqAt.shaped d = true ∧ SeqAt.shaped e = true ∧ d ≠ .none := by
  unfold cmpOk at h
  simp only [Bool.and_eq_true, Bool.not_eq_true'] at h
  refine ⟨h.1, shp_ok h.2.1, shp_ok h.2.2.1, fun z => ?_⟩
  subst z
  exact absurd h.2.2.2 (by decide)
section
variable {X : Cx}
theorem room_cmp {A : Around} {d e : PD} (hd : SeqAt.shaped d = true) (hu : A.units + 64 < cLine) : A.units + min d.depth e.depth < cLine := SeqAt.room_of_shaped hd hu
theorem or_ltD (hu : X.A.units + 64 < cLine) : OpR X (compareOp .Lt) (rCmpD X.K fun d e => W.dataLt d e) := by
  intro pins s σ H x y v u Q I rx ry h
  obtain ⟨d, e, hd, he, hc, q⟩ := h
  obtain ⟨c1, c2, c3, c4⟩ := cmpOk_iff hc
  obtain ⟨as, r1⟩ := Dp.reads I d x v hd rx
  obtain ⟨bs, r2⟩ := Dp.reads I e y u he ry
  exact W.lt_data r1 r2 c1 c4 (room_cmp c2 hu) ⟨.bl _, H, I, rfl, q⟩
theorem or_gtD (hu : X.A.units + 64 < cLine) : OpR X (compareOp .Gt) (rCmpD X.K fun d e => W.dataLt e d) := by
  intro pins s σ H x y v u Q I rx ry h
  obtain ⟨d, e, hd, he, hc, q⟩ := h
  obtain ⟨c1, c2, c3, c4⟩ := cmpOk_iff hc
  obtain ⟨as, r1⟩ := Dp.reads I d x v hd rx
  obtain ⟨bs, r2⟩ := Dp.reads I e y u he ry
  exact W.gt_data r1 r2 c1 c4 (room_cmp c2 hu) ⟨.bl _, H, I, rfl, q⟩
theorem or_leD (hu : X.A.units + 64 < cLine) : OpR X (compareOp .LtE) (rCmpD X.K fun d e => !W.dataLt e d) := by
  intro pins s σ H x y v u Q I rx ry h
  obtain ⟨d, e, hd, he, hc, q⟩ := h
  obtain ⟨c1, c2, c3, c4⟩ := cmpOk_iff hc
  obtain ⟨as, r1⟩ := Dp.reads I d x v hd rx
  obtain ⟨bs, r2⟩ := Dp.reads I e y u he ry
  exact W.le_data r1 r2 c1 c4 (room_cmp c2 hu) ⟨.bl _, H, I, rfl, q⟩
theorem or_geD (hu : X.A.units + 64 < cLine) : OpR X (compareOp .GtE) (rCmpD X.K fun d e => !W.dataLt d e) := by
  intro pins s σ H x y v u Q I rx ry h
  obtain ⟨d, e, hd, he, hc, q⟩ := h
  obtain ⟨c1, c2, c3, c4⟩ := cmpOk_iff hc
  obtain ⟨as, r1⟩ := Dp.reads I d x v hd rx
  obtain ⟨bs, r2⟩ := Dp.reads I e y u he ry
  exact W.ge_data r1 r2 c1 c4 (room_cmp c2 hu) ⟨.bl _, H, I, rfl, q⟩
end
def gCmpD (f : PD → PD → Bool) : G2 := fun a b h => match vw a h, vw b h with
  | some d, some e => if cmpOk d e then .ok (.dat (.bool (f d e))) h else .no
  | _, _ => .no
theorem od_cmpD [Fed] {K : PySem.W.Frag} {f : PD → PD → Bool} : OpD K (rCmpD K f) (gCmpD f) := by
  intro C hC F U μ H h W x y a b Q l ra rb o
  subst hC
  unfold gCmpD at o
  split at o
  · rename_i d e e1 e2
    split at o
    · rename_i hz
      obtain ⟨c1, c2, c3, c4⟩ := cmpOk_iff hz
      exact ⟨d, e, (vw_ok l ra e1).dp l.fh (SeqAt.canLay_of_shaped c2), (vw_ok l rb e2).dp l.fh (SeqAt.canLay_of_shaped c3), hz, o.here l (.bl _)⟩
    · exact o.elim
  · exact o.elim
/-- ints on their own road -/
def gOr (g g' : G2) : G2 := fun a b h => if isI a then g a b h else g' a b h
theorem od_or [Fed] {K : PySem.W.Frag} {r r' : R2} {g g' : G2} (h1 : OpD K r g) (h2 : OpD K r' g') : OpD K (fun x y H Q => r x y H Q ∨ r' x y H Q) (gOr g g') := by
  intro C hC F U μ H h W x y a b Q l ra rb o
  unfold gOr at o
  split at o
  · exact .inl (h1 C hC F U μ H h W x y a b Q l ra rb o)
  · exact .inr (h2 C hC F U μ H h W x y a b Q l ra rb o)
def gLtA : G2 := gOr gLt (gCmpD fun d e => W.dataLt d e)
def gGtA : G2 := gOr gGt (gCmpD fun d e => W.dataLt e d)
def gLeA : G2 := gOr gLe (gCmpD fun d e => !W.dataLt e d)
def gGeA : G2 := gOr gGe (gCmpD fun d e => !W.dataLt d e)
theorem od_ltA [Fed] {K : PySem.W.Frag} : OpD K (fun x y H Q => rI0 (fun i j => .bl (decide (i < j))) x y H Q ∨ rCmpD K (fun d e => W.dataLt d e) x y H Q) gLtA := od_or od_lt od_cmpD
theorem od_gtA [Fed] {K : PySem.W.Frag} : OpD K (fun x y H Q => rI0 (fun i j => .bl (decide (j < i))) x y H Q ∨ rCmpD K (fun d e => W.dataLt e d) x y H Q) gGtA := od_or od_gt od_cmpD
theorem od_leA [Fed] {K : PySem.W.Frag} : OpD K (fun x y H Q => rI0 (fun i j => .bl (decide (i ≤ j))) x y H Q ∨ rCmpD K (fun d e => !W.dataLt e d) x y H Q) gLeA := od_or od_le od_cmpD
theorem od_geA [Fed] {K : PySem.W.Frag} : OpD K (fun x y H Q => rI0 (fun i j => .bl (decide (j ≤ i))) x y H Q ∨ rCmpD K (fun d e => !W.dataLt d e) x y H Q) gGeA := od_or od_ge od_cmpD
section
variable {X : Cx}
theorem or_ltA (hu : X.A.units + 64 < cLine) : OpR X (compareOp .Lt) (fun x y H Q => rI0 (fun i j => .bl (decide (i < j))) x y H Q ∨ rCmpD X.K (fun d e => W.dataLt d e) x y H Q) := OpR.or op_lt (or_ltD hu)
theorem or_gtA (hu : X.A.units + 64 < cLine) : OpR X (compareOp .Gt) (fun x y H Q => rI0 (fun i j => .bl (decide (j < i))) x y H Q ∨ rCmpD X.K (fun d e => W.dataLt e d) x y H Q) := OpR.or op_gt (or_gtD hu)
theorem or_leA (hu : X.A.units + 64 < cLine) : OpR X (compareOp .LtE) (fun x y H Q => rI0 (fun i j => .bl (decide (i ≤ j))) x y H Q ∨ rCmpD X.K (fun d e => !W.dataLt e d) x y H Q) := OpR.or op_le (or_leD hu)
theorem or_geA (hu : X.A.units + 64 < cLine) : OpR X (compareOp .GtE) (fun x y H Q => rI0 (fun i j => .bl (decide (j ≤ i))) x y H Q ∨ rCmpD X.K (fun d e => !W.dataLt d e) x y H Q) := OpR.or op_ge (or_geD hu)
end
end Pv

/-! Pv, part O: dict comprehensions, dict.get, list.count. -/
namespace Pv
open PySem PySem.Spec PyProof.Rows L2

/-- where a dict is in the making at D -/
structure Mkd [Fed] (C : Cn) (F0 U0 : Hp) (μ0 : List Addr) (D : Addr) (F U : Hp) (μ : List Addr) (H : Hp) (h : AH) (acc : List (PD × PD)) : Prop where
  g : Gr F0 U0 F U
  p : μ0 <+: μ
  l : Lk C.K F U μ H h
  fD : F D = none
  at_ : ∃ vs, U D = some (.dK vs) ∧ RKs C.K F vs acc
section
variable {C : Cn} {F0 U0 F U : Hp} {μ0 μ : List Addr} {H : Hp} {h : AH} {acc : List (PD × PD)} {D : Addr}
theorem Mkd.step [Fed] {F' U' : Hp} {μ' : List Addr} {H' : Hp} {h' : AH} (m : Mkd C F0 U0 μ0 D F U μ H h acc) (g : Gr F U F' U') (p : μ <+: μ') (l : Lk C.K F' U' μ' H' h') : Mkd C F0 U0 μ0 D F' U' μ' H' h' acc := by
  obtain ⟨vs, hU, r⟩ := m.at_
  obtain ⟨h1, h2, h3⟩ := l.keptU g hU m.fD
  exact ⟨m.g.trans g, m.p.trans p, l, h2, vs, h1, r.mono g.f⟩
theorem Mkd.put [Fed] {v : V} {k : Key} {d : PD} (m : Mkd C F0 U0 μ0 D F U μ H h acc) (h0 : U0 D = none) (r : RD C.K F v d) : ∃ vs, H D = some (.dK vs) ∧ vs.length = acc.length ∧ Mkd C F0 U0 μ0 D F (upd U D (.dK (putK vs k v))) μ (upd H D (.dK (putK vs k v))) h (putP acc (keyD k) d) := by
  obtain ⟨vs, hU, rs⟩ := m.at_
  refine ⟨vs, m.l.uh _ _ hU, rs.len, ⟨m.g.f, fun b x e => ?_, fun a x e1 e2 => m.g.n a x e1 e2⟩, m.p, m.l.putU hU m.fD, m.fD, _, upd_same, rs.put k r⟩
  rw [upd_ne (ne_of_none e h0)]
  exact m.g.u _ _ e
theorem Mkd.new [Fed] {D : Addr} (l : Lk C.K F U μ H h) (hp : H D = none) : Mkd C F U μ D F (upd U D (.dK [])) μ (upd H D (.dK [])) h [] := by
  obtain ⟨l', g⟩ := l.newU (o := .dK []) hp
  exact ⟨g, List.prefix_refl _, l', same_none l.fh hp, [], upd_same, .nil⟩
theorem Mkd.done [Fed] {W : XK} {Q : VK} (m : Mkd C F0 U0 μ0 D F U μ H h acc) (h0 : U0 D = none) (o : Out C F0 U0 μ0 W (rSl C.K) Q (.ok (.dat (.dict acc)) h)) : Q (.ref D) H := by
  obtain ⟨vs, hU, r⟩ := m.at_
  refine o (.ref D) (upd F D (.dK vs)) U μ H ⟨m.g.f.trans (same_new m.fD), m.g.u, fun a x e1 e2 => ?_⟩ m.p (m.l.endU hU m.fD) (RD.dct upd_same (r.mono (same_new m.fD)))
  rw [upd_ne (ne_of_none e1 h0)] at e2
  exact m.g.n a x e1 e2
end
def dcL (tg : Tgt) (tt : Tx) (tk tv : Ex) (vs : List Nat) : List PD → List (PD × PD) → Ev → AH → Res Sl
  | [], acc, _, h => .ok (.dat (.dict acc)) h
  | d :: ds, acc, env, h => match tg.asg d (wipeE env vs) with
    | none => .no
    | some env1 => (strict (tt env1 h)).bind fun b h1 => if b then (strict (tk env1 h1)).bind fun x h2 => (strict (tv env1 h2)).bind fun y h3 => match x, y with
        | .dat k, .dat v => match toKey k with
          | some k' => if acc.length < sizeLine then dcL tg tt tk tv vs ds (putP acc (keyD k') v) env h3 else .no
          | none => .no
        | _, _ => .no
      else dcL tg tt tk tv vs ds acc env h1
def cDc (it : Ix) (tg : Tgt) (tt : Tx) (tk tv : Ex) (vs : List Nat) : Ex := fun env h => (it env h).bind fun ds h1 => dcL tg tt tk tv vs ds [] env h1
section
variable {C : Cn} {Wx : XK} {X : Cx} {kx vx tg iter : Expr} {ifs : List Expr} {scope : Scope} {own : List (Str × Nat)} {pos spos py : Pos} {it : Ix} {t : Tgt} {tt : Tx} {tk tv : Ex}
def dcInv [Fed] (C : Cn) (Wx : XK) (F0 U0 : Hp) (μ0 : List Addr) (D : Addr) (Q : VK) (t : Tgt) (tt : Tx) (tk tv : Ex) (vs : List Nat) (env : Ev) (ds : List PD) (i : Nat) (H : Hp) : Prop :=
  ∃ F U μ h acc, Mkd C F0 U0 μ0 D F U μ H h acc ∧ Out C F0 U0 μ0 Wx (rSl C.K) Q (dcL t tt tk tv vs (ds.drop i) acc env h)
theorem rd_dc [Fed] {W1 : XK} {vs : List Nat} (hsl : slotsIn t vs = true) {K : PySem.W.Frag} (hK : K = C.K) {σ : L2.St} {H : Hp} {Q : VK} (q : rdE C Wx (cDc it t tt tk tv vs) σ H Q) :
    tDc (rdG C Wx (rIt C.K) it) (t.rd K) (rdT C W1 tt) (rdE C W1 tk) (rdE C W1 tv) vs σ H Q := by
  obtain ⟨F, U, μ, env, h, l, ev, o⟩ := q
  refine rd_step l ev o fun ds J F0 U0 μ0 H1 h1 g1 p1 l1 r1 e1 o1 => ?_
  intro D hD
  have h0 : U0 D = none := same_none l1.uh hD
  refine ⟨fun i m H => m = ds.length - i ∧ i ≤ ds.length ∧ dcInv C Wx F0 U0 μ0 D Q t tt tk tv vs env ds i H, ⟨_, rfl, Nat.zero_le _, _, _, _, _, _, Mkd.new l1 hD, o1⟩, ?_⟩
  rintro i m H ⟨rfl, hi, F2, U2, μ2, h2, acc, mk, o2⟩
  by_cases hlt : i < ds.length
  · obtain ⟨hgo, hy⟩ := (r1 F2 U2 μ2 H h2 mk.g.f mk.l i).1 ds[i] (by rw [List.getElem?_eq_getElem hlt])
    rw [drop_at hlt] at o2
    unfold dcL at o2
    split at o2
    · exact o2.elim
    · rename_i env3 ea
      refine .inr ⟨hgo, dcInv C Wx F0 U0 μ0 D Q t tt tk tv vs env ds (i + 1), fun H' n => ⟨ds.length - (i + 1), by omega, rfl, hlt, n⟩, fun x H' y => ?_⟩
      obtain ⟨F3, U3, g3, l3, d3⟩ := hy x H' y
      have mk3 := mk.step g3 (List.prefix_refl _) l3
      obtain ⟨σ3, e3, w3, q3⟩ := Tgt.rd_ok t l3.fh ((e1.mono mk3.g.f mk3.p).wipe vs) d3 ea
      rw [hK]
      refine q3 _ ⟨(w3 vs (slotsIn_iff hsl)).trans (wipe_wipe σ vs vs fun _ z => z), ?_⟩
      refine ⟨F3, U3, μ2, env3, h2, l3, e3, o2.strict fun b b' F4 U4 μ4 H4 h4 g4 p4 l4 rb o4 => ?_⟩
      cases rb
      have mk4 := mk3.step g4 p4 l4
      cases b with
      | false =>
        rw [if_neg Bool.false_ne_true]
        rw [if_neg Bool.false_ne_true] at o4
        exact ⟨F4, U4, μ4, h4, acc, mk4, o4⟩
      | true =>
        rw [if_pos rfl]
        rw [if_pos rfl] at o4
        have e4 := e3.mono g4.f p4
        refine ⟨F4, U4, μ4, env3, h4, l4, e4, o4.strict fun x xv F5 U5 μ5 H5 h5 g5 p5 l5 rx o5 => ?_⟩
        have mk5 := mk4.step g5 p5 l5
        refine ⟨F5, U5, μ5, env3, h5, l5, e4.mono g5.f p5, o5.strict fun y yv F6 U6 μ6 H6 h6 g6 p6 l6 ry o6 => ?_⟩
        have mk6 := mk5.step g6 p6 l6
        split at o6
        · rename_i kd vd
          split at o6
          · rename_i k' ek
            split at o6
            · rename_i hz
              obtain ⟨vs', e, hl, mk7⟩ := mk6.put (k := k') h0 ry
              exact ⟨vs', k', key_rel (RD.mono g6.f rx) ek, e, by rw [hl]; exact hz, _, _, _, _, _, mk7, o6⟩
            · exact o6.elim
          · exact o6.elim
        · exact o6.elim
  · have e : i = ds.length := by omega
    subst e
    rw [List.drop_length] at o2
    exact .inl ⟨(r1 F2 U2 μ2 H h2 mk.g.f mk.l _).2 rfl, mk.done h0 o2⟩
theorem se_dc [Fed] (hN : X.N.Nodup) (hi : SI C Wx X tg iter it) (ok : blkC X.N X.env.scope scope own = true)
    (hg : ∀ (s : Shared) (H : Hp) (C : Addr) (cl : List (Str × Addr)) (fp : List Addr), PG (X.blk s H scope (compEnvC scope cl C X.env) fp) tg (t.rd X.K)) (ht : ∀ (s : Shared) (H : Hp) (A : Addr) (cl : List (Str × Addr)) (fp : List Addr), STs C (fun _ _ _ => False) (X.blk s H scope (compEnvC scope cl A X.env) fp) ifs tt)
    (hk : ∀ (s : Shared) (H : Hp) (A : Addr) (cl : List (Str × Addr)) (fp : List Addr), SE C (fun _ _ _ => False) (X.blk s H scope (compEnvC scope cl A X.env) fp) kx tk)
    (he : ∀ (s : Shared) (H : Hp) (A : Addr) (cl : List (Str × Addr)) (fp : List Addr), SE C (fun _ _ _ => False) (X.blk s H scope (compEnvC scope cl A X.env) fp) vx tv) (hsl : slotsIn t (own.map (·.2)) = true := by rfl) (hc : X.calm = true := by rfl) (hK : X.K = C.K := by rfl) (hs : ∀ x, foldedSetIterable iter X.env x = pure x := by intro _; rfl) :
    SE C Wx X (.DictComp kx vx [⟨tg, iter, ifs, 0⟩] scope pos) (cDc it t tt tk tv (own.map (·.2))) :=
  ⟨pe_imp (pe_dc hc hN hi.pi (blkOk_by ok) hg (fun s H A cl fp => (ht s H A cl fp).pts) (fun s H A cl fp => (hk s H A cl fp).pe) (fun s H A cl fp => (he s H A cl fp).pe) hs) fun σ H Q q => rd_dc hsl hK q⟩
end

/-! ### d.get(k, x) -/
def cGet2 (td ty tx : Ex) : Ex := fun env h => (td env h).bind fun x h1 => if (vwD x h1).isSome then (ty env h1).bind fun y h2 => (tx env h2).bind fun z h3 => match y, z with
  | .dat k, .dat dz => match toKey k, vwD x h3 with
    | some k', some kvs => match lookP kvs (keyD k') with
      | some d => .ok (.dat d) h3
      | none => .ok (.dat dz) h3
    | _, _ => .no
  | _, _ => .no
  else .no
section
variable {C : Cn} {Wx : XK} {X : Cx} {o e f : Expr} {td ty tx : Ex} {apos cpos : Pos}
theorem se_get2 [Fed] (hu : X.A.units + 1 < cLine) (ho : SE C Wx X o td) (he : SE C Wx X e ty) (hf : SE C Wx X f tx) (m : M2 X o "get" apos e f cpos := by exact ⟨by rfl, by rfl, by rfl, by rfl⟩) : SE C Wx X (.Call (.Attribute o "get" apos) [e, f] [] cpos) (cGet2 td ty tx) :=
  ⟨pe_imp (pe_dget2 hu ho.pe he.pe hf.pe m) fun σ H Q q => by
    obtain ⟨F, U, μ, env, h, l, ev, o⟩ := q
    refine rd_step l ev o fun x vx F1 U1 μ1 H1 h1 g1 p1 l1 r1 e1 o1 => ?_
    split at o1
    · rename_i hd
      obtain ⟨kvs0, hkv⟩ := Option.isSome_iff_exists.mp hd
      obtain ⟨a, vs0, rfl, hH0, _⟩ := vwD_ok l1 r1 hkv
      refine ⟨a, rfl, .inl ⟨vs0, .inl hH0⟩, ?_⟩
      refine rd_step l1 e1 o1 fun y vy F2 U2 μ2 H2 h2 g2 p2 l2 r2 e2 o2 => ?_
      refine rd_step l2 e2 o2 fun z vz F3 U3 μ3 H3 h3 g3 p3 l3 r3 e3 o3 => ?_
      split at o3
      · split at o3
        · rename_i k dz _ _ k' kvs ek ev'
          obtain ⟨b, vs, hb, hH, hr⟩ := vwD_ok l3 ((r1.mono g2.f p2).mono g3.f p3) ev'
          cases hb
          cases key_rel (RD.mono g3.f r2) ek
          rcases hr.look k' with ⟨n1, n2⟩ | ⟨v, d, n1, n2, rd⟩
          · rw [n2] at o3
            exact ⟨none, by rw [← n1]; exact DGet.k hH, o3.here l3 r3⟩
          · rw [n2] at o3
            exact ⟨some v, by rw [← n1]; exact DGet.k hH, o3.here l3 rd⟩
        · exact o3.elim
      · exact o3.elim
    · exact o1.elim⟩
end

/-! ### xs.count(n), ints -/
def cCnt (to : Ex) (ta : Ax) : Ex := fun env h => (to env h).bind fun x h1 => match vw x h1 with
  | some (.list ds0) => (ta env h1).bind fun xs h2 => match vw x h2, xs with
    | some (.list ds), [.dat (.int n)] => match intsOf ds with
      | some ns => .ok (.dat (.int (ns.count n : Nat))) h2
      | none => .no
    | _, _ => .no
  | _ => .no
section
variable {C : Cn} {Wx : XK} {X : Cx} {o e : Expr} {to : Ex} {tr : Ax} {apos cpos : Pos}
theorem se_cnt [Fed] (ho : SE C Wx X o to) (ha : SA C Wx X [e] tr) (hK : X.K = C.K := by rfl)
    (hbase : attributeBase o "count" X.env (eval o X.env) = eval o X.env := by rfl)
    (hfew : ((backTo cpos (starEach [e] X.env)).all (fun x => !x.1) && (backToKw cpos (keywordEach [] X.env)).all (fun x => x.1.isSome)
      && decide (([e] : List Expr).length + ([] : List Keyword).length + (if ([] : List Keyword).isEmpty then 0 else 1) < 30)) = true := by rfl)
    (hline : (apos.endLine == cpos.line) = true := by rfl) (hs : starEach [e] X.env = (false, eval e X.env) :: starEach [] X.env := by rfl) (hplain : (backTo cpos (starEach [] X.env)).any (·.1) = false := by rfl) :
    SE C Wx X (.Call (.Attribute o "count" apos) [e] [] cpos) (cCnt to tr) := ⟨pe_imp (pe_bm PySem.F.plainAttrs_list PySem.F.slot_list_count rfl mt_lcount ho.pe ha.pa hbase hfew hline hs hplain) fun σ H Q q => by
  obtain ⟨F, U, μ, env, h, l, ev, o⟩ := q
  refine rd_step l ev o fun x vx F1 U1 μ1 H1 h1 g1 p1 l1 r1 e1 o1 => ?_
  split at o1
  · rename_i ds0 hv
    rw [hK]
    have hty : tyV C.K "list" vx H1 := by
      cases vw_ok l1 r1 hv with
      | lst s d => exact .inl ⟨rfl, _, s⟩
    refine ⟨hty, ?_⟩
    refine rd_step l1 e1 o1 fun ys vs F2 U2 μ2 H2 h2 g2 p2 l2 r2 e2 o2 => ?_
    split at o2
    · rename_i ds n hv2
      obtain ⟨v, rfl, rv⟩ := slRs1 r2
      cases rv
      split at o2
      · rename_i ns en
        cases vw_ok l2 (r1.mono g2.f p2) hv2 with
        | lst s d =>
          rw [ints_ok d en] at s
          exact ⟨_, ns, n, rfl, rfl, s, o2.here l2 (.int _)⟩
      · exact o2.elim
    · exact o2.elim
  · exact o1.elim⟩
end
/-! ### x[y], a dict or a sequence -/
def isDct (x : Sl) (h : AH) : Bool := (vwD x h).isSome
def cSubs (ta tb : Ex) : Ex := fun env h => match ta env h with
  | .ok x h1 => if isDct x h1 then cGet ta tb env h else cBin gIx ta tb env h
  | _ => cBin gIx ta tb env h
theorem pe_either {X : Cx} {e : Expr} {t u v : TE} (h1 : PE X e t) (h2 : PE X e u) (i : ∀ σ H Q, v σ H Q → t σ H Q ∨ u σ H Q) : PE X e v := ⟨fun pins s σ H Q I q => (i _ _ _ q).elim (fun z => h1.run pins s σ H Q I z) fun z => h2.run pins s σ H Q I z⟩
theorem se_subs [Fed] {C : Cn} {Wx : XK} {X : Cx} {a b : Expr} {ta tb : Ex} {pos : Pos} (hu : X.A.units + 1 < cLine) (ha : SE C Wx X a ta) (hb : SE C Wx X b tb) (hK : X.K = C.K := by rfl) (hs : PlainIx b := by exact fun _ _ => rfl) (hs2 : NoSl b := by intro _ _; rfl) : SE C Wx X (.Subscript a b pos) (cSubs ta tb) :=
  ⟨pe_either (se_get hu ha hb hs2).pe (se_ix ha hb hK hs).pe fun σ H Q q => by
    obtain ⟨F, U, μ, env, h, l, ev, o⟩ := q
    unfold cSubs at o
    split at o
    · split at o
      · exact .inl ⟨F, U, μ, env, h, l, ev, o⟩
      · exact .inr ⟨F, U, μ, env, h, l, ev, o⟩
    · exact .inr ⟨F, U, μ, env, h, l, ev, o⟩⟩
end Pv

/-! Pv, part P: list(zip(a, b)). -/
namespace Pv
open PySem PySem.Spec PyProof.Rows L2
section
variable {prog : Program} {w : World} {A : Around} {E : Value → Shared → Prop} {s : Shared} {z TI TO T i1 i2 : Addr} {f : Bool} {oT : Obj} {fp1 fp2 : List Addr} {n1 n2 i : Nat} {P1 P2 : Nat → Value → Prop} {St1 St2 : Nat → Heap → Prop}
theorem zipH_item {Q : Value → Shared → Prop} (S : ZipSep2 z TI TO i1 i2 fp1 fp2) (D1 : Draws prog w A i1 fp1 n1 P1 St1) (D2 : Draws prog w A i2 fp2 n2 P2 St2)
    (hz : IsZipHeld s.heap z TI TO T f) (hT : s.heap.get? T = some oT) (hTI : IsTupOf2 s.heap TI (.ref i1) (.ref i2)) (st1 : St1 i s.heap) (st2 : St2 i s.heap) (hlt1 : i < n1) (hlt2 : i < n2)
    (hQ : ∀ x1 x2 h' tk, P1 i x1 → P2 i x2 → IsZipHeld h' z TI TO T true → St1 (i + 1) h' → St2 (i + 1) h' → IsTupOf2 h' s.heap.objs.size x1 x2 → h'.objs.size = s.heap.objs.size + 1 →
      (∀ c o, c ≠ z → c ≠ i1 → c ≠ i2 → s.heap.get? c = some o → h'.get? c = some o) → Q (.ref s.heap.objs.size) { s with heap := h', toks := tk }) :
    wpAny (model prog w) A (Builtin.«zip.__next__» ⟨[.ref z], []⟩) (fun fin s' => ∃ v, fin = .done (.ret v) ∧ Q v s') E s := by
  obtain ⟨hp, g, d, tk0, os⟩ := s
  show wpAny _ _ (field (.ref z) 2 >>= _) _ _ _
  refine wpAny_bind (wpAny_field hz rfl (x := .bool false) rfl ?_)
  show wpAny _ _ (field (.ref z) 3 >>= _) _ _ _
  refine wpAny_bind (wpAny_field hz rfl (x := .ref TI) rfl ?_)
  refine wpAny_bind (wpAny_seqItems hTI rfl ?_)
  show wpAny _ _ (Builtin.SmallTypes.ownedTupleIsFree (.ref z) >>= _) _ _ _
  refine wpAny_bind (wpAny_tupleHeld_zip hz hT fun g0 hz0 hs0 => ?_)
  replace hs0 : Heap.SameBut z hp g0 := hs0
  simp only [Bool.false_eq_true, if_false]
  refine wpAny_bind ?_
  rw [← Array.forIn_toList]
  simp only [List.forIn_cons, List.forIn_nil]
  refine wpAny_bind (wpAny_bind (wpAny_holding ?_))
  show wpAny _ _ (Builtin.SmallTypes.nextOf (.ref i1) >>= _) _ _ ⟨g0, g, d, tk0, os⟩
  refine wpAny_bind (D1.item i _ _ _ hlt1 (D1.over st1 hs0 S.zf1) fun x1 p1 tk1 hx1 sn1 hp1 => wpAny_pure ?_)
  replace hp1 : Heap.SameBut i1 g0 p1 := hp1
  refine wpAny_pure ?_
  refine wpAny_bind (wpAny_bind (wpAny_holding ?_))
  show wpAny _ _ (Builtin.SmallTypes.nextOf (.ref i2) >>= _) _ _ ⟨p1, g, d, tk1, os⟩
  refine wpAny_bind (D2.item i _ _ _ hlt2 (D2.over (D2.over st2 hs0 S.zf2) hp1 S.sep1_2) fun x2 p2 tk2 hx2 sn2 hp2 => wpAny_pure ?_)
  replace hp2 : Heap.SameBut i2 p1 p2 := hp2
  refine wpAny_pure (wpAny_pure ?_)
  show wpAny _ _ (newTuple [x1, x2] >>= _) _ _ _
  refine wpAny_bind (wpAny_newTuple ?_)
  have hsz : p2.objs.size = hp.objs.size := by rw [hp2.1, hp1.1, hs0.1]
  have hz3 : IsZipHeld p2 z TI TO T true := hp2.extBut _ _ S.zi2 (hp1.extBut _ _ S.zi1 hz0)
  have hk : ∀ c o, c ≠ z → c ≠ i1 → c ≠ i2 → hp.get? c = some o → p2.get? c = some o := fun c o c1 c2 c3 e => hp2.extBut _ _ c3 (hp1.extBut _ _ c2 (hs0.extBut _ _ c1 e))
  have hj1 : St1 (i + 1) p2 := D1.over sn1 hp2 S.sep2_1
  have up : ∀ c o, p2.get? c = some o → (p2.push { cls := .type "tuple", data := .seq #[x1, x2] }).get? c = some o := fun c o e => Heap.get?_push_of_some _ e
  refine wpAny_pure ⟨_, rfl, ?_⟩
  show Q (.ref p2.objs.size) _
  have hpp : IsTupOf2 (p2.push { cls := .type "tuple", data := .seq #[x1, x2] }) p2.objs.size x1 x2 := Heap.get?_push_size _ rfl
  have hz4 : (p2.push { cls := .type "tuple", data := .seq #[x1, x2] }).objs.size = p2.objs.size + 1 := Heap.size_push ..
  rw [hsz] at hpp hz4 ⊢
  exact hQ x1 x2 _ tk2 hx1 hx2 (up _ _ hz3) (D1.frame _ _ _ hj1 fun b _ o e => up b o e) (D2.frame _ _ _ sn2 fun b _ o e => up b o e) hpp hz4 fun c o c1 c2 c3 e => up c o (hk c o c1 c2 c3 e)

theorem zipH_end {Q : Fin → Shared → Prop} (S : ZipSep2 z TI TO i1 i2 fp1 fp2) (D1 : Draws prog w A i1 fp1 n1 P1 St1) (D2 : Draws prog w A i2 fp2 n2 P2 St2)
    (hz : IsZipHeld s.heap z TI TO T f) (hT : s.heap.get? T = some oT) (hTI : IsTupOf2 s.heap TI (.ref i1) (.ref i2)) (st1 : St1 i s.heap) (st2 : St2 i s.heap) (hle1 : i ≤ n1) (hle2 : i ≤ n2) (hend : i = n1 ∨ i = n2)
    (hE : ∀ h' tk e, (∀ c o, c ≠ z → c ≠ i1 → c ≠ i2 → s.heap.get? c = some o → h'.get? c = some o) → (∃ o, h'.get? e = some o ∧ o.cls = .type "StopIteration") → E (.ref e) { s with heap := h', toks := tk }) :
    wpAny (model prog w) A (Builtin.«zip.__next__» ⟨[.ref z], []⟩) Q E s := by
  obtain ⟨hp, g, d, tk0, os⟩ := s
  show wpAny _ _ (field (.ref z) 2 >>= _) _ _ _
  refine wpAny_bind (wpAny_field hz rfl (x := .bool false) rfl ?_)
  show wpAny _ _ (field (.ref z) 3 >>= _) _ _ _
  refine wpAny_bind (wpAny_field hz rfl (x := .ref TI) rfl ?_)
  refine wpAny_bind (wpAny_seqItems hTI rfl ?_)
  show wpAny _ _ (Builtin.SmallTypes.ownedTupleIsFree (.ref z) >>= _) _ _ _
  refine wpAny_bind (wpAny_tupleHeld_zip hz hT fun g0 hz0 hs0 => ?_)
  replace hs0 : Heap.SameBut z hp g0 := hs0
  simp only [Bool.false_eq_true, if_false]
  refine wpAny_bind ?_
  rw [← Array.forIn_toList]
  simp only [List.forIn_cons, List.forIn_nil]
  refine wpAny_bind (wpAny_bind (wpAny_holding ?_))
  show wpAny _ _ (Builtin.SmallTypes.nextOf (.ref i1) >>= _) _ _ ⟨g0, g, d, tk0, os⟩
  by_cases hlt1 : i < n1
  · refine wpAny_bind (D1.item i _ _ _ hlt1 (D1.over st1 hs0 S.zf1) fun x1 p1 tk1 hx1 sn1 hp1 => wpAny_pure ?_)
    replace hp1 : Heap.SameBut i1 g0 p1 := hp1
    have hi2 : i = n2 := by omega
    refine wpAny_pure ?_
    refine wpAny_bind (wpAny_bind (wpAny_holding ?_))
    show wpAny _ _ (Builtin.SmallTypes.nextOf (.ref i2) >>= _) _ _ ⟨p1, g, d, tk1, os⟩
    refine wpAny_bind (D2.done ⟨p1, g, d, tk1, os⟩ _ _ (by rw [← hi2]; exact (D2.over (D2.over st2 hs0 S.zf2) hp1 S.sep1_2)) fun q e hq he => ?_)
    replace hq : Heap.ExtBut i2 p1 q := hq
    exact hE q tk1 e (fun c o cz c1 c2 x => hq _ _ c2 (hp1.extBut _ _ c1 (hs0.extBut _ _ cz x))) he
  · have hi1 : i = n1 := by omega
    refine wpAny_bind (D1.done ⟨g0, g, d, tk0, os⟩ _ _ (by rw [← hi1]; exact (D1.over st1 hs0 S.zf1)) fun q e hq he => ?_)
    replace hq : Heap.ExtBut i1 g0 q := hq
    exact hE q tk0 e (fun c o cz c1 c2 x => hq _ _ c1 (hs0.extBut _ _ cz x)) he

theorem pyNext_zipH_item {Q : Option Value → Shared → Prop} (S : ZipSep2 z TI TO i1 i2 fp1 fp2) (D1 : Draws prog w A.in1 i1 fp1 n1 P1 St1) (D2 : Draws prog w A.in1 i2 fp2 n2 P2 St2)
    (hz : IsZipHeld s.heap z TI TO T f) (hT : s.heap.get? T = some oT) (hTI : IsTupOf2 s.heap TI (.ref i1) (.ref i2)) (st1 : St1 i s.heap) (st2 : St2 i s.heap) (hlt1 : i < n1) (hlt2 : i < n2)
    (hQ : ∀ x1 x2 h' tk, P1 i x1 → P2 i x2 → IsZipHeld h' z TI TO T true → St1 (i + 1) h' → St2 (i + 1) h' → IsTupOf2 h' s.heap.objs.size x1 x2 → h'.objs.size = s.heap.objs.size + 1 →
      (∀ c o, c ≠ z → c ≠ i1 → c ≠ i2 → s.heap.get? c = some o → h'.get? c = some o) → Q (some (.ref s.heap.objs.size)) { s with heap := h', toks := tk }) :
    wpAny (model prog w) A (pyNext (.ref z)) Q E s := by
  have hTy : s.TypeIs (.ref z) "zip" := ⟨_, hz, rfl⟩
  unfold pyNext
  exact wpAny_bind (wpAny_attempt (wpAny_callSpecial?_slot (name := Str.ofString "__next__") hTy F.slot_zip_next
    (wpAny_call_entry F.slot_zip_next hTy F.entry_zip_next
      (zipH_item S D1 D2 hz hT hTI st1 st2 hlt1 hlt2 fun x1 x2 h' tk y1 y2 b1 d1 d2 b5 b6 b7 => wpAny_pure (hQ x1 x2 h' tk y1 y2 b1 d1 d2 b5 b6 b7)) (F.args_zip_next_1 _))))
theorem pyNext_zipH_end {Q : Option Value → Shared → Prop} (S : ZipSep2 z TI TO i1 i2 fp1 fp2) (D1 : Draws prog w A.in1 i1 fp1 n1 P1 St1) (D2 : Draws prog w A.in1 i2 fp2 n2 P2 St2)
    (hz : IsZipHeld s.heap z TI TO T f) (hT : s.heap.get? T = some oT) (hTI : IsTupOf2 s.heap TI (.ref i1) (.ref i2)) (st1 : St1 i s.heap) (st2 : St2 i s.heap) (hle1 : i ≤ n1) (hle2 : i ≤ n2) (hend : i = n1 ∨ i = n2)
    (hQ : ∀ h' tk, (∀ c o, c ≠ z → c ≠ i1 → c ≠ i2 → s.heap.get? c = some o → h'.get? c = some o) → Q none { s with heap := h', toks := tk }) : wpAny (model prog w) A (pyNext (.ref z)) Q E s := by
  have hTy : s.TypeIs (.ref z) "zip" := ⟨_, hz, rfl⟩
  unfold pyNext
  refine wpAny_bind (wpAny_attempt (wpAny_callSpecial?_slot (name := Str.ofString "__next__") hTy F.slot_zip_next
    (wpAny_call_entry F.slot_zip_next hTy F.entry_zip_next (zipH_end S D1 D2 hz hT hTI st1 st2 hle1 hle2 hend fun h' tk e hk he => ?_) (F.args_zip_next_1 _))))
  obtain ⟨o, ho, hc⟩ := he
  refine wpAny_bind (wpAny_isInstance (T := "StopIteration") (b := true) ⟨o, ho, hc⟩ isSubtype_stop ?_)
  exact wpAny_pure (hQ _ _ hk)
end
end Pv

/-! Pv, part Q: list(zip(a, b)), the walk. -/
namespace Pv
open PySem PySem.Spec PyProof.Rows L2
section
variable {X : Cx} {pins : List (Addr × Obj)} {σ : L2.St} {H : Hp} {s : Shared} {b c : Bool} {z TI TO i1 i2 p q S : Addr} {i : Nat} {xs ys : List V} {x y : V} {h h' : Heap}
theorem Inv.track {ob : HO} (I : Inv X pins σ H s) (f : FpOk X pins H S) (new : ObjOk X.prog X.w (upd H S ob) s.heap S ob) : Inv X pins σ (upd H S ob) s := by
  have hn : H S = none := f.1
  refine I.step (h' := s.heap) (t' := s.toks) (g' := s.gens) (d' := s.drawn) (ch := [S]) (fun b hb => ?_) (fun b o _ _ _ e _ => e) (fun b o _ _ _ e _ => ⟨o.slots, e⟩)
    (fun b o hb e n => ?_) (fun b o _ e => ⟨o, e⟩) (fun b xs e => ?_) (fun b o u e => ?_) (fun b ps e => ⟨#[], ?_⟩) (fun m hm => hm) (fun b u e => ?_) I.bare
  · have e : b = S := by simpa using hb
    subst e
    exact ⟨f.2.2.2.1, f.2.1, f.2.2.2.2.1, f.2.2.2.2.2⟩
  · rw [upd_ne (fun e => hb (by simp [e]))]; exact n
  · rw [upd_ne (ne_of_none e hn)]; exact e
  · rw [upd_ne (ne_of_none e hn)]; exact e
  · rw [upd_ne (ne_of_none e hn), e]; simp
  · by_cases hb : b = S
    · subst hb
      rw [upd_same] at e
      cases e
      exact new
    · rw [upd_ne hb] at e
      exact (I.hok b u e).stay (fun c v _ q => q) (fun c q => by rw [upd_ne (ne_of_none q hn)]; exact q) fun c xs q => by rw [upd_ne (ne_of_none q hn)]; exact q

def ZSt (b c : Bool) (z TI TO i1 i2 p q : Addr) (i : Nat) (h : Heap) : Prop :=
  (AtZ b c z TI TO i1 i2 p q i h) ∨ ∃ T f, IsZipHeld h z TI TO T f ∧ (∃ oT, h.get? T = some oT) ∧ IsTupOf2 h TI (.ref i1) (.ref i2) ∧ (∃ oo, h.get? TO = some oo) ∧ IterB b h i1 p i ∧ IterB c h i2 q i
theorem ZSt.keep (st : ZSt b c z TI TO i1 i2 p q i h) (k : ∀ a o, h.get? a = some o → a ≠ S → h'.get? a = some o) (hT : ∀ a, a ∈ [z, TI, TO, i1, i2] → a ≠ S) (hS : ∃ o, h'.get? S = some o) : ZSt b c z TI TO i1 i2 p q i h' := by
  rcases st with ⟨hz, hTI, ⟨x, y, hTO⟩, h1, h2⟩ | ⟨T, f, hz, ⟨oT, hTT⟩, hTI, ⟨oo, hTO⟩, h1, h2⟩
  · exact .inl ⟨k _ _ hz (hT z (by simp)), k _ _ hTI (hT TI (by simp)), ⟨x, y, k _ _ hTO (hT TO (by simp))⟩, h1.at fun o r => k _ _ r (hT i1 (by simp)), h2.at fun o r => k _ _ r (hT i2 (by simp))⟩
  · refine .inr ⟨T, f, k _ _ hz (hT z (by simp)), ?_, k _ _ hTI (hT TI (by simp)), ⟨oo, k _ _ hTO (hT TO (by simp))⟩, h1.at fun o r => k _ _ r (hT i1 (by simp)), h2.at fun o r => k _ _ r (hT i2 (by simp))⟩
    by_cases e : T = S
    · rw [e]; exact hS
    · exact ⟨oT, k _ _ hTT e⟩
theorem itNe (p1 : ItemsB b h p xs') (h1 : IterB b h i1 p i) : p ≠ i1 := fun e => by
  subst e
  cases b with
  | true => obtain ⟨o1, q1, q2, _, q3⟩ := p1; obtain ⟨o2, r1, r2, r3⟩ := h1; rw [q1] at r1; cases r1; rw [q2] at r2; simp at r2
  | false => obtain ⟨o1, q1, q2, _, q3⟩ := p1; obtain ⟨o2, r1, r2, r3⟩ := h1; rw [q1] at r1; cases r1; rw [q2] at r2; simp at r2
theorem zturn_item {A : Around} {E : Value → Shared → Prop} {Q : Option Value → Shared → Prop} (hh : A.in1.handled = none) (Sp : ZipSep2 z TI TO i1 i2 [i1, p] [i2, q]) (I : Inv X pins σ H s) (st : ZSt b c z TI TO i1 i2 p q i s.heap)
    (hqx : SqB b X.K H p xs) (hqy : SqB c X.K H q ys) (hf : ∀ a ∈ [z, TI, TO, i1, i2], FpOk X pins H a) (hx : xs[i]? = some x) (hy : ys[i]? = some y)
    (hQ : ∀ T h' tk, s.heap.objs.size ≤ T → H T = none → Inv X pins σ (upd H T (.tup [x, y])) { s with heap := h', toks := tk } → ZSt b c z TI TO i1 i2 p q (i + 1) h' →
      (∀ a o, a ∉ [z, TI, TO, i1, i2] → s.heap.get? a = some o → h'.get? a = some o) → Q (some (.ref T)) { s with heap := h', toks := tk }) :
    wpAny (model X.prog X.w) A (pyNext (.ref z)) Q E s := by
  obtain ⟨its, rv, p1⟩ := Inv.seqB I hqx
  obtain ⟨its2, rv2, p2⟩ := Inv.seqB I hqy
  obtain ⟨u, hu, ru⟩ := rv.get hx
  obtain ⟨u2, hu2, ru2⟩ := rv2.get hy
  have l1 : i < its.toArray.size := by rw [List.size_toArray]; exact (List.getElem?_eq_some_iff.mp hu).1
  have l2 : i < its2.toArray.size := by rw [List.size_toArray]; exact (List.getElem?_eq_some_iff.mp hu2).1
  rcases st with ⟨hz, hTI, ⟨x0, y0, hTO⟩, h1, h2⟩ | ⟨T, f, hz, ⟨oT, hTT⟩, hTI, ⟨oo, hTO⟩, h1, h2⟩
  · refine wpAny_pyNext_zipD2_item Sp (drawsB b hh i1 p (itNe p1 h1) its.toArray) (drawsB c hh i2 q (itNe p2 h2) its2.toArray) hz hTI hTO ⟨h1, p1⟩ ⟨h2, p2⟩ l1 l2 fun x1 x2 h' tk e1 e2 z' TO' d1 d2 hT hsz hk => ?_
    have ex1 : x1 = u := by simpa [hu] using e1.symm
    have ex2 : x2 = u2 := by simpa [hu2] using e2.symm
    subst ex1 ex2
    have new : ObjOk X.prog X.w (upd H s.heap.objs.size (.tup [x, y])) h' s.heap.objs.size (.tup [x, y]) :=
      ⟨by show 2 ≤ sizeLine; decide, [x1, x2], .cons ru (.cons ru2 .nil), ⟨_, hT, rfl, _, rfl⟩⟩
    refine hQ _ h' tk (Nat.le_refl _) (I.hok.fresh (Nat.le_refl _)) (I.turnedNew (ch := [z, TI, TO, i1, i2]) (fun a o ha r => hk a o (fun e => ha (by simp [e])) (fun e => ha (by simp [e])) (fun e => ha (by simp [e])) (fun e => ha (by simp [e])) r) hf (Nat.le_refl _) new) ?_
      fun a o ha r => hk a o (fun e => ha (by simp [e])) (fun e => ha (by simp [e])) (fun e => ha (by simp [e])) (fun e => ha (by simp [e])) r
    exact .inr ⟨s.heap.objs.size, false, z', ⟨_, hT⟩, hk _ _ Sp.TIz Sp.TITO Sp.TIi1 Sp.TIi2 hTI, ⟨_, TO'⟩, d1.1, d2.1⟩
  · refine pyNext_zipH_item Sp (drawsB b hh i1 p (itNe p1 h1) its.toArray) (drawsB c hh i2 q (itNe p2 h2) its2.toArray) hz hTT hTI ⟨h1, p1⟩ ⟨h2, p2⟩ l1 l2 fun x1 x2 h' tk e1 e2 z' d1 d2 hT hsz hk => ?_
    have ex1 : x1 = u := by simpa [hu] using e1.symm
    have ex2 : x2 = u2 := by simpa [hu2] using e2.symm
    subst ex1 ex2
    have new : ObjOk X.prog X.w (upd H s.heap.objs.size (.tup [x, y])) h' s.heap.objs.size (.tup [x, y]) :=
      ⟨by show 2 ≤ sizeLine; decide, [x1, x2], .cons ru (.cons ru2 .nil), ⟨_, hT, rfl, _, rfl⟩⟩
    refine hQ _ h' tk (Nat.le_refl _) (I.hok.fresh (Nat.le_refl _)) (I.turnedNew (ch := [z, TI, TO, i1, i2]) (fun a o ha r => hk a o (fun e => ha (by simp [e])) (fun e => ha (by simp [e])) (fun e => ha (by simp [e])) r) hf (Nat.le_refl _) new) ?_
      fun a o ha r => hk a o (fun e => ha (by simp [e])) (fun e => ha (by simp [e])) (fun e => ha (by simp [e])) r
    have htt : ∃ oT', h'.get? T = some oT' := by
      by_cases e1 : T = z
      · rw [e1]; exact ⟨_, z'⟩
      · by_cases e2 : T = i1
        · rw [e2]; obtain ⟨o, r, _⟩ := d1.1.rec; exact ⟨o, r⟩
        · by_cases e3 : T = i2
          · rw [e3]; obtain ⟨o, r, _⟩ := d2.1.rec; exact ⟨o, r⟩
          · exact ⟨_, hk _ _ e1 e2 e3 hTT⟩
    exact .inr ⟨T, true, z', htt, hk _ _ Sp.TIz Sp.TIi1 Sp.TIi2 hTI, ⟨_, hk _ _ Sp.TOz (Ne.symm (fun e => Sp.Tf1 (by simp [e]))) (Ne.symm (fun e => Sp.Tf2 (by simp [e]))) hTO⟩, d1.1, d2.1⟩
theorem zturn_end {A : Around} {E : Value → Shared → Prop} {Q : Option Value → Shared → Prop} (hh : A.in1.handled = none) (Sp : ZipSep2 z TI TO i1 i2 [i1, p] [i2, q]) (I : Inv X pins σ H s) (st : ZSt b c z TI TO i1 i2 p q i s.heap)
    (hqx : SqB b X.K H p xs) (hqy : SqB c X.K H q ys) (hf : ∀ a ∈ [z, TI, TO, i1, i2], FpOk X pins H a) (hl1 : i ≤ xs.length) (hl2 : i ≤ ys.length) (he : i = xs.length ∨ i = ys.length)
    (hQ : ∀ h' tk, Inv X pins σ H { s with heap := h', toks := tk } → (∀ a o, a ∉ [z, TI, TO, i1, i2] → s.heap.get? a = some o → h'.get? a = some o) → Q none { s with heap := h', toks := tk }) :
    wpAny (model X.prog X.w) A (pyNext (.ref z)) Q E s := by
  obtain ⟨its, rv, p1⟩ := Inv.seqB I hqx
  obtain ⟨its2, rv2, p2⟩ := Inv.seqB I hqy
  have e1 := rv.length
  have e2 := rv2.length
  rcases st with ⟨hz, hTI, ⟨x0, y0, hTO⟩, h1, h2⟩ | ⟨T, f, hz, ⟨oT, hTT⟩, hTI, ⟨oo, hTO⟩, h1, h2⟩
  · refine wpAny_pyNext_zipD2_end Sp (drawsB b hh i1 p (itNe p1 h1) its.toArray) (drawsB c hh i2 q (itNe p2 h2) its2.toArray) hz hTI hTO ⟨h1, p1⟩ ⟨h2, p2⟩ (by simp; omega) (by simp; omega) (by simp; omega) fun h' tk hk => hQ h' tk ?_ ?_
    · exact I.turnedL (ch := [z, TI, TO, i1, i2]) (fun a o ha r => hk a o (fun e => ha (by simp [e])) (fun e => ha (by simp [e])) (fun e => ha (by simp [e])) (fun e => ha (by simp [e])) r) hf
    · exact fun a o ha r => hk a o (fun e => ha (by simp [e])) (fun e => ha (by simp [e])) (fun e => ha (by simp [e])) (fun e => ha (by simp [e])) r
  · refine pyNext_zipH_end Sp (drawsB b hh i1 p (itNe p1 h1) its.toArray) (drawsB c hh i2 q (itNe p2 h2) its2.toArray) hz hTT hTI ⟨h1, p1⟩ ⟨h2, p2⟩ (by simp; omega) (by simp; omega) (by simp; omega) fun h' tk hk => hQ h' tk ?_ ?_
    · exact I.turnedL (ch := [z, TI, TO, i1, i2]) (fun a o ha r => hk a o (fun e => ha (by simp [e])) (fun e => ha (by simp [e])) (fun e => ha (by simp [e])) r) hf
    · exact fun a o ha r => hk a o (fun e => ha (by simp [e])) (fun e => ha (by simp [e])) (fun e => ha (by simp [e])) r
end
end Pv

/-! Pv, part R: list(zip(a, b)): the loop and the call. -/
namespace Pv
open PySem PySem.Spec PyProof.Rows L2
/-- the pairs are new tuples; then the list -/
def zGo (Q : V → Hp → Prop) : List V → List V → List V → Hp → Prop
  | x :: xs, y :: ys, acc, H => ∀ T, H T = none → zGo Q xs ys (acc ++ [.ref T]) (upd H T (.tup [x, y]))
  | _, _, acc, H => ∀ S, H S = none → Q (.ref S) (upd H S (.lst acc))
theorem zip_no_len : typeLookup (.type "zip") "__len__" = pure none := am_miss_of_fast (by decide +kernel)
theorem zip_no_hint : typeLookup (.type "zip") "__length_hint__" = pure none := am_miss_of_fast (by decide +kernel)
section
variable {X : Cx} {pins : List (Addr × Obj)} {σ : L2.St} {b c : Bool} {z TI TO p q i1 i2 S : Addr} {xs ys : List V} {A : Around} {R : Result → Shared → Prop} {res : Value} {Q : V → Hp → Prop}
theorem seqB_upd [Fed] {K : PySem.W.Frag} {H : Hp} {a T : Addr} {o : HO} (hn : H T = none) (h : SqB b K H a xs) : SqB b K (upd H T o) a xs := by
  cases b with
  | true => exact (same_new hn).seq (show SqL K H a xs from h)
  | false => exact sqT_mono (same_new hn) (show SqT K H a xs from h)
theorem drainZ [Fed] (hh : A.handled = none) (Sp : ZipSep2 z TI TO i1 i2 [i1, p] [i2, q]) (hS : ∀ a ∈ [z, TI, TO, i1, i2], a ≠ S)
    (hend : ∀ H1 v s', Inv X pins σ H1 s' → v = V.ref S → Q v H1 → R (.ok (.ret res)) s') :
    ∀ (n i : Nat) (xr yr : List V) (s : Shared) (H : Hp) (acc : Array Value) (k : Nat) (vs : List V), n + i = min xs.length ys.length → xr = xs.drop i → yr = ys.drop i → n + i ≤ sizeLine → Inv X pins σ H s → SqB b X.K H p xs → SqB c X.K H q ys →
      ZSt b c z TI TO i1 i2 p q i s.heap → (∀ a ∈ [z, TI, TO, i1, i2], FpOk X pins H a) → FpOk X pins H S → s.heap.get? S = some (lstObj acc k) → Vals vs acc.toList → vs.length = i → zGo Q xr yr vs H →
      codeAny (model X.prog X.w) A (.builtin "list.extend.loop" ⟨[.ref S, .ref z, res], []⟩) R s := by
  intro n
  induction n with
  | zero =>
    intro i xr yr s H acc k vs hn ex ey hle I hqx hqy st hf hfS hS1 rv hvl go
    refine codeAny_builtin F.entry_extend_loop ?_
    rw [Around.under_plainId F.plain_extend_loop _]
    show wpAny _ A.in1 (pyNext (.ref z) >>= _) _ _ s
    refine wpAny_bind (zturn_end (A := A.in1) hh Sp I st hqx hqy hf (by omega) (by omega) (by omega) fun h' tk I1 hk => ?_)
    refine wpAny_pure ?_
    have hS2 : h'.get? S = some (lstObj acc k) := hk S _ (fun e => hS S e rfl) hS1
    have hgo : ∀ S, H S = none → Q (.ref S) (upd H S (.lst vs)) := by
      have e : xr = [] ∨ yr = [] := by
        rw [ex, ey]
        by_cases h : xs.length ≤ i
        · exact .inl (List.drop_eq_nil_of_le h)
        · exact .inr (List.drop_eq_nil_of_le (by omega))
      rcases e with e | e
      · rw [e] at go; exact go
      · rw [e] at go
        cases xr with
        | nil => exact go
        | cons a l => exact go
    have new : ObjOk X.prog X.w (upd H S (.lst vs)) h' S (.lst vs) := ⟨by rw [hvl]; omega, acc.toList, k, rv, by rw [hS2]⟩
    exact hend _ _ _ (Pv.Inv.track I1 hfS new) rfl (hgo S hfS.1)
  | succ n ih =>
    intro i xr yr s H acc k vs hn ex ey hle I hqx hqy st hf hfS hS1 rv hvl go
    have l1 : i < xs.length := by omega
    have l2 : i < ys.length := by omega
    obtain ⟨x, hx⟩ : ∃ x, xs[i]? = some x := ⟨_, List.getElem?_eq_getElem l1⟩
    obtain ⟨y, hy⟩ : ∃ y, ys[i]? = some y := ⟨_, List.getElem?_eq_getElem l2⟩
    have dx : xs.drop i = x :: xs.drop (i + 1) := by
      rw [List.drop_eq_getElem_cons l1]
      rw [List.getElem?_eq_getElem l1] at hx
      cases hx; rfl
    have dy : ys.drop i = y :: ys.drop (i + 1) := by
      rw [List.drop_eq_getElem_cons l2]
      rw [List.getElem?_eq_getElem l2] at hy
      cases hy; rfl
    rw [ex, ey, dx, dy] at go
    refine codeAny_builtin F.entry_extend_loop ?_
    rw [Around.under_plainId F.plain_extend_loop _]
    show wpAny _ A.in1 (pyNext (.ref z) >>= _) _ _ s
    refine wpAny_bind (zturn_item (A := A.in1) hh Sp I st hqx hqy hf hx hy fun T h' tk hT hTn I1 st1 hk => ?_)
    have hS2 : h'.get? S = some (lstObj acc k) := hk S _ (fun e => hS S e rfl) hS1
    have hal : acc.size = i := by
      have := rv.length
      rw [hvl] at this
      simpa using this.symm
    have hasz : acc.size < sizeLine := by omega
    show wpAny _ A.in1 (updateSeq S (·.push (.ref T)) >>= _) _ _ _
    refine wpAny_bind ?_
    refine wpAny_updateSeq (s := { s with heap := h', toks := tk }) hS2 rfl (wpAny_pure ⟨plainId_quiet F.plain_extend_loop _, ?_⟩) (Nat.le_of_lt hasz) (by show (acc.push (.ref T)).size ≤ sizeLine + 1; rw [Array.size_push]; omega)
    have keep3 : ∀ a o, h'.get? a = some o → a ≠ S → (h'.update S (Obj.mapSeq (·.push (.ref T)))).get? a = some o := fun a o e hb => (Heap.get?_update_other _ _ (Ne.symm hb)).trans e
    obtain ⟨k', hS3⟩ : ∃ k', (h'.update S (Obj.mapSeq (·.push (.ref T)))).get? S = some (lstObj (acc.push (.ref T)) k') := ⟨_, Heap.get?_update_self _ hS2 rfl⟩
    have lt : ∀ a, FpOk X pins H a → (∃ o, s.heap.get? a = some o) → FpOk X pins (upd H T (.tup [x, y])) a := fun a f ⟨o, e⟩ => ⟨by rw [upd_ne (Nat.ne_of_lt (Nat.lt_of_lt_of_le (Heap.lt_size e) hT))]; exact f.1, f.2⟩
    have hfS' : FpOk X pins (upd H T (.tup [x, y])) S := lt S hfS ⟨_, hS1⟩
    have hf' : ∀ a ∈ [z, TI, TO, i1, i2], FpOk X pins (upd H T (.tup [x, y])) a := fun a ha => lt a (hf a ha) (by
      have e' : a = z ∨ a = TI ∨ a = TO ∨ a = i1 ∨ a = i2 := by simpa using ha
      rcases st with ⟨hz, hTI, ⟨x0, y0, hTO⟩, h1, h2⟩ | ⟨T', f, hz, ⟨oT, hTT⟩, hTI, ⟨oo, hTO⟩, h1, h2⟩ <;> rcases e' with e | e | e | e | e <;> subst e
      · exact ⟨_, hz⟩
      · exact ⟨_, hTI⟩
      · exact ⟨_, hTO⟩
      · obtain ⟨o, r, _⟩ := h1.rec; exact ⟨o, r⟩
      · obtain ⟨o, r, _⟩ := h2.rec; exact ⟨o, r⟩
      · exact ⟨_, hz⟩
      · exact ⟨_, hTI⟩
      · exact ⟨_, hTO⟩
      · obtain ⟨o, r, _⟩ := h1.rec; exact ⟨o, r⟩
      · obtain ⟨o, r, _⟩ := h2.rec; exact ⟨o, r⟩)
    have hfl : ∀ a ∈ [S], FpOk X pins (upd H T (.tup [x, y])) a := fun a ha => by
      have e : a = S := by simpa using ha
      rw [e]; exact hfS'
    have I2 : Inv X pins σ (upd H T (.tup [x, y])) { s with heap := h'.update S (Obj.mapSeq (·.push (.ref T))), toks := tk } :=
      Inv.turnedL (s := { s with heap := h', toks := tk }) (ch := [S]) (t' := tk) I1 (fun a o ha e => keep3 a o e (fun w => ha (by simp [w]))) hfl
    refine ih (i + 1) _ _ _ _ (acc.push (.ref T)) k' (vs ++ [.ref T]) (by omega) rfl rfl (by omega) I2 (seqB_upd hTn hqx) (seqB_upd hTn hqy) (st1.keep keep3 hS ⟨_, hS3⟩) hf' hfS' hS3 ?_ (by simp [hvl]) (go T hTn)
    rw [Array.toList_push]
    exact rv.append (.cons rfl .nil)
theorem call_listZ [Fed] {H : Hp} {s : Shared} {E : Value → Shared → Prop} {Q' : Value → Shared → Prop} (hh : X.A.handled = none) (Sp : ZipSep2 z TI TO i1 i2 [i1, p] [i2, q]) (I : Inv X pins σ H s) (hqx : SqB b X.K H p xs) (hqy : SqB c X.K H q ys) (hle : min xs.length ys.length ≤ sizeLine)
    (st : AtZ b c z TI TO i1 i2 p q 0 s.heap) (hf : ∀ a ∈ [z, TI, TO, i1, i2], FpOk X pins H a) (go : zGo Q xs ys [] H)
    (hQ : ∀ v u H1 s', Inv X pins σ H1 s' → RelV v u → Q v H1 → Q' u s') : wpAny (model X.prog X.w) X.A (call (.type "list") [.ref z]) Q' E s := by
  have hin : ∀ a ∈ [z, TI, TO, i1, i2], a < s.heap.objs.size := fun a ha => by
    obtain ⟨hz, hTI, ⟨x0, y0, hTO⟩, h1, h2⟩ := st
    have e' : a = z ∨ a = TI ∨ a = TO ∨ a = i1 ∨ a = i2 := by simpa using ha
    rcases e' with e | e | e | e | e <;> subst e
    · exact Heap.lt_size hz
    · exact Heap.lt_size hTI
    · exact Heap.lt_size hTO
    · obtain ⟨_, e1, _⟩ := h1.rec; exact Heap.lt_size e1
    · obtain ⟨_, e2, _⟩ := h2.rec; exact Heap.lt_size e2
  have hSz : ∀ a ∈ [z, TI, TO, i1, i2], a ≠ s.heap.objs.size := fun a ha => Nat.ne_of_lt (hin a ha)
  have hSa : s.heap.objs.size ≠ z := Ne.symm (hSz z (by simp))
  refine callType_codes (Q₁ := fun obj s₁ => obj = .ref s.heap.objs.size ∧ s₁ = { s with heap := s.heap.push { cls := .type "list", data := .seq #[] } }) F.called_list (F.typeCall_list_1 _) F.entry_list_init
    (code_list_new _ ⟨rfl, rfl⟩) fun obj s₁ h₁ => ?_
  obtain ⟨rfl, rfl⟩ := h₁
  have hS : (s.heap.push { cls := .type "list", data := .seq #[] }).get? s.heap.objs.size = some { cls := .type "list", data := .seq #[] } := Heap.get?_push_size _ rfl
  refine ⟨⟨_, hS, rfl⟩, F.args_list_init_2 _ _, ?_⟩
  show wpAny _ X.A.in1.in1 (do let old ← Builtin.List.listItems (.ref s.heap.objs.size); Builtin.List.listUpdate (.ref s.heap.objs.size) (fun _ => #[]); letGo old.toList.reverse; Builtin.List.listExtendWith (.ref s.heap.objs.size) (.ref z) .none) _ _ _
  refine wpAny_bind ?_
  unfold Builtin.List.listItems
  refine wpAny_bind (wpAny_seqItems hS rfl (wpAny_pure ?_))
  show wpAny _ X.A.in1.in1 (updateSeq s.heap.objs.size (fun _ => #[]) >>= fun _ => letGo (#[] : Array Value).toList.reverse >>= fun _ => Builtin.List.listExtendWith (.ref s.heap.objs.size) (.ref z) .none) _ _ _
  refine wpAny_bind (wpAny_updateSeq hS rfl ?_)
  have hS2 := Heap.get?_update_self (Obj.mapSeq (fun _ => (#[] : Array Value))) hS rfl
  refine wpAny_bind (wpAny_letGo ?_)
  unfold Builtin.List.listExtendWith
  have up : ∀ (h : Heap) (f : Obj → Obj), (∀ b o, s.heap.get? b = some o → h.get? b = some o) → ∀ b o, s.heap.get? b = some o → (h.update s.heap.objs.size f).get? b = some o := fun h f q b o e =>
    (Heap.get?_update_other _ _ (Ne.symm (Nat.ne_of_lt (Heap.lt_size e)))).trans (q b o e)
  have k1 : ∀ b o, s.heap.get? b = some o → (s.heap.push { cls := .type "list", data := .seq #[] }).get? b = some o := fun b o e => Heap.get?_push_of_some _ e
  have k2 := up _ (Obj.mapSeq (fun _ => (#[] : Array Value))) k1
  have hz : IsZip s.heap z TI TO .none := st.1
  have gty : ∀ {h : Heap}, (∀ b o, s.heap.get? b = some o → h.get? b = some o) → ({ s with heap := h } : Shared).TypeIs (.ref z) "zip" := fun {h} q => ⟨_, q _ _ hz, rfl⟩
  refine wpAny_bind (wpAny_typeOf (gty k2) ?_)
  have h1 : Builtin.List.listSameRef (.ref s.heap.objs.size) (.ref z) = false := by simp [Builtin.List.listSameRef, hSa]
  have h2 : (Value.type "zip" == Value.type "list") = false := by decide
  have h3 : (Value.type "zip" == Value.type "tuple") = false := by decide
  simp only [h1, h2, h3, Bool.or_false, Bool.false_eq_true, if_false]
  refine wpAny_bind (wpAny_pyIter_zip (s := { s with heap := _ }) (k2 _ _ hz) ?_)
  refine wpAny_bind (wpAny_holding ?_)
  unfold Builtin.List.listLengthHint
  refine wpAny_bind (wpAny_specialOf (gty k2) zip_no_len ?_)
  show wpAny _ X.A.in1.in1 (specialOf (Value.ref z) (Str.ofString "__length_hint__") >>= _) _ _ _
  refine wpAny_bind (wpAny_specialOf (gty k2) zip_no_hint ?_)
  refine wpAny_pure ?_
  show wpAny _ X.A.in1.in1 (rule "list.extend.makes-room" >>= fun _ => Builtin.List.listTouch (.ref s.heap.objs.size) >>= fun _ =>
    again (.builtin "list.extend.loop" ⟨[.ref s.heap.objs.size, .ref z, .none], []⟩)) _ _ _
  refine wpAny_bind (wpAny_rule ?_)
  refine wpAny_bind ?_
  show wpAny _ X.A.in1.in1 (updateSeq s.heap.objs.size (·.push .none) >>= fun _ => updateSeq s.heap.objs.size (·.pop)) _ _ _
  refine wpAny_bind (wpAny_updateSeq hS2 rfl ?_)
  have hS3 := Heap.get?_update_self (Obj.mapSeq (·.push Value.none)) hS2 rfl
  refine wpAny_updateSeq (hz := by seq_fits) hS3 rfl ?_
  have hS4 := Heap.get?_update_self (Obj.mapSeq (·.pop)) hS3 rfl
  have k4 := up _ (Obj.mapSeq (·.pop)) (up _ (Obj.mapSeq (·.push Value.none)) k2)
  refine wpAny_pure ⟨plainId_quiet F.plain_extend_loop _, ?_⟩
  have I4 := I.kept (t' := s.toks) k4
  refine drainZ (X := X) (pins := pins) (σ := σ) (Q := Q) (b := b) (c := c) (xs := xs) (ys := ys) (A := X.A.in1) hh Sp hSz (fun H1 v s' I' ev hv => ⟨rfl, hQ v _ H1 s' I' (by rw [ev]; rfl) hv⟩)
    (min xs.length ys.length) 0 xs ys _ H #[] _ [] (by omega) rfl rfl (by omega) I4 hqx hqy (.inl ?_) hf (I.fpOk (Nat.le_refl _) (I.hok.fresh (Nat.le_refl _))) hS4 .nil rfl go
  obtain ⟨hz, hTI, ⟨x, y, hTO⟩, h1, h2⟩ := st
  exact ⟨k4 _ _ hz, k4 _ _ hTI, ⟨x, y, k4 _ _ hTO⟩, h1.at fun o r => k4 _ _ r, h2.at fun o r => k4 _ _ r⟩
def tListZip (K : PySem.W.Frag) (ta : TA) : TE := fun σ H Q => ta σ H fun vs H1 => ∃ (b c : Bool) (p q : Addr) (xs ys : List V), vs = [.ref p, .ref q] ∧ SqB b K H1 p xs ∧ SqB c K H1 q ys ∧ min xs.length ys.length ≤ sizeLine ∧ zGo Q xs ys [] H1
theorem pe_listZip [Fed] {e e2 : Expr} {ta : TA} {pl pz pos pos' : Pos} (hc : X.calm = true) (hg : Gl X "list") (hm : X.mg "list" = none) (hg2 : Gl X "zip") (hm2 : X.mg "zip" = none) (ha : PA X [e, e2] ta)
    (nb : starEach [.Call (.Name "zip" pz) [e, e2] [] pos'] X.env = (false, eval (.Call (.Name "zip" pz) [e, e2] [] pos') X.env) :: starEach [] X.env := by rfl)
    (hs : starEach [e, e2] X.env = (false, eval e X.env) :: starEach [e2] X.env := by rfl) (hpl : (backTo pos' (starEach [e2] X.env)).any (·.1) = false := by rfl) :
    PE X (.Call (.Name "list" pl) [.Call (.Name "zip" pz) [e, e2] [] pos'] [] pos) (tListZip X.K ta) := by
  refine ⟨fun pins s σ H Q I h => ?_⟩
  refine wpAny_Call_Name_kw (ld_blt I hg hm PyProof.Rows.boot_list ?_)
  refine PyProof.Rows.callWith_type1 ?_ nb rfl
  rw [nb]
  show wpAny _ _ (spliced ((false, eval (.Call (.Name "zip" pz) [e, e2] [] pos') X.env) :: backTo pos (starEach [] X.env))) _ _ s
  refine Calls.spliced_cons ?_
  refine wpAny_Call_Name_kw (ld_blt I hg2 hm2 PyProof.Rows.boot_zip (PyProof.Rows.callWith_type1 (thn (ha.run pos' pins s σ H _ I h) fun us s1 ⟨vs, H1, I1, r1, q1⟩ => ?_) hs hpl))
  obtain ⟨b, c, a1, a2, xs, ys, ex, hqx, hqy, hle, go⟩ := q1
  subst ex
  obtain ⟨v1, v2, rfl, r1, r2⟩ := vals2 r1
  cases r1
  cases r2
  obtain ⟨its, rv, p1⟩ := Inv.seqB I1 hqx
  obtain ⟨its2, rv2, p2⟩ := Inv.seqB I1 hqy
  obtain ⟨o1, ho1⟩ := p1.there
  obtain ⟨o2, ho2⟩ := p2.there
  have hl1 := Heap.lt_size ho1
  have hl2 := Heap.lt_size ho2
  refine zip_begins2 (beginsB b a1 its.toArray) (beginsB c a2 its2.toArray) p1 p2 fun h' hz hTI hTO h1 h2 hsz hk => ?_
  refine Calls.spliced_nil ?_
  have I2 : Inv X pins σ H1 { s1 with heap := h' } := I1.kept (t' := s1.toks) hk
  refine call_listZ (b := b) (c := c) (p := a1) (q := a2) (I1.ok.hd hc) (zip_sep2 (N := s1.heap.objs.size) (fp1 := [a1]) (fp2 := [a2]) ?_ ?_) I2 hqx hqy hle ⟨hz, hTI, ⟨_, _, hTO⟩, iterB_new b a1 h1, iterB_new c a2 h2⟩ (fun a ha => ?_) go (fun v u H2 s' I' r q => ⟨v, H2, I', r, q⟩)
  · intro x hx
    have : x = a1 := by simpa using hx
    subst this; exact hl1
  · intro x hx
    have : x = a2 := by simpa using hx
    subst this; exact hl2
  · have e' : a = s1.heap.objs.size + 4 ∨ a = s1.heap.objs.size + 2 ∨ a = s1.heap.objs.size + 3 ∨ a = s1.heap.objs.size ∨ a = s1.heap.objs.size + 1 := by simpa using ha
    have hle : s1.heap.objs.size ≤ a := by rcases e' with z | z | z | z | z <;> (rw [z]; first | exact Nat.le_add_right _ _ | exact Nat.le_refl _)
    exact I1.fpOk hle (I1.hok.fresh hle)
end
/-! ### the evaluator -/
def gLstZ (ob : Bool) (ds es : List PD) (h : AH) : Res Sl := if ds.length ≤ 100000 then (if ob then .ok (.obj h.length) (h ++ [.lst (zipD ds es)]) else .ok (.dat (.list (zipD ds es))) h) else .no
def cLstZ (ob : Bool) (ta : Ax) : Ex := fun env h => (ta env h).bind fun xs h1 => match xs with
  | [x, y] => match frzSeq x, frzSeq y with
    | some ds, some es => gLstZ ob ds es h1
    | _, _ => .no
  | _ => .no
section
variable [Fed] {C : Cn} {Wx : XK} {X : Cx} {e e2 : Expr} {tr : Ax} {p q pos pos' : Pos}
theorem zGo_out {ob : Bool} {Q : VK} : ∀ (ds es : List PD) (xs ys : List V) (acc : List V) (ad : List PD) {F U H : Hp} {μ : List Addr} {h : AH}, Lk C.K F U μ H h → RDs C.K F xs ds → RDs C.K F ys es → RDs C.K F acc ad →
    Out C F U μ Wx (rSl C.K) Q (if ob then .ok (.obj h.length) (h ++ [.lst (ad ++ zipD ds es)]) else .ok (.dat (.list (ad ++ zipD ds es))) h) → zGo Q xs ys acc H := by
  intro ds
  induction ds with
  | nil =>
    intro es xs ys acc ad F U H μ h l r1 r2 ra o
    cases r1
    have e : zipD [] es = [] := by simp [zipD]
    rw [e, List.append_nil] at o
    show ∀ S, H S = none → Q (.ref S) (upd H S (.lst acc))
    intro S hS
    cases ob with
    | true => exact Out.newO (by simpa using o) l ra hS
    | false => exact Out.newL (by simpa using o) l ra hS
  | cons d ds ih =>
    intro es xs ys acc ad F U H μ h l r1 r2 ra o
    cases r1 with
    | cons rd1 r1 =>
      cases es with
      | nil =>
        cases r2
        have e : zipD (d :: ds) [] = [] := by simp [zipD]
        rw [e, List.append_nil] at o
        show ∀ S, H S = none → Q (.ref S) (upd H S (.lst acc))
        intro S hS
        cases ob with
        | true => exact Out.newO (by simpa using o) l ra hS
        | false => exact Out.newL (by simpa using o) l ra hS
      | cons e' es =>
        cases r2 with
        | cons rd2 r2 =>
          intro T hT
          obtain ⟨F2, U2, g, l2, rt⟩ := newT_world l hT (.cons rd1 (.cons rd2 .nil))
          refine ih es _ _ _ (ad ++ [.tuple [d, e']]) l2 (r1.mono g.f) (r2.mono g.f) ((ra.mono g.f).app (.cons rt .nil)) ?_
          have ez : (ad ++ [PyData.tuple [d, e']]) ++ zipD ds es = ad ++ zipD (d :: ds) (e' :: es) := by simp [zipD]
          rw [ez]
          exact o.mono g (List.prefix_refl _)
theorem se_lstZ (ob : Bool) (hg : Gl X "list") (hm : X.mg "list" = none) (hg2 : Gl X "zip") (hm2 : X.mg "zip" = none) (ha : SA C Wx X [e, e2] tr) (hc : X.calm = true := by rfl) (hK : X.K = C.K := by rfl)
    (nb : starEach [.Call (.Name "zip" q) [e, e2] [] pos'] X.env = (false, eval (.Call (.Name "zip" q) [e, e2] [] pos') X.env) :: starEach [] X.env := by rfl)
    (hs : starEach [e, e2] X.env = (false, eval e X.env) :: starEach [e2] X.env := by rfl) (hpl : (backTo pos' (starEach [e2] X.env)).any (·.1) = false := by rfl) :
    SE C Wx X (.Call (.Name "list" p) [.Call (.Name "zip" q) [e, e2] [] pos'] [] pos) (cLstZ ob tr) := ⟨pe_imp (pe_listZip hc hg hm hg2 hm2 ha.pa nb hs hpl) fun σ H Q z => by
  obtain ⟨F, U, μ, env, h, l, ev, o⟩ := z
  refine rd_step l ev o fun x vx F1 U1 μ1 H1 h1 g1 p1 l1 r1 e1 o1 => ?_
  rw [hK]
  split at o1
  · obtain ⟨v, w, rfl, rv, rw'⟩ := slRs2 r1
    split at o1
    · rename_i ds es c1 c2
      obtain ⟨b1, a1, vs1, rfl, s1, d1⟩ := frzSeq_ok rv c1
      obtain ⟨b2, a2, vs2, rfl, s2, d2⟩ := frzSeq_ok rw' c2
      unfold gLstZ at o1
      split at o1
      · rename_i hlen
        refine ⟨b1, b2, a1, a2, vs1, vs2, rfl, sqB_mono l1.fh s1, sqB_mono l1.fh s2, ?_, zGo_out (ob := ob) ds es vs1 vs2 [] [] l1 d1 d2 .nil (by simpa using o1)⟩
        have q1 := d1.len
        have q2 : (100000 : Nat) ≤ sizeLine := by decide
        omega
      · exact o1.elim
    · exact o1.elim
  · exact o1.elim⟩
end
end Pv

/-! Pv, part S: sorted(set(xs)) of ints. -/
namespace Pv
open PySem PySem.Spec PyProof.Rows L2
section
variable {P : Program} {w : World} {A : Around} {E : Value → Shared → Prop} {s : Shared}
set_option maxHeartbeats 3200000 in
theorem call_set_lstI {l : Addr} {items : Array Value} (ns : List Int) {Q : Value → Shared → Prop} (hh : A.handled = none) (hl : s.heap.IsList l items) (hit : IntsAre items.toList ns) (hb : ns.length + 1 < scanBound)
    (h : ∀ (h' : Heap) (tk c : Nat), SetR w h' s.heap.objs.size (fun j => decide (j ∈ ns)) c → c ≤ ns.length → (∀ b o, s.heap.get? b = some o → h'.get? b = some o) → Q (.ref s.heap.objs.size) { s with heap := h', toks := tk }) :
    wpAny (model P w) A (call (.type "set") [.ref l]) Q E s := by
  have hisz : items.size = ns.length := by
    have q := IntsAre.length hit
    rw [Array.length_toList] at q
    exact q
  obtain ⟨c, tl, hmro⟩ := F.called_set.mro
  have hmade := F.called_set.made
  have hsub := F.called_set.sub
  refine wpAny_call (codeAny_of_tree ?_)
  show wpAny _ _ (callAny (.type "set") _) _ _ _
  refine wpAny_pure ⟨Code.quiet_builtin _ (by decide +kernel), codeAny_builtin F.entry_type_call ?_⟩
  rw [Around.under_plain (weight_type_call_type "set" [.ref l] []) rfl]
  have h1 := F.called_set.notType
  have h2 := F.called_set.canCreate
  have hct := F.typeCall_set_1 (.ref l)
  repeat (any_goals (first | assumption | wp_step))

  refine codeAny_mono (code_set_led1 (.ref l) (E := E) (Q₁ := fun obj s₁ => obj = .ref s.heap.objs.size ∧ s₁ = { s with heap := s.heap.push { cls := .type "set", dict := none, data := .set #[] 0 (.fresh 0 0 (!w.params.followText "set-order")) } }) ⟨rfl, rfl⟩) fun r s₁ hr => ?_
  cases r with
  | error e => exact hr
  | ok fl =>
    cases fl with
    | ret obj =>
      obtain ⟨rfl, rfl⟩ := hr
      have hS : (s.heap.push { cls := .type "set", dict := none, data := .set #[] 0 (.fresh 0 0 (!w.params.followText "set-order")) }).get? s.heap.objs.size = some { cls := .type "set", dict := none, data := .set #[] 0 (.fresh 0 0 (!w.params.followText "set-order")) } := Heap.get?_push_size _ rfl
      have hT : Shared.TypeIs { s with heap := s.heap.push { cls := .type "set", dict := none, data := .set #[] 0 (.fresh 0 0 (!w.params.followText "set-order")) } } (.ref s.heap.objs.size) "set" := ⟨_, hS, rfl⟩
      have hli := F.called_set.init.lookup
      have hbi := F.called_set.init.bind (.ref s.heap.objs.size)
      repeat (any_goals (first | assumption | wp_step))

      refine codeAny_mono (codeAny_call_builtin (R := wants (fun r s₂ => r = .none ∧ ∃ h' tk c, s₂ = { s with heap := h', toks := tk } ∧ SetR w h' s.heap.objs.size (fun j => decide (j ∈ ns)) c ∧ c ≤ ns.length ∧
          (∀ b o, s.heap.get? b = some o → h'.get? b = some o)) E) F.called_set.init.plain F.entry_set_init (check_set_init_1 hT ?_)) fun r₂ s₂ hr₂ => ?_
      · obtain ⟨ol, hol, hcl, nl, hdl⟩ := hl
        obtain ⟨ocls, odict, odata, oslots⟩ := ol
        simp only at hcl hdl
        subst hcl; subst hdl
        have hol' : (s.heap.push { cls := .type "set", dict := none, data := .set #[] 0 (.fresh 0 0 (!w.params.followText "set-order")) }).get? l = some { cls := .type "list", dict := odict, data := .seq items nl, slots := oslots } := Heap.get?_push_of_some _ hol
        have hsls := F.sub_list_set
        have hslf := F.sub_list_frozenset
        have hne : (Value.type "list" == Value.type "dict") = false := by decide
        have hl1 : (s.heap.push { cls := .type "set", dict := none, data := .set #[] 0 (.fresh 0 0 (!w.params.followText "set-order")) }).IsList l items := ⟨_, hol', rfl, nl, rfl⟩
        unfold Builtin.«set.__init__» noKeywords Builtin.Frozenset.updateFrom
        generalize hPI : pyIter = PI
        wp_walk
        subst hPI

        refine wpAny_pyIter_list hl1 ?_
        refine wpAny_bind (wpAny_runValue ?_)
        have hlS : l < s.heap.objs.size := Heap.lt_size hol
        have hh3 : A.in1.in1.in1.handled = none := by simp [hh]
        have hz1 : (s.heap.push { cls := .type "set", dict := none, data := .set #[] 0 (.fresh 0 0 (!w.params.followText "set-order")) }).objs.size = s.heap.objs.size + 1 := Heap.size_push ..
        have hneI : l ≠ (s.heap.push { cls := .type "set", dict := none, data := .set #[] 0 (.fresh 0 0 (!w.params.followText "set-order")) }).objs.size := by
          rw [Heap.size_push]; exact Nat.ne_of_lt (Nat.lt_succ_of_lt hlS)
        have hSf : s.heap.objs.size ∉ [(s.heap.push { cls := .type "set", dict := none, data := .set #[] 0 (.fresh 0 0 (!w.params.followText "set-order")) }).objs.size, l] := by
          rw [Heap.size_push]; simp only [List.mem_cons, List.mem_singleton, List.not_mem_nil, or_false, not_or]
          exact ⟨Nat.ne_of_lt (Nat.lt_succ_self _), Nat.ne_of_gt hlS⟩
        have hval : ∀ (i : Nat) (v : Value), items[i]? = some v → ∃ k t, ns[i]? = some k ∧ v = .int k t := fun i v hv => by
          have hi : i < ns.length := by rw [← hisz]; exact (Array.getElem?_eq_some_iff.mp hv).1
          obtain ⟨t, e⟩ := PyProof.Rows.IntsAre.int_at hit i v (by rw [Array.getElem?_toList]; exact hv)
          refine ⟨ns[i], t, List.getElem?_eq_getElem hi, ?_⟩
          rw [e, List.getD_eq_getElem?_getD, List.getElem?_eq_getElem hi] <;> rfl
        refine set_update_ints ((Walks.list hh3 _ l hneI items).toS) s.heap.objs.size
          hSf ns hisz hb hval (items.size - 0) 0 _ (by omega) (Nat.zero_le _)
          ⟨⟨_, Heap.get?_push_size _ rfl, rfl, rfl⟩, (hl1.push _)⟩ ?hS0 ?hR
        case hS0 =>
          have hget : ((s.heap.push { cls := .type "set", dict := none, data := .set #[] 0 (.fresh 0 0 (!w.params.followText "set-order")) }).push { cls := .type "list_iterator", data := .fields #[.ref l, .int 0 0] }).get? s.heap.objs.size
              = some { cls := .type "set", dict := none, data := .set #[] 0 (.fresh 0 0 (!w.params.followText "set-order")) } := Heap.get?_push_of_some _ hS
          exact ⟨0, Nat.le_refl 0, setR_new_at hget⟩
        case hR =>
          intro s' c' hm hc' hS'
          obtain ⟨h', g2, d', tk', os'⟩ := s'
          have eg : g2 = s.gens := hm.gens
          have ed : d' = s.drawn := hm.drawn
          have eo : os' = s.os := hm.os
          subst eg; subst ed; subst eo
          show wpAny _ _ _ _ _ _
          refine wpAny_pure ?_
          show wpAny _ _ (ret Value.none) _ _ _
          rw [hisz] at hc'
          refine wpAny_pure ⟨rfl, h', tk', c', rfl, hS', hc', fun b o e => ?_⟩
          have hb0 : b < s.heap.objs.size := Heap.lt_size e
          have hb1 : b ≠ s.heap.objs.size := Nat.ne_of_lt hb0
          have hb2 : b ≠ (s.heap.push { cls := .type "set", dict := none, data := .set #[] 0 (.fresh 0 0 (!w.params.followText "set-order")) }).objs.size := by
            rw [Heap.size_push]; exact Nat.ne_of_lt (Nat.lt_succ_of_lt hb0)
          exact hm.heap b o (by simp only [List.mem_cons, List.mem_singleton, List.not_mem_nil, or_false, not_or]; exact ⟨hb1, hb2⟩) (Heap.get?_push_of_some _ (Heap.get?_push_of_some _ e))

      · cases r₂ with
        | error e => exact hr₂
        | ok fl₂ =>
          cases fl₂ with
          | ret r =>
            obtain ⟨rfl, h', tk, c', rfl, hS', hc', hk'⟩ := hr₂
            repeat (any_goals (first | assumption | wp_step))
            exact h _ _ _ hS' hc' hk'
          | _ => exact hr₂.elim
    | _ => exact hr.elim

end
end Pv

/-! Pv, part T: sorted(set(xs)) of ints: the evaluator. -/
namespace Pv
open PySem PySem.Spec PyProof.Rows L2
def insS (k : Int) : List Int → List Int
  | [] => [k]
  | x :: xs => if k < x then k :: x :: xs else if k = x then x :: xs else x :: insS k xs
def dsI : List Int → List Int
  | [] => []
  | x :: xs => insS x (dsI xs)
theorem insS_mem {k j : Int} : ∀ {xs : List Int}, j ∈ insS k xs ↔ j = k ∨ j ∈ xs
  | [] => by simp [insS]
  | x :: xs => by
    unfold insS
    split
    · simp
    · split
      · rename_i h; subst h; simp
      · simp only [List.mem_cons, insS_mem (xs := xs)]
        constructor
        · rintro (h | h | h)
          · exact .inr (.inl h)
          · exact .inl h
          · exact .inr (.inr h)
        · rintro (h | h | h)
          · exact .inr (.inl h)
          · exact .inl h
          · exact .inr (.inr h)
theorem insS_sorted {k : Int} : ∀ {xs : List Int}, xs.Pairwise (· < ·) → (insS k xs).Pairwise (· < ·)
  | [], _ => by simp [insS]
  | x :: xs, h => by
    have h1 := List.pairwise_cons.mp h
    unfold insS
    split
    · rename_i hk
      refine List.pairwise_cons.mpr ⟨fun y hy => ?_, h⟩
      rcases List.mem_cons.mp hy with e | e
      · rw [e]; exact hk
      · exact Int.lt_trans hk (h1.1 y e)
    · rename_i hk
      split
      · exact h
      · rename_i hne
        refine List.pairwise_cons.mpr ⟨fun y hy => ?_, insS_sorted h1.2⟩
        rcases insS_mem.mp hy with e | e
        · rw [e]; omega
        · exact h1.1 y e
theorem dsI_mem {j : Int} : ∀ {xs : List Int}, j ∈ dsI xs ↔ j ∈ xs
  | [] => by simp [dsI]
  | x :: xs => by
    show j ∈ insS x (dsI xs) ↔ _
    rw [insS_mem, dsI_mem]
    simp
theorem dsI_sorted : ∀ {xs : List Int}, (dsI xs).Pairwise (· < ·)
  | [] => by simp [dsI]
  | x :: xs => insS_sorted dsI_sorted
/-- sorted lists with the same members -/
theorem strict_uniq : ∀ {xs ys : List Int}, xs.Pairwise (· < ·) → ys.Pairwise (· < ·) → (∀ j, j ∈ xs ↔ j ∈ ys) → xs = ys
  | [], [], _, _, _ => rfl
  | [], y :: ys, _, _, h => by have := (h y).mpr (by simp); simp at this
  | x :: xs, [], _, _, h => by have := (h x).mp (by simp); simp at this
  | x :: xs, y :: ys, h1, h2, h => by
    have p1 := List.pairwise_cons.mp h1
    have p2 := List.pairwise_cons.mp h2
    have e : x = y := by
      rcases List.mem_cons.mp ((h x).mp (by simp)) with e | e
      · exact e
      · rcases List.mem_cons.mp ((h y).mpr (by simp)) with e' | e'
        · exact e'.symm
        · have := p2.1 x e; have := p1.1 y e'; omega
    subst e
    refine congrArg _ (strict_uniq p1.2 p2.2 fun j => ?_)
    constructor
    · intro hj
      rcases List.mem_cons.mp ((h j).mp (List.mem_cons_of_mem _ hj)) with e | e
      · have := p1.1 j hj; omega
      · exact e
    · intro hj
      rcases List.mem_cons.mp ((h j).mpr (List.mem_cons_of_mem _ hj)) with e | e
      · have := p2.1 j hj; omega
      · exact e
section
variable {X : Cx}
/-- set(xs), a list or tuple of ints -/
def rSetI (K : PySem.W.Frag) (w : World) : List V → Hp → VK → Prop := fun vs H Q => ∃ (l : Addr) (ns : List Int), vs = [V.ref l] ∧ (SqL K H l (ns.map V.int) ∨ SqT K H l (ns.map V.int)) ∧ ns.length < 64 ∧
  ∀ p c, H p = none → c ≤ ns.length → Q (.ref p) (upd H p (SetO w p (fun j => decide (j ∈ ns)) c))
theorem cr_setI (hc : X.calm = true) : CallR X (.type "set") (rSetI X.K X.w) := by
  intro pins s σ H xs us Q I r h
  obtain ⟨l, ns, rfl, hl, hf, q⟩ := h
  rw [Vals.ref1 r]
  have hn : H s.heap.objs.size = none := I.hok.fresh (Nat.le_refl _)
  have hb : ns.length + 1 < scanBound := by have : (65 : Nat) < scanBound := (by decide); omega
  rcases hl with hl | hl
  · obtain ⟨its, rv, pl, hz⟩ := I.list hl
    refine call_set_lstI (P := X.prog) (w := X.w) ns (I.ok.hd hc) pl.isList (by simpa using rv.ints) hb fun h' tk c hS hle hk => ?_
    exact ⟨.ref s.heap.objs.size, _, I.laid (t' := tk) hk (Nat.le_refl _) (setO_new hS), rfl, q _ c hn hle⟩
  · obtain ⟨its, rv, pl, hz⟩ := I.tuple hl
    refine call_set_tupI (P := X.prog) (w := X.w) ns (I.ok.hd hc) pl (by simpa using rv.ints) hb fun h' tk c hS hle hk => ?_
    exact ⟨.ref s.heap.objs.size, _, I.laid (t' := tk) hk (Nat.le_refl _) (setO_new hS), rfl, q _ c hn hle⟩
end
def gLI (ob : Bool) (ns : List Int) (h : AH) : Res Sl := if ob then .ok (.obj h.length) (h ++ [.lst (ns.map PyData.int)]) else .ok (.dat (.list (ns.map PyData.int))) h
def cSS (ob : Bool) (ta : Ax) : Ex := fun env h => (ta env h).bind fun xs h1 => match xs with
  | [x] => match seqOf (vw x h1) with
    | some ds => match intsOf ds with
      | some ns => if ns.length < 64 then gLI ob (dsI ns) h1 else .no
      | none => .no
    | _ => .no
  | _ => .no
section
variable [Fed] {C : Cn} {Wx : XK} {X : Cx} {e : Expr} {tr : Ax} {p q pos pos' : Pos}
theorem out_gLI {ob : Bool} {F U H : Hp} {μ : List Addr} {h : AH} {Q : VK} {ns : List Int} {S : Addr} (l : Lk C.K F U μ H h) (hS : H S = none) (o : Out C F U μ Wx (rSl C.K) Q (gLI ob ns h)) : Q (.ref S) (upd H S (.lst (ns.map V.int))) := by
  unfold gLI at o
  cases ob with
  | true => exact Out.newO (by simpa using o) l (RDs.ints ns) hS
  | false => exact Out.newL (by simpa using o) l (RDs.ints ns) hS
theorem se_sortSet (ob : Bool) (hg : Gl X "sorted") (hm : X.mg "sorted" = none) (hg2 : Gl X "set") (hm2 : X.mg "set" = none) (ha : SA C Wx X [e] tr) (hc : X.calm = true := by rfl) (hK : X.K = C.K := by rfl)
    (nb : starEach [.Call (.Name "set" q) [e] [] pos'] X.env = (false, eval (.Call (.Name "set" q) [e] [] pos') X.env) :: starEach [] X.env := by rfl)
    (ns : starEach [e] X.env = (false, eval e X.env) :: starEach [] X.env := by rfl) :
    SE C Wx X (.Call (.Name "sorted" p) [.Call (.Name "set" q) [e] [] pos'] [] pos) (cSS ob tr) :=
  ⟨pe_imp (pe_callB (cr_sortedSet hc) hg hm PyProof.Rows.boot_sorted (pa_cons (pe_callTy (cr_setI hc) hg2 hm2 PyProof.Rows.boot_set ha.pa (he := ns) (hpl := rfl)) pa_nil nb) (he := nb) (hpl := rfl)) fun σ H Q z => by
    obtain ⟨F, U, μ, env, h, l, ev, o⟩ := z
    refine rd_step l ev o fun x vx F1 U1 μ1 H1 h1 g1 p1 l1 r1 e1 o1 => ?_
    split at o1
    · obtain ⟨v, rfl, rv⟩ := slRs1 r1
      split at o1
      · rename_i ds ed
        obtain ⟨a, ws, rfl, hq, hd⟩ := seqOf_ok l1 rv ed
        split at o1
        · rename_i ms em
          obtain rfl := ints_ok hd em
          split at o1
          · rename_i hlen
            refine ⟨a, ms, rfl, by rw [hK]; exact hq.symm, hlen, fun p c hp hle => ?_⟩
            show rSortedSet X.w [V.ref p] _ Q
            obtain ⟨g2, l2⟩ := l1.new (o := SetO X.w p (fun j => decide (j ∈ ms)) c) hp
            refine ⟨p, _, c, rfl, upd_same, by omega, fun ks S hs hmem hlc hS => ?_⟩
            have ek : ks = dsI ms := strict_uniq hs dsI_sorted fun j => by rw [hmem, dsI_mem]; simp
            rw [ek]
            exact out_gLI l2 hS (o1.mono g2 (List.prefix_refl _))
          · exact o1.elim
        · exact o1.elim
      · exact o1.elim
    · exact o1.elim⟩
end
end Pv

/-! Pv, part V: sorted(set) of tuples of any ints (shifted, the order is the same). -/
namespace TSS
open PySem PySem.Spec PyProof.Rows L2
open TS hiding code Bd Bd.head Bd.tail code_bd code_same code_lt TupsOk TupsOk.keeps firsts_of kind_tups sort_tups call_sort_tups lex_ints
def SH : Int := 10 ^ 61
def sh (ns : List Int) : List Int := ns.map (· + SH)
def code (B : Int) (ns : List Int) : Int := TS.code B (sh ns)
def Bd (B : Int) (ns : List Int) : Prop := TS.Bd B (sh ns)
theorem Bd.tail {B d : Int} {r : List Int} (h : Bd B (d :: r)) : Bd B r := TS.Bd.tail (d := d + SH) h
theorem sh_len {r : List Int} : (sh r).length = r.length := by simp [sh]
theorem code_lt {B d e : Int} {r q : List Int} (hl : r.length = q.length) (hr : Bd B r) (hq : Bd B q) (h : d < e) : code B (d :: r) < code B (e :: q) :=
  TS.code_lt (d := d + SH) (e := e + SH) (by simpa using hl) hr hq (by omega)
theorem code_same {B d : Int} {r q : List Int} (hl : r.length = q.length) : code B (d :: r) < code B (d :: q) ↔ code B r < code B q :=
  TS.code_same (d := d + SH) (by simpa using hl)
section
variable {prog : Program} {w : World} {A : Around} {E : Value → Shared → Prop} {s : Shared} {Q : Bool → Shared → Prop}

theorem lex_ints {B : Int} {b : Bool} {xs ys : List Value} {ns ms : List Int} (i : Nat) (hx : IntsAre xs ns) (hy : IntsAre ys ms) (hl : ns.length = ms.length) (h1 : Bd B ns) (h2 : Bd B ms)
    (h : Q (decide (code B ns < code B ms)) s) : PySem.W.KatLex prog w A b false Q (xs.zip ys) i s := by
  induction hx generalizing ys ms i with
  | nil =>
    cases hy with
    | nil =>
      have e : decide (code B [] < code B []) = false := decide_eq_false (Int.lt_irrefl _)
      rw [e] at h
      exact PySem.W.kat_nil h
    | cons q u hy => simp at hl
  | @cons p t xs ns hx ih =>
    cases hy with
    | nil => simp at hl
    | @cons q u ys ms hy =>
      have hl' : ns.length = ms.length := by simpa using hl
      show PySem.W.KatLex prog w A b false Q ((Value.int p t, Value.int q u) :: xs.zip ys) i s
      refine PySem.W.kat_cons (wpAny_eqBool_int ?_)
      by_cases e : p = q
      · subst e
        rw [beq_self_eq_true]
        have d : decide (code B (p :: ns) < code B (p :: ms)) = decide (code B ns < code B ms) := decide_eq_decide.mpr (code_same hl')
        rw [d] at h
        refine PySem.W.kat_yes ?_
        first
          | exact ih (i + 1) hy hl' h1.tail h2.tail h
          | exact ih _ _ (i + 1) hy hl' h1.tail h2.tail h
      · rw [show (p == q) = false from beq_eq_false_iff_ne.mpr e]
        refine PySem.W.kat_no (oneLt_ints _ ?_)
        have d : decide (code B (p :: ns) < code B (q :: ms)) = decide (p < q) := by
          refine decide_eq_decide.mpr ⟨fun x => ?_, fun x => code_lt hl' h1.tail h2.tail x⟩
          rcases Int.lt_trichotomy p q with y | y | y
          · exact y
          · exact absurd y e
          · have := code_lt hl'.symm h2.tail h1.tail y
            omega
        rw [d] at h
        exact h
end

/-- what is sorted: tuples of d ints each in [0, B) -/
def TupsOk (h : Heap) (d : Nat) (B : Int) (vs : List Value) : Prop := ∀ v, v ∈ vs → ∃ ns, TupInts h v ns ∧ ns.length = d ∧ Bd B ns
theorem TupsOk.keeps {h h' : Heap} {d : Nat} {B : Int} {vs : List Value} (x : TupsOk h d B vs) (k : ∀ b o, h.get? b = some o → o.cls = .type "tuple" → h'.get? b = some o) : TupsOk h' d B vs := fun v hv =>
  let ⟨ns, t, r⟩ := x v hv; ⟨ns, t.keeps k, r⟩

theorem firsts_of {h : Heap} {d : Nat} {B : Int} (hd : 1 ≤ d) : ∀ vs : List Value, TupsOk h d B vs → ∃ fs, PySem.W.KatTups h vs fs ∧ fs.length = vs.length ∧ ∀ f, f ∈ fs → ∃ n t, f = Value.int n t
  | [], _ => ⟨[], PySem.W.KatTups.nil, rfl, fun f hf => by simp at hf⟩
  | v :: vs, x => by
    obtain ⟨fs, k, hl, hi⟩ := firsts_of hd vs fun u hu => x u (List.mem_cons_of_mem _ hu)
    obtain ⟨ns, ⟨a, xs, rfl, ⟨o, ho, hc, n, hdt⟩, i⟩, hn, _⟩ := x v (List.mem_cons_self ..)
    obtain ⟨y, ys, e⟩ : ∃ y ys, xs.toList = y :: ys := by
      cases q : xs.toList with
      | nil =>
        rw [q] at i
        have l := i.length
        rw [List.length_nil, hn] at l
        omega
      | cons y ys => exact ⟨y, ys, rfl⟩
    obtain ⟨m, t, hy⟩ := i.all y (by rw [e]; exact List.mem_cons_self ..)
    refine ⟨y :: fs, PySem.W.KatTups.cons ho hc hdt ?_ k, by simp [hl], ?_⟩
    · have z := congrArg (fun l : List Value => l[0]?) e
      simpa using z
    · intro f hf
      rcases List.mem_cons.mp hf with rfl | hf
      · exact ⟨m, t, hy⟩
      · exact hi f hf

section
variable {prog : Program} {w : World} {A : Around} {E : Value → Shared → Prop} {s : Shared}

theorem kind_tups {d : Nat} {B : Int} {vs : List Value} (hd : 1 ≤ d) (h2 : 2 ≤ vs.length) (x : TupsOk s.heap d B vs) (r : Value → Int) (hr : ∀ v, v ∈ vs → ∀ ns, TupInts s.heap v ns → r v = code B ns) (Q : SortKind → Shared → Prop)
    (h : ∀ κ, Cmp prog w A s κ (pairsOf vs) r → Q κ s) : wpAny (model prog w) A (keyKind' vs.toArray) Q E s := by
  obtain ⟨fs, k, hl, hi⟩ := firsts_of hd vs x
  refine PySem.W.kat_kind (T := Value.type "int") k (by omega) (fun f hf => ?_) rfl (h _ ?_)
  · obtain ⟨n, t, rfl⟩ := hi f hf
    exact PySem.W.Looks.of_pure rfl
  · intro p q hp hq Q' E' hQ
    rw [pairsOf_toList] at hp hq
    obtain ⟨ns, tp, lp, bp⟩ := x _ (mem_zip_self hp).2
    obtain ⟨ms, tq, lq, bq⟩ := x _ (mem_zip_self hq).2
    have ep := hr _ (mem_zip_self hp).2 _ tp
    have eq2 := hr _ (mem_zip_self hq).2 _ tq
    have hQ' : Q' (decide (code B ns < code B ms)) s := by
      have z : decide (r p.1 < r q.1) = decide (code B ns < code B ms) := by rw [ep, eq2]
      rw [← z]; exact hQ
    obtain ⟨a, xs, e1, ⟨o, ho, hc, n, hdt⟩, i⟩ := tp
    obtain ⟨a', ys, e2, ⟨o', ho', hc', n', hdt'⟩, i'⟩ := tq
    rw [e1, e2]
    refine PySem.W.kat_lt ho hdt ho' hdt' ?_
    have sz : decide (xs.size < ys.size) = false := by
      have l1 := i.length
      have l2 := i'.length
      rw [Array.length_toList] at l1 l2
      exact decide_eq_false (by omega)
    rw [sz]
    exact lex_ints 0 i i' (by omega) bp bq hQ'
end
section
variable {prog : Program} {w : World} {A : Around} {E : Value → Shared → Prop} {s : Shared}
/-- list.sort of a list of tuples of ints -/
theorem sort_tups {a : Addr} {vs : List Value} {n d : Nat} {B : Int} {P : PySem.Fin → Shared → Prop} (ho : s.heap.get? a = some (seqObj "list" vs.toArray n)) (h64 : vs.length < 64) (hd : 1 ≤ d) (x : TupsOk s.heap d B vs)
    (r : Value → Int) (hr : ∀ v, v ∈ vs → ∀ ns, TupInts s.heap v ns → r v = code B ns)
    (h : ∀ out : Array Value, out.toList.Perm vs → out.toList.Pairwise (fun u v => r u ≤ r v) → P (.done (.ret .none)) { s with heap := sortedHeap s.heap a vs out }) :
    wpAny (model prog w) A (Builtin.«list.sort» ⟨[.ref a], []⟩) P E s := by
  have keep : ∀ b o, s.heap.get? b = some o → o.cls = .type "tuple" → (midHeap s.heap a vs).get? b = some o := fun b o e hc => by
    refine midHeap_old ?_ e
    rintro rfl
    rw [ho] at e
    have e' : seqObj "list" vs.toArray n = o := Option.some.inj e
    rw [← e'] at hc
    have c' : Value.type "list" = Value.type "tuple" := hc
    injection c' with c''
    exact absurd c'' (by decide)
  refine SK.plain_sort (r := r) ho h64 (fun h2 Q hQ => ?_) fun ps out h1 h2 h3 => ?_
  · refine kind_tups (s := { s with heap := midHeap s.heap a vs }) hd h2 (x.keeps keep) r (fun v hv ns t => ?_) Q hQ
    obtain ⟨ns0, t0, _⟩ := x v hv
    have e : ns = ns0 := t.ints.symm.trans (t0.keeps keep).ints
    rw [e]
    exact hr v hv ns0 t0
  · obtain ⟨p, o⟩ := out_rank h1 h2 h3
    exact h out p o
/-- xs.sort() -/
theorem call_sort_tups {a : Addr} {vs : List Value} {n d : Nat} {B : Int} {Q : Value → Shared → Prop} (ho : s.heap.get? a = some (seqObj "list" vs.toArray n)) (h64 : vs.length < 64) (hd : 1 ≤ d) (x : TupsOk s.heap d B vs)
    (h : ∀ out : Array Value, out.toList.Perm vs → out.toList.Pairwise (fun u v => code B (intsOf s.heap u) ≤ code B (intsOf s.heap v)) → Q .none { s with heap := sortedHeap s.heap a vs out }) :
    wpAny (model prog w) A (call (.builtin "list.sort") [.ref a]) Q E s :=
  wpAny_call_entry slot_list_sort ⟨_, ho, rfl⟩ entry_list_sort (sort_tups ho h64 hd x (fun v => code B (intsOf s.heap v)) (fun v _ ns t => by
    show code B (intsOf s.heap v) = code B ns
    rw [t.ints]) fun out h1 h2 => ⟨_, rfl, h out h1 h2⟩) (args_list_sort _)
end
section
variable {P : Program} {w : World} {A : Around} {E : Value → Shared → Prop} {s : Shared}
theorem sorted_setT {a : Addr} {L : List (Addr × List Int)} {es : Array (Int × Value)} {ep : Nat} {t : SetTable} {Q : Value → Shared → Prop} (R : SetTR P w s.heap a L es ep t) (hh : A.handled = none)
    {d : Nat} {B : Int} (hd1 : 1 ≤ d) (hB : ∀ p ∈ L, p.2.length = d ∧ Bd B p.2)
    (hQ : ∀ s' p (out : Array Value) (c : Nat) (L' : List (Addr × List Int)), (∀ b o, s.heap.get? b = some o → s'.heap.get? b = some o) → s'.gens = s.gens → s'.os = s.os → s.heap.objs.size ≤ p →
      s'.heap.get? p = some (seqObj "list" out c) → out.toList = L'.map (fun q => Value.ref q.1) → L'.Perm L → L'.Pairwise (fun q r => code B q.2 ≤ code B r.2) → Q (.ref p) s') :
    wpAny (model P w) A (call (.builtin "sorted") [.ref a]) Q E s := by
  obtain ⟨o, ho, hex, hd⟩ := R.ob
  have hsz := R.size
  have hfew := R.few
  refine Calls.call_function_entry kind_sorted plain_sorted entry_sorted (args_sorted1 _) ?_
  unfold Builtin.«sorted»
  refine wpAny_bind (m := checkCount "sorted" 1 1 _) (wpAny_pure ?_)
  refine wpAny_bind (collect_set (A := A.in1) hh ⟨o, ho, hex.1, hd⟩ R.fits (by unfold scanBound; omega) R.tab.ris R.led fun s1 vs k1 hz g1 o1 pm => ?_)
  have hes : es.toList.map (·.2) = L.map fun q => Value.ref q.1 := by
    rw [R.rows]
    unfold rowsOf
    rw [List.map_map] <;> rfl
  rw [hes] at pm
  -- the values are the addresses of the rows, in some order
  have ord : ∀ vs : List Value, (∀ v ∈ vs, ∃ q ∈ L, v = Value.ref q.1) → ∃ L1 : List (Addr × List Int), vs = L1.map (fun q => Value.ref q.1) ∧ ∀ q ∈ L1, q ∈ L := by
    intro vs
    induction vs with
    | nil => intro _; exact ⟨[], rfl, fun q hq => (by cases hq)⟩
    | cons v vs ih =>
      intro hv
      obtain ⟨q, hq, e⟩ := hv v List.mem_cons_self
      obtain ⟨L1, e1, hs⟩ := ih fun u hu => hv u (List.mem_cons_of_mem _ hu)
      refine ⟨q :: L1, by rw [List.map_cons, e, e1], fun r hr => ?_⟩
      rcases List.mem_cons.mp hr with z | z
      · rw [z]; exact hq
      · exact hs r z
  -- an address has one key
  have one : ∀ q ∈ L, ∀ r ∈ L, q.1 = r.1 → q = r := fun q hq r hr e => by
    have a1 := R.tup q hq
    have a2 := R.tup r hr
    rw [e] at a1
    have e2 : q.2 = r.2 := a1.inj a2
    exact Prod.ext e e2
  have perm_of : ∀ L1 : List (Addr × List Int), (∀ q ∈ L1, q ∈ L) → (L1.map (fun q => Value.ref q.1)).Perm (L.map fun q => Value.ref q.1) → L1.Perm L := by
    intro L1 hs pm1
    have nL : L.Nodup := nodup_of_map R.nd
    have nref : (L.map fun q => Value.ref q.1).Nodup := by
      refine List.pairwise_map.mpr (List.Pairwise.imp_of_mem (fun {q r} hq hr hne e => ?_) nL)
      injection e with e
      exact hne (one q hq r hr e)
    have n1 : L1.Nodup := nodup_of_map (pm1.nodup_iff.mpr nref)
    refine (List.perm_ext_iff_of_nodup n1 nL).mpr fun q => ⟨hs q, fun hq => ?_⟩
    have hm : Value.ref q.1 ∈ L1.map (fun q => Value.ref q.1) := pm1.mem_iff.mpr (List.mem_map.mpr ⟨q, hq, rfl⟩)
    obtain ⟨r, hr, e⟩ := List.mem_map.mp hm
    injection e with e
    rw [← one r (hs r hr) q hq e]
    exact hr
  have hvl : vs.length < 64 := by rw [pm.length_eq, List.length_map]; exact hfew
  refine wpAny_bind (wpAny_newList ?_ (by rw [sizeLine_eq]; omega))
  have hoL : (s1.heap.push (seqObj "list" vs.toArray 0)).get? s1.heap.objs.size = some (seqObj "list" vs.toArray 0) := Heap.get?_push_size _ rfl
  have tk : ∀ q ∈ L, TupInts (s1.heap.push (seqObj "list" vs.toArray 0)) (.ref q.1) q.2 := fun q hq => tupInts_of (P := P) (w := w) (isT_keep (R.tup q hq) fun b u e => Heap.get?_push_of_some _ (k1 b u e))
  have x : TupsOk (s1.heap.push (seqObj "list" vs.toArray 0)) d B vs := fun v hv => by
    obtain ⟨q, hq, e⟩ := List.mem_map.mp (pm.mem_iff.mp hv)
    rw [← e]
    exact ⟨q.2, tk q hq, (hB q hq).1, (hB q hq).2⟩
  refine wpAny_bind (wpAny_holding (call_sort_tups (s := { s1 with heap := s1.heap.push (seqObj "list" vs.toArray 0) }) hoL hvl hd1 x fun out a1 a2 => ?_))
  obtain ⟨c, hc⟩ := sortedHeap_at (vs := vs) (out := out) hoL
  obtain ⟨L', e', hs'⟩ := ord out.toList fun v hv => by
    obtain ⟨q, hq, e⟩ := List.mem_map.mp (pm.mem_iff.mp (a1.mem_iff.mp hv))
    exact ⟨q, hq, e.symm⟩
  have pL : L'.Perm L := perm_of L' hs' (by rw [← e']; exact a1.trans pm)
  have pw : L'.Pairwise (fun q r => code B q.2 ≤ code B r.2) := by
    rw [e'] at a2
    refine List.Pairwise.imp_of_mem (fun {q r} hq hr hle => ?_) (List.pairwise_map.mp a2)
    have f1 : intsOf (s1.heap.push (seqObj "list" vs.toArray 0)) (.ref q.1) = q.2 := (tk q (hs' q hq)).ints
    have f2 : intsOf (s1.heap.push (seqObj "list" vs.toArray 0)) (.ref r.1) = r.2 := (tk r (hs' r hr)).ints
    rw [← f1, ← f2]
    exact hle
  refine wpAny_pure ⟨_, rfl, hQ _ s1.heap.objs.size out c L' (fun b u e => ?_) g1 o1 hz hc e' pL pw⟩
  have q := k1 b u e
  have hlt := Heap.lt_size q
  show (sortedHeap (s1.heap.push (seqObj "list" vs.toArray 0)) s1.heap.objs.size vs out).get? b = some u
  rw [sortedHeap_old (Nat.ne_of_lt hlt) (by rw [size_push']; exact Nat.lt_succ_of_lt hlt)]
  exact Heap.get?_push_of_some _ q
end
end TSS
namespace Pv
open PySem PySem.Spec PyProof.Rows L2
section
variable {X : Cx}
/-- sorted(set), the tuples of d ints in [0, B) -/
def rSortedTS (K : PySem.W.Frag) (P : Program) (w : World) : List V → Hp → VK → Prop := fun vs H Q => ∃ (a : Addr) (L : List (Addr × List Int)) (d : Nat) (B : Int), vs = [V.ref a] ∧ H a = some (SetTO P w a L) ∧ (∀ p ∈ L, SqT K H p.1 (p.2.map V.int)) ∧ 1 ≤ d ∧
  (∀ p ∈ L, p.2.length = d ∧ TSS.Bd B p.2) ∧
  ∀ (L' : List (Addr × List Int)) (p : Addr), L'.Perm L → (L'.map (·.2)).Nodup → L'.length < 64 → L'.Pairwise (fun q r => TSS.code B q.2 ≤ TSS.code B r.2) → H p = none → Q (.ref p) (upd H p (.lst (L'.map fun q => V.ref q.1)))
theorem cr_sortedTS (hc : X.calm = true) : CallR X (.builtin "sorted") (rSortedTS X.K X.prog X.w) := by
  intro pins s σ H vs us Q I r h
  obtain ⟨a, L, d, B, rfl, ha, hk, hd, hB, q⟩ := h
  have R0 : SetT0 X.prog X.w s.heap a L := (I.hok a _ ha).1
  obtain ⟨es, ep, t, R⟩ := R0.full fun p hp => I.isT (hk p hp)
  rw [Vals.ref1 r]
  refine TSS.sorted_setT R (I.ok.hd hc) hd hB fun s' p out c L' k g o hp hg hout pm pw => ?_
  have hfew : L'.length < 64 := by rw [pm.length_eq]; exact R.few
  have hlen : (L'.map fun q => V.ref q.1).length ≤ sizeLine := by rw [List.length_map, sizeLine_eq]; omega
  have hn : H p = none := I.hok.fresh hp
  have hv : Vals (L'.map fun q => V.ref q.1) out.toList := by rw [hout]; exact vals_of_refs L'
  have J : Inv X pins σ (upd H p (.lst (L'.map fun q => V.ref q.1))) { s with heap := s'.heap, gens := s'.gens, drawn := s'.drawn, toks := s'.toks } :=
    I.call (ch := []) (Un.laid k hp hn) (I.hok.laid k hp ⟨hlen, out.toList, c, hv, hg⟩) (by rw [g]; exact I.bare) (fun _ z => nomatch z)
  have e : s' = { s with heap := s'.heap, gens := s'.gens, drawn := s'.drawn, toks := s'.toks } := by
    cases s'
    cases s
    cases o
    rfl
  rw [e]
  exact ⟨.ref p, _, J, rfl, q L' p pm ((pm.map (·.2)).nodup_iff.mpr R.nd) hfew pw hn⟩
end
end Pv

/-! Pv, part U: sorted(set(xs)) of ints or of tuples of ints. -/
namespace Pv
open PySem PySem.Spec PyProof.Rows L2
theorem code_inj {B : Int} : ∀ {r q : List Int}, r.length = q.length → TSS.Bd B r → TSS.Bd B q → TSS.code B r = TSS.code B q → r = q
  | [], [], _, _, _, _ => rfl
  | [], _ :: _, h, _, _, _ => by simp at h
  | _ :: _, [], h, _, _, _ => by simp at h
  | d :: r, e :: q, h, b1, b2, hc => by
    have hl : r.length = q.length := by simpa using h
    have t1 : TSS.Bd B r := fun m hm => b1 m (List.mem_cons_of_mem _ hm)
    have t2 : TSS.Bd B q := fun m hm => b2 m (List.mem_cons_of_mem _ hm)
    rcases Int.lt_trichotomy d e with c | c | c
    · have := TSS.code_lt hl t1 t2 c; omega
    · subst c
      rcases Int.lt_trichotomy (TSS.code B r) (TSS.code B q) with k | k | k
      · have := (TSS.code_same (d := d) hl).mpr k; omega
      · rw [code_inj hl t1 t2 k]
      · have := (TSS.code_same (d := d) hl.symm).mpr k; omega
    · have := TSS.code_lt hl.symm t2 t1 c; omega
def insL (B : Int) (k : List Int) : List (List Int) → List (List Int)
  | [] => [k]
  | x :: xs => if TSS.code B k < TSS.code B x then k :: x :: xs else if TSS.code B k = TSS.code B x then x :: xs else x :: insL B k xs
def dsL (B : Int) : List (List Int) → List (List Int)
  | [] => []
  | x :: xs => insL B x (dsL B xs)
theorem insL_map {B : Int} {k : List Int} : ∀ {xs : List (List Int)}, (insL B k xs).map (TSS.code B) = insS (TSS.code B k) (xs.map (TSS.code B))
  | [] => rfl
  | x :: xs => by
    simp only [insL, List.map_cons, insS]
    split
    · simp
    · split
      · simp
      · simp [insL_map]
theorem insL_mem {B : Int} {k z : List Int} : ∀ {xs : List (List Int)}, z ∈ insL B k xs → z = k ∨ z ∈ xs
  | [], h => by simpa [insL] using h
  | x :: xs, h => by
    unfold insL at h
    split at h
    · simpa using h
    · split at h
      · exact .inr h
      · rcases List.mem_cons.mp h with e | e
        · exact .inr (by simp [e])
        · rcases insL_mem e with e | e
          · exact .inl e
          · exact .inr (List.mem_cons_of_mem _ e)
theorem dsL_map {B : Int} : ∀ {xs : List (List Int)}, (dsL B xs).map (TSS.code B) = dsI (xs.map (TSS.code B))
  | [] => rfl
  | x :: xs => by
    show (insL B x (dsL B xs)).map _ = insS _ (dsI (xs.map _))
    rw [insL_map, dsL_map]
theorem dsL_mem {B : Int} {z : List Int} : ∀ {xs : List (List Int)}, z ∈ dsL B xs → z ∈ xs
  | [], h => by simpa [dsL] using h
  | x :: xs, h => by
    rcases insL_mem (show z ∈ insL B x (dsL B xs) from h) with e | e
    · simp [e]
    · exact List.mem_cons_of_mem _ (dsL_mem e)
theorem map_code_inj {B : Int} {d : Nat} : ∀ {M N : List (List Int)}, (∀ x ∈ M, x.length = d ∧ TSS.Bd B x) → (∀ x ∈ N, x.length = d ∧ TSS.Bd B x) → M.map (TSS.code B) = N.map (TSS.code B) → M = N
  | [], [], _, _, _ => rfl
  | [], _ :: _, _, _, h => by simp at h
  | _ :: _, [], _, _, h => by simp at h
  | x :: M, y :: N, h1, h2, h => by
    simp only [List.map_cons, List.cons.injEq] at h
    have a := h1 x (by simp)
    have b := h2 y (by simp)
    rw [code_inj (a.1.trans b.1.symm) a.2 b.2 h.1, map_code_inj (fun z hz => h1 z (List.mem_cons_of_mem _ hz)) (fun z hz => h2 z (List.mem_cons_of_mem _ hz)) h.2]
def tupsI : List PD → Option (List (List Int))
  | [] => some []
  | .tuple ds :: xs => match intsOf ds, tupsI xs with
    | some n, some r => some (n :: r)
    | _, _ => none
  | _ => none
theorem tups_ok [Fed] {K : PySem.W.Frag} {F : Hp} : ∀ {vs : List V} {ds : List PD} {kss : List (List Int)}, RDs K F vs ds → tupsI ds = some kss →
    ∃ ks : List (Addr × List Int), vs = ks.map (fun p => V.ref p.1) ∧ ks.map (·.2) = kss ∧ ∀ p ∈ ks, SqT K F p.1 (p.2.map V.int)
  | [], [], kss, .nil, e => by cases e; exact ⟨[], rfl, rfl, fun _ h => nomatch h⟩
  | v :: vs, d :: ds, kss, .cons r rs, e => by
    cases r with
    | tup hq hr =>
      rename_i a ws es
      unfold tupsI at e
      split at e
      · rename_i n r e1 e2
        cases e
        obtain ⟨ks, rfl, rfl, hk⟩ := tups_ok rs e2
        obtain rfl := ints_ok hr e1
        refine ⟨(a, n) :: ks, rfl, rfl, fun p hp => ?_⟩
        rcases List.mem_cons.mp hp with z | z
        · rw [z]; exact hq
        · exact hk p z
      · cases e
    | _ => cases e
theorem rds_tups [Fed] {K : PySem.W.Frag} {F : Hp} : ∀ {L : List (Addr × List Int)}, (∀ p ∈ L, SqT K F p.1 (p.2.map V.int)) → RDs K F (L.map fun p => V.ref p.1) ((L.map (·.2)).map fun r => PyData.tuple (r.map PyData.int))
  | [], _ => .nil
  | p :: L, h => .cons (.tup (h p (by simp)) (RDs.ints p.2)) (rds_tups fun q hq => h q (List.mem_cons_of_mem _ hq))
theorem callR_or {X : Cx} {f : Value} {r1 r2 : List V → Hp → VK → Prop} (h1 : CallR X f r1) (h2 : CallR X f r2) : CallR X f (fun vs H Q => r1 vs H Q ∨ r2 vs H Q) := by
  intro pins s σ H xs us Q I r h
  rcases h with h | h
  · exact h1 pins s σ H xs us Q I r h
  · exact h2 pins s σ H xs us Q I r h
def bigB : Int := 10 ^ 63
def tupOk (d : Nat) (r : List Int) : Bool := r.length == d && r.all fun m => decide (0 ≤ m + TSS.SH) && decide (m + TSS.SH < bigB)
theorem tupOk_iff {d : Nat} {r : List Int} (h : tupOk d r = true) : r.length = d ∧ TSS.Bd bigB r := by
  unfold tupOk at h
  rw [Bool.and_eq_true] at h
  refine ⟨by simpa using h.1, fun m' hm' => ?_⟩
  obtain ⟨m, hm, rfl⟩ := List.mem_map.mp hm'
  have q := List.all_eq_true.mp h.2 m hm
  rw [Bool.and_eq_true] at q
  exact ⟨of_decide_eq_true q.1, of_decide_eq_true q.2⟩
def gLT (ob : Bool) (ns : List (List Int)) (h : AH) : Res Sl := if ob then .ok (.obj h.length) (h ++ [.lst (ns.map fun r => PyData.tuple (r.map PyData.int))]) else .ok (.dat (.list (ns.map fun r => PyData.tuple (r.map PyData.int)))) h
def lstS : Sl → Bool
  | .dat (.list _) => true
  | _ => false
theorem frzSeq_ok2 [Fed] {K : PySem.W.Frag} {F : Hp} {μ : List Addr} {v : V} {x : Sl} {ds : List PD} (r : SlR K F μ v x) (e : frzSeq x = some ds) : ∃ b a vs, v = .ref a ∧ SqB b K F a vs ∧ RDs K F vs ds ∧ (lstS x = true → b = true) := by
  cases x with
  | dat d =>
    cases d with
    | list xs => cases e; cases r with | lst s d => exact ⟨true, _, _, rfl, .inl (.inl s), d, fun _ => rfl⟩
    | tuple xs => cases e; cases r with | tup s d => exact ⟨false, _, _, rfl, s, d, fun h => by cases h⟩
    | _ => cases e
  | scr ns => cases e; obtain ⟨a, rfl, s⟩ := r; exact ⟨true, a, _, rfl, s, RDs.ints ns, fun _ => rfl⟩
  | obj k => cases e
  | rep d => cases e
  | exv _ _ => cases e
  | fnv _ => cases e
  | tpn _ => cases e
  | dcn _ => cases e
  | unk => cases e
  | anyI _ => cases e
def gSS (ob tl : Bool) (ds : List PD) (h1 : AH) : Res Sl := match intsOf ds with
  | some ns => if ns.length < 64 then gLI ob (dsI ns) h1 else .no
  | none => match tupsI ds with
    | some kss => match kss with
      | k :: _ => if decide (1 ≤ k.length) && kss.all (tupOk k.length) && decide (kss.length < 64) && tl then gLT ob (dsL bigB kss) h1 else .no
      | [] => .no
    | none => .no
def cSL (ob : Bool) (ta : Ax) : Ex := fun env h => (ta env h).bind fun xs h1 => match xs with
  | [x] => match frzSeq x with
    | some ds => gSS ob (lstS x) ds h1
    | _ => .no
  | _ => .no
section
variable [Fed] {C : Cn} {Wx : XK} {X : Cx} {e : Expr} {tr : Ax} {p q pos pos' : Pos}
theorem out_gLT {ob : Bool} {F U H : Hp} {μ : List Addr} {h : AH} {Q : VK} {L : List (Addr × List Int)} {S : Addr} (l : Lk C.K F U μ H h) (hk : ∀ p ∈ L, SqT C.K F p.1 (p.2.map V.int)) (hS : H S = none) (o : Out C F U μ Wx (rSl C.K) Q (gLT ob (L.map (·.2)) h)) : Q (.ref S) (upd H S (.lst (L.map fun p => V.ref p.1))) := by
  unfold gLT at o
  cases ob with
  | true => exact Out.newO (by simpa using o) l (rds_tups hk) hS
  | false => exact Out.newL (by simpa using o) l (rds_tups hk) hS
theorem se_sortSetL {k : Nat} (ob : Bool) (hr : Room k X.A) (hg : Gl X "sorted") (hm : X.mg "sorted" = none) (hg2 : Gl X "set") (hm2 : X.mg "set" = none) (ha : SA C Wx X [e] tr) (hc : X.calm = true := by rfl) (hK : X.K = C.K := by rfl)
    (nb : starEach [.Call (.Name "set" q) [e] [] pos'] X.env = (false, eval (.Call (.Name "set" q) [e] [] pos') X.env) :: starEach [] X.env := by rfl)
    (ns : starEach [e] X.env = (false, eval e X.env) :: starEach [] X.env := by rfl) :
    SE C Wx X (.Call (.Name "sorted" p) [.Call (.Name "set" q) [e] [] pos'] [] pos) (cSL ob tr) :=
  ⟨pe_imp (pe_callB (callR_or (cr_sortedSet hc) (cr_sortedTS hc)) hg hm PyProof.Rows.boot_sorted (pa_cons (pe_callTy (callR_or (cr_setI hc) (cr_setOfT hc (by have := hr.un; omega))) hg2 hm2 PyProof.Rows.boot_set ha.pa (he := ns) (hpl := rfl)) pa_nil nb) (he := nb) (hpl := rfl)) fun σ H Q z => by
    obtain ⟨F, U, μ, env, h, l, ev, o⟩ := z
    refine rd_step l ev o fun x vx F1 U1 μ1 H1 h1 g1 p1 l1 r1 e1 o1 => ?_
    split at o1
    · obtain ⟨v, rfl, rv⟩ := slRs1 r1
      split at o1
      · rename_i ds ed
        obtain ⟨bb, a, ws, rfl, hq, hd, htl⟩ := frzSeq_ok2 rv ed
        have hq1 : SqB bb C.K H1 a ws := sqB_mono l1.fh hq
        unfold gSS at o1
        split at o1
        · rename_i ms em
          obtain rfl := ints_ok hd em
          split at o1
          · rename_i hlen
            refine .inl ⟨a, ms, rfl, ?_, hlen, fun p c hp hle => ?_⟩
            · rw [hK]
              cases bb with
              | true => exact .inl hq1
              | false => exact .inr hq1
            obtain ⟨g2, l2⟩ := l1.new (o := SetO X.w p (fun j => decide (j ∈ ms)) c) hp
            refine .inl ⟨p, _, c, rfl, upd_same, by omega, fun ks S hs hmem hlc hS => ?_⟩
            have ek : ks = dsI ms := strict_uniq hs dsI_sorted fun j => by rw [hmem, dsI_mem]; simp
            rw [ek]
            exact out_gLI l2 hS (o1.mono g2 (List.prefix_refl _))
          · exact o1.elim
        · split at o1
          · rename_i kss et
            split at o1
            · rename_i k0 kr
              split at o1
              · rename_i hok
                rw [Bool.and_eq_true, Bool.and_eq_true, Bool.and_eq_true] at hok
                obtain ⟨⟨⟨hd1, hall⟩, hlen⟩, htrue⟩ := hok
                obtain ⟨ks, rfl, ekss, hks⟩ := tups_ok hd et
                cases bb with
                | false => exact Bool.noConfusion (htl htrue)
                | true =>
                  have hlen' : ks.length < 64 := by
                    have := of_decide_eq_true hlen
                    rw [← ekss, List.length_map] at this
                    exact this
                  have good : ∀ p ∈ ks, p.2.length = k0.length ∧ TSS.Bd bigB p.2 := fun p hp => tupOk_iff (List.all_eq_true.mp hall _ (by rw [← ekss]; exact List.mem_map_of_mem hp))
                  refine .inr ⟨a, ks, rfl, by rw [hK]; exact hq1, fun p hp => by rw [hK]; exact sqT_mono l1.fh (hks p hp), hlen', fun S L hS hsub hcov => ?_⟩
                  obtain ⟨g2, l2⟩ := l1.new (o := SetTO X.prog X.w S L) hS
                  refine .inr ⟨S, L, k0.length, bigB, rfl, upd_same, fun p hp => by rw [hK]; exact sqT_mono l2.fh ((fun r => sqT_mono g2.f r) (hks p (hsub p hp))), of_decide_eq_true hd1, fun p hp => good p (hsub p hp), fun L' T pm nd few pw hT => ?_⟩
                  have hM : ∀ x ∈ L'.map (·.2), x.length = k0.length ∧ TSS.Bd bigB x := fun x hx => by
                    obtain ⟨p, hp, rfl⟩ := List.mem_map.mp hx
                    exact good p (hsub p (pm.mem_iff.mp hp))
                  have hN : ∀ x ∈ dsL bigB (k0 :: kr), x.length = k0.length ∧ TSS.Bd bigB x := fun x hx => tupOk_iff (List.all_eq_true.mp hall x (dsL_mem hx))
                  have hst : ((L'.map (·.2)).map (TSS.code bigB)).Pairwise (· < ·) := by
                    rw [List.pairwise_map, List.pairwise_map]
                    have nd' : L'.Pairwise (fun q r => q.2 ≠ r.2) := by
                      have := nd
                      unfold List.Nodup at this
                      rwa [List.pairwise_map] at this
                    refine (pw.and nd').imp_of_mem fun {q r} hq hr' hqr => ?_
                    have a1 := hM q.2 (List.mem_map_of_mem hq)
                    have a2 := hM r.2 (List.mem_map_of_mem hr')
                    have ne : TSS.code bigB q.2 ≠ TSS.code bigB r.2 := fun e => hqr.2 (code_inj (a1.1.trans a2.1.symm) a1.2 a2.2 e)
                    have := hqr.1
                    omega
                  have em : L'.map (·.2) = dsL bigB (k0 :: kr) := by
                    refine map_code_inj hM hN ?_
                    rw [dsL_map]
                    refine strict_uniq hst dsI_sorted fun j => ?_
                    rw [dsI_mem, ← ekss]
                    constructor
                    · intro hj
                      obtain ⟨x, hx, rfl⟩ := List.mem_map.mp hj
                      obtain ⟨p, hp, rfl⟩ := List.mem_map.mp hx
                      exact List.mem_map_of_mem (List.mem_map_of_mem (hsub p (pm.mem_iff.mp hp)))
                    · intro hj
                      obtain ⟨x, hx, rfl⟩ := List.mem_map.mp hj
                      obtain ⟨p, hp, rfl⟩ := List.mem_map.mp hx
                      obtain ⟨p', hp', e'⟩ := List.mem_map.mp (hcov p hp)
                      rw [← e']
                      exact List.mem_map_of_mem (List.mem_map_of_mem (pm.mem_iff.mpr hp'))
                  rw [← em] at o1
                  exact out_gLT l2 (fun p hp => sqT_mono g2.f (hks p (hsub p (pm.mem_iff.mp hp)))) hT (o1.mono g2 (List.prefix_refl _))
              · exact o1.elim
            · exact o1.elim
          · exact o1.elim
      · exact o1.elim
    · exact o1.elim⟩
end
end Pv

/-! Pv, part X: len(set(xs)) of ints. -/
namespace Pv
open PySem PySem.Spec PyProof.Rows L2
theorem setR_count {w : World} {h : Heap} {a : Addr} {ns : List Int} {c : Nat} (R : SetR w h a (fun j => decide (j ∈ ns)) c) : c = (dsI ns).length := by
  obtain ⟨o, es, ep, t, ho, hex, hd, hg, hnd, hm, hb, hf, hn, _⟩ := R
  have n2 : (dsI ns).Nodup := dsI_sorted.imp fun h => Int.ne_of_lt h
  have p : (es.toList.map keyOf).Perm (dsI ns) := (List.perm_ext_iff_of_nodup hnd n2).mpr fun k => by rw [← hm k, dsI_mem]; simp
  have l := p.length_eq
  rw [List.length_map, Array.length_toList] at l
  omega
section
variable {X : Cx}
def rLenSet (w : World) : List V → Hp → VK → Prop := fun vs H Q => ∃ (a : Addr) (ns : List Int) (c : Nat), vs = [V.ref a] ∧ H a = some (SetO w a (fun j => decide (j ∈ ns)) c) ∧ Q (.int ((dsI ns).length : Nat)) H
theorem cr_lenSet : CallR X (.builtin "len") (rLenSet X.w) := by
  intro pins s σ H vs us Q I r h
  obtain ⟨a, ns, c, rfl, ha, q⟩ := h
  have R := setO_get I ha
  have ec := setR_count R
  rw [Vals.ref1 r]
  obtain ⟨o, es, ep, t, ho, hex, hd, hg, hnd, hm, hb, hf, hn, _⟩ := R
  have hb' : es.size < scanBound := hb
  refine call_len_set ho hex hd hf (by have : scanBound ≤ 2 ^ 62 := (by decide); omega) ⟨.int ((dsI ns).length : Nat), H, I.tok _, ⟨_, by rw [← ec, ← hn]⟩, q⟩
end
def cLS (ta : Ax) : Ex := fun env h => (ta env h).bind fun xs h1 => match xs with
  | [x] => match frzSeq x with
    | some ds => match intsOf ds with
      | some ns => if ns.length < 64 then .ok (.dat (.int ((dsI ns).length : Nat))) h1 else .no
      | none => .no
    | _ => .no
  | _ => .no
section
variable [Fed] {C : Cn} {Wx : XK} {X : Cx} {e : Expr} {tr : Ax} {p q pos pos' : Pos}
theorem se_lenSet (hg : Gl X "len") (hm : X.mg "len" = none) (hg2 : Gl X "set") (hm2 : X.mg "set" = none) (ha : SA C Wx X [e] tr) (hc : X.calm = true := by rfl) (hK : X.K = C.K := by rfl)
    (nb : starEach [.Call (.Name "set" q) [e] [] pos'] X.env = (false, eval (.Call (.Name "set" q) [e] [] pos') X.env) :: starEach [] X.env := by rfl)
    (ns : starEach [e] X.env = (false, eval e X.env) :: starEach [] X.env := by rfl) :
    SE C Wx X (.Call (.Name "len" p) [.Call (.Name "set" q) [e] [] pos'] [] pos) (cLS tr) :=
  ⟨pe_imp (pe_callB cr_lenSet hg hm PySem.boot_len (pa_cons (pe_callTy (cr_setI hc) hg2 hm2 PyProof.Rows.boot_set ha.pa (he := ns) (hpl := rfl)) pa_nil nb) (he := nb) (hpl := rfl)) fun σ H Q z => by
    obtain ⟨F, U, μ, env, h, l, ev, o⟩ := z
    refine rd_step l ev o fun x vx F1 U1 μ1 H1 h1 g1 p1 l1 r1 e1 o1 => ?_
    split at o1
    · obtain ⟨v, rfl, rv⟩ := slRs1 r1
      split at o1
      · rename_i ds ed
        obtain ⟨bb, a, ws, rfl, hq, hd, htl⟩ := frzSeq_ok2 rv ed
        have hq1 : SqB bb C.K H1 a ws := sqB_mono l1.fh hq
        split at o1
        · rename_i ms em
          obtain rfl := ints_ok hd em
          split at o1
          · rename_i hlen
            refine ⟨a, ms, rfl, ?_, hlen, fun p c hp hle => ?_⟩
            · rw [hK]
              cases bb with
              | true => exact .inl hq1
              | false => exact .inr hq1
            obtain ⟨g2, l2⟩ := l1.new (o := SetO X.w p (fun j => decide (j ∈ ms)) c) hp
            exact ⟨p, ms, c, rfl, upd_same, o1 _ _ _ μ1 _ g2 (List.prefix_refl _) l2 (RD.int _)⟩
          · exact o1.elim
        · exact o1.elim
      · exact o1.elim
    · exact o1.elim⟩
end
end Pv

/-! QA: an own exception whose __init__ says super().__init__(..), then self.f = f for each. -/
namespace Pv
open PySem PySem.Spec PyProof.Rows L2 LamX NdefX

/-- what the written part says of such a class at C, its __init__ at f -/
structure SupC (K : PySem.W.Frag) (file : Str) (C f cc cda : Addr) (qual : Str) (params : Arguments) (body : List Stmt) (scope : Scope) (fd : FuncData) : Prop where
  ox : OexC K C
  lk : ∃ oc od osl kV doc pm an ct, K.lookup f = some ⟨oc, od, .func (PySem.W.fnX "__init__" qual params body scope [("__class__", cc)] .none kV doc pm an (.ref cda) ct), osl⟩ ∧ fd = PySem.W.fnX "__init__" qual params body scope [("__class__", cc)] .none kV doc pm an (.ref cda) ct
  cd : PySem.W.codeIn K (.ref cda) qual = true
  fl : ∃ ccl cdd vs ccs tf, K.lookup cda = some ⟨ccl, cdd, .fields vs, ccs⟩ ∧ vs[2]? = some (.str file tf)
  ce : ∃ cl cld csl, K.lookup cc = some ⟨cl, cld, .cell (some (.ref C)), csl⟩
  no : PySem.W.nsIn K cStatics "thirdparty.any" = some none
  su : PySem.W.ks_superIn K C C "__init__" = some (some (.builtin "ValueError.__init__"))
  ve : PySem.W.subIn K (.ref C) (.type "ValueError") = some true
  me : PySem.W.mroIn K C (.ref C) = some true

def nfI (qual : Str) (params : Arguments) (body : List Stmt) (scope : Scope) (cc cda : Addr) : NF := ⟨"__init__", qual, params, body, scope, [("__class__", cc)], cda⟩

section
variable {P : Program} {w : World} {K : PySem.W.Frag} {mg : Str → Option Value} {base : Heap} {X : Cx} {pins : List (Addr × Obj)} {σ : L2.St} {H : Hp} {s : Shared} {file qual : Str} {C f cc cda a : Addr} {params : Arguments} {body : List Stmt} {scope : Scope} {fd : FuncData}
/-- super() at the head of the body, then its __init__ -/
theorem super_run (T : SupC X.K file C f cc cda qual params body scope fd) (hfile : ((X.prog.main.file : Str) == file) = true) (htop : (X.prog.main.scope.names.lookup ("super" : Str)).isSome = false) (hms : X.mg "super" = none)
    (henv : X.env = PySem.W.envX qual scope X.env.locals f (.ref cda) [("__class__", cc)]) (hks : scope.names.lookup ("super" : Str) = some .globalImplicit) (hkc : scope.names.lookup ("__class__" : Str) = some .free) {ar : Arg} (hp : (params.posonlyargs ++ params.args).head? = some ar) (hka : scope.names.lookup ar.arg = some .local)
    (I : L2.Inv X pins σ H s) (hN : X.N[0]? = some ar.arg) (hσ : σ[0]? = some (some (.ref a))) (ha : H a = some (exo a C none)) {body0 : List Stmt} {args : List (Bool × Sem Value)} {p0 p1 : Pos} {whole : Sem Value} {pos : Pos} {Q : Value → Shared → Prop} {E : Value → Shared → Prop} {pl : Sem Bool}
    (h : ∀ u s', L2.Inv X pins σ H s' → s'.heap.get? u = some (PySem.W.kxs_mw "ValueError.__init__" a) → wpAny (model X.prog X.w) X.A (callWith pos (.ref u) [] args []) Q E s') :
    PySem.wpAt (model X.prog X.w) X.A (.func body0 X.env) (attributeBase (.Call (.Name "super" p0) [] [] p1) "__init__" X.env whole) (fun ov s₁ => wpAny (model X.prog X.w) X.A (getMethod ov "__init__" pl) (fun fx s₂ => wpAny (model X.prog X.w) X.A (callWith pos fx.1 fx.2 args []) Q E s₂) E s₁) E s := by
  obtain ⟨nm, q, N', bs, bm, sn, sub, ab, col, dd, k0, k1, k2, k3, k5, hC, hbm⟩ := T.ox.cls
  obtain ⟨oc, od, osl, kV, doc, pm, an, ct, hlk, _⟩ := T.lk
  obtain ⟨ccl, cdd, vs, ccs, tf, hcode, hvs⟩ := T.fl
  obtain ⟨cl, cld, csl, hcell⟩ := T.ce
  have KX := I.kIn
  have hcl : PySem.W.clsIn X.K C = some { name := nm, bases := bs, mro := .ref C :: bm, ns := N', qualname := q, hasDict := true, slotNames := sn, subclasses := sub, abstract := ab, collection := col, hasDel := false } := by unfold PySem.W.clsIn; rw [hC] <;> rfl
  obtain ⟨t1, hx⟩ := exo_at I.hok ha
  have kind := I.ok.kind
  have hks' : X.env.kindOf "super" = some .globalImplicit := by rw [henv]; exact hks
  have hkc' : X.env.kindOf "__class__" = some .free := by rw [henv]; exact hkc
  refine ks_wpAt_super_base hks' hkc' (by decide) (f := f) (by rw [henv]) (KX _ _ hlk) rfl hp (cc := cda) (by rw [henv]) (KX _ _ hcode) rfl hvs hfile htop ?_
  obtain ⟨mb, hb1, hb2⟩ := I.mod.blt
  refine PySem.W.ks_loadName_global kind hks' (Calls.loadGlobal_builtin (by rw [I.ok.glob]; exact I.mod.glob.keeps I.bk) hms (by rw [I.ok.blt]; exact hb1.keeps I.bk) ((hb2 "super" (by decide)).trans PyProof.Rows.Boot.«super») ⟨rfl, ?_⟩)
  refine wpAny_loadName_free (c := cc) kind hkc' (by rw [henv]; rfl) ⟨_, KX _ _ hcell, rfl⟩ ?_
  obtain ⟨m, hns, hl⟩ := I.loc
  obtain ⟨u, ru, lu⟩ := hl 0 ar.arg _ hN hσ (by rw [henv]; exact .inl hka)
  have ru : u = Value.ref a := ru
  subst ru
  have hm : m ar.arg = some (.ref a) := by
    rcases lu with ⟨_, e⟩ | ⟨k, _⟩
    · exact e
    · rw [henv] at k
      have k : scope.names.lookup ar.arg = some .cell ∨ scope.names.lookup ar.arg = some .free := k
      rw [hka] at k
      rcases k with k | k <;> cases k
  refine wpAny_loadName_local kind (by rw [henv]; exact hka) hns hm ?_
  refine ks_wpAny_isType_cls (KX _ _ hC) rfl ⟨rfl, ?_⟩
  obtain ⟨hh, g, d, t, os⟩ := s
  have hne : a ≠ C := fun e => by
    rw [e] at hx
    have z := (KX _ _ hC).symm.trans hx
    cases z
  refine ks_wpAny_call_super (D := C) (x := a) (C := C) (KX _ _ hC) rfl hx rfl (fun c e => nomatch e) (PySem.W.looks_mroIn KX T.me) (fun h' e k => ?_)
  have I1 : L2.Inv X pins σ H ⟨h', g, d, t, os⟩ := I.kept (t' := t) k
  have KX1 := I1.kIn
  obtain ⟨t2, hx1⟩ := exo_at I1.hok ha
  have J : PySem.W.InstAt h' a { cls := .ref C, dict := none, data := .fields #[.ref t2, .none, .none, .none, .bool false, .none] } C none := ⟨hx1, rfl, rfl, trivial⟩
  have hI : PySem.W.Looks (model X.prog X.w) h' (isInstance (.ref a) (.type "ValueError")) true := J.type.andThen (PySem.W.looks_subIn KX1 T.ve)
  have hsu := T.su
  unfold PySem.W.ks_superIn at hsu
  rw [hcl] at hsu
  refine PySem.W.kxs_getMethod PySem.W.kxs_ValueError e (PySem.W.looks_opaque KX1 T.no) (l₀ := .ref C :: bm) ?_ rfl KX1 hsu hI hne (by decide) ?_
  · exact fun A Q E s k q => wpAny_bind ((PySem.W.looks_clsIn KX1 hcl) A _ E s k (wpAny_pure q))
  · exact h _ _ (I1.kept (t' := t + 1) fun b o e => Heap.get?_push_of_some _ e) (Heap.get?_push_at rfl rfl)
/-- the wrapper's call -/
theorem super_call {u : Addr} {us : List Value} {Q : Value → Shared → Prop} {E : Value → Shared → Prop} (T : OexC X.K C) (I : L2.Inv X pins σ H s) (ha : H a = some (exo a C none)) (hu : s.heap.get? u = some (PySem.W.kxs_mw "ValueError.__init__" a)) (hz : us.length ≤ sizeLine)
    (h : ∀ s', L2.Inv X pins σ H s' → Q .none s') : wpAny (model X.prog X.w) X.A (call (.ref u) us) Q E s := by
  obtain ⟨nm, q, N, bs, bm, sn, sub, ab, col, dd, k0, k1, k2, k3, k5, hC, hbm⟩ := T.cls
  obtain ⟨t1, ho⟩ := exo_at I.hok ha
  obtain ⟨hp, g, d, t, os⟩ := s
  have FB := F.excBase_ValueError
  refine wpAny_call (codeAny_of_tree ?_)
  show wpAny _ X.A.in1 (callAny (.ref u) ⟨us, []⟩) _ _ _
  simp only [callAny]
  refine wpAny_bind (wpAny_load hu ?_)
  simp only [PySem.W.kxs_mw, show (Value.type "method-wrapper" == Value.type "method" || Value.type "method-wrapper" == Value.type "builtin_function_or_method" || Value.type "method-wrapper" == Value.type "method-wrapper") = true by decide, if_true]
  refine PySem.W.KFB.if_so (by decide) ?_
  refine wpAny_bind (PySem.W.check_bound_init FB.toExcCallFacts (I.kIn _ _ hC) ho rfl ?_)
  refine wpAny_bind (wpAny_pure (wpAny_pure ?_))
  refine ⟨plainId_quiet FB.init.plain _, codeAny_builtin FB.initEntry ?_⟩
  refine PySem.W.exc_init_tree (cls := .ref C) (t0 := t1) (dv := none) (c2 := .none) (c3 := .none) (b4 := .bool false) ho hz fun h' k hx _ => ?_
  have J := I.write (t' := t) (x := a) (e := a) (o := exo a C none) (by rw [ha]; exact True.intro) (.inl rfl) k ⟨_, hx⟩ (exo_ok hx)
  have eu : upd H a (exo a C none) = H := by
    funext b
    by_cases hb : b = a
    · rw [hb, upd_same, ha]
    · rw [upd_ne hb]
  rw [eu] at J
  exact h _ J
end
end Pv
namespace Pv
open PySem PySem.Spec PyProof.Rows L2 LamX NdefX
section
variable {P : Program} {w : World} {K : PySem.W.Frag} {mg : Str → Option Value} {base : Heap} {X : Cx} {pins : List (Addr × Obj)} {σ : L2.St} {H : Hp} {s : Shared} {file qual : Str} {C f cc cda a : Addr} {params : Arguments} {body : List Stmt} {scope : Scope} {fd : FuncData}
theorem ld_loc {i : Nat} {x : Str} {v : V} {pos : Pos} {Q : Value → Shared → Prop} {E : Value → Shared → Prop} (I : L2.Inv X pins σ H s) (hN : X.N[i]? = some x) (hσ : σ[i]? = some (some v)) (hl : X.env.kindOf x = some .local) (h : ∀ u, L2.RelV v u → Q u s) (hd : (x == ("__debug__" : Str)) = false := by decide) :
    wpAny (model X.prog X.w) X.A (eval (.Name x pos) X.env) Q E s := by
  obtain ⟨m, hns, hk⟩ := I.loc
  obtain ⟨u, ru, lu⟩ := hk i x v hN hσ (.inl hl)
  have hm : m x = some u := by
    rcases lu with ⟨_, e⟩ | ⟨k, _⟩
    · exact e
    · rw [hl] at k
      rcases k with k | k <;> cases k
  exact wpAny_Name (wpAny_loadName_local I.ok.kind hl hns hm (h u ru)) hd
theorem tree_of {c : Code} {α : Type} {M : Model} {A : Around} {t : Sem α} {Q : α → Shared → Prop} {E : Value → Shared → Prop} (h : wpAny M A t Q E s) : PySem.wpAt M A c t Q E s := PySem.wpAt_of_wpAny h
/-- the first statement, two arguments -/
theorem super2 (T : SupC X.K file C f cc cda qual params body scope fd) (hfile : ((X.prog.main.file : Str) == file) = true) (htop : (X.prog.main.scope.names.lookup ("super" : Str)).isSome = false) (hms : X.mg "super" = none)
    (henv : X.env = PySem.W.envX qual scope X.env.locals f (.ref cda) [("__class__", cc)]) (hks : scope.names.lookup ("super" : Str) = some .globalImplicit) (hkc : scope.names.lookup ("__class__" : Str) = some .free) {ar : Arg} (hp : (params.posonlyargs ++ params.args).head? = some ar) (hka : scope.names.lookup ar.arg = some .local)
    (I : L2.Inv X pins σ H s) (hN : X.N[0]? = some ar.arg) (hσ : σ[0]? = some (some (.ref a))) (ha : H a = some (exo a C none)) {x1 x2 : Str} {v1 v2 : V} (hN1 : X.N[1]? = some x1) (hN2 : X.N[2]? = some x2) (hσ1 : σ[1]? = some (some v1)) (hσ2 : σ[2]? = some (some v2))
    (hl1 : scope.names.lookup x1 = some .local) (hl2 : scope.names.lookup x2 = some .local) (hd1 : (x1 == ("__debug__" : Str)) = false) (hd2 : (x2 == ("__debug__" : Str)) = false) {body0 : List Stmt} {p0 p1 p2 p3 p4 p5 p6 : Pos} {Q : Flow → Shared → Prop} {E : Value → Shared → Prop} (hi : interactive X.env = false)
    {pl : Sem Bool} (hc : eval (.Call (.Attribute (.Call (.Name "super" p0) [] [] p1) "__init__" p2) [.Name x1 p3, .Name x2 p4] [] p5) X.env = (do
      let ov ← attributeBase (.Call (.Name "super" p0) [] [] p1) "__init__" X.env (eval (.Call (.Name "super" p0) [] [] p1) X.env)
      standAt p2.atName
      let (f, first) ← holding [ov] (getMethod ov "__init__" pl)
      callWith p5 f first (backTo p5 (starEach [.Name x1 p3, .Name x2 p4] X.env)) [])) (hsw : swapsWith (.Call (.Attribute (.Call (.Name "super" p0) [] [] p1) "__init__" p2) [.Name x1 p3, .Name x2 p4] [] p5) none p6.line X.env = pure false)
    (h : ∀ s', L2.Inv X pins σ H s' → Q .next s') :
    PySem.wpAt (model X.prog X.w) X.A (.func body0 X.env) (exec (.Expr (.Call (.Attribute (.Call (.Name "super" p0) [] [] p1) "__init__" p2) [.Name x1 p3, .Name x2 p4] [] p5) p6) X.env) Q E s := by
  refine ks_wpAt_Expr_any (ks_wpAt_MethodCall (super_run T hfile htop hms henv hks hkc hp hka I hN hσ ha fun u s1 I1 hu => ?_) hc) hi hsw
  show wpAny _ _ (callWith p5 (.ref u) [] ((false, eval (.Name x1 p3) X.env) :: (false, eval (.Name x2 p4) X.env) :: []) []) _ _ _
  refine PySem.W.kxs_callWith (i := "ValueError.__init__") (x := a) rfl (Calls.evalArgs_plain ?_)
  refine Calls.spliced_cons (ld_loc I1 hN1 hσ1 (by rw [henv]; exact hl1) (fun u1 r1 => ?_) hd1)
  refine Calls.spliced_cons (ld_loc I1 hN2 hσ2 (by rw [henv]; exact hl2) (fun u2 r2 => ?_) hd2)
  refine Calls.spliced_nil ⟨hu, ?_⟩
  exact super_call T.ox I1 ha hu (by rw [sizeLine_eq]; show 2 ≤ _; decide) fun s' J => h s' J
theorem super1 (T : SupC X.K file C f cc cda qual params body scope fd) (hfile : ((X.prog.main.file : Str) == file) = true) (htop : (X.prog.main.scope.names.lookup ("super" : Str)).isSome = false) (hms : X.mg "super" = none)
    (henv : X.env = PySem.W.envX qual scope X.env.locals f (.ref cda) [("__class__", cc)]) (hks : scope.names.lookup ("super" : Str) = some .globalImplicit) (hkc : scope.names.lookup ("__class__" : Str) = some .free) {ar : Arg} (hp : (params.posonlyargs ++ params.args).head? = some ar) (hka : scope.names.lookup ar.arg = some .local)
    (I : L2.Inv X pins σ H s) (hN : X.N[0]? = some ar.arg) (hσ : σ[0]? = some (some (.ref a))) (ha : H a = some (exo a C none)) {x1 : Str} {v1 : V} (hN1 : X.N[1]? = some x1) (hσ1 : σ[1]? = some (some v1))
    (hl1 : scope.names.lookup x1 = some .local) (hd1 : (x1 == ("__debug__" : Str)) = false) {body0 : List Stmt} {p0 p1 p2 p3 p5 p6 : Pos} {Q : Flow → Shared → Prop} {E : Value → Shared → Prop} (hi : interactive X.env = false)
    {pl : Sem Bool} (hc : eval (.Call (.Attribute (.Call (.Name "super" p0) [] [] p1) "__init__" p2) [.Name x1 p3] [] p5) X.env = (do
      let ov ← attributeBase (.Call (.Name "super" p0) [] [] p1) "__init__" X.env (eval (.Call (.Name "super" p0) [] [] p1) X.env)
      standAt p2.atName
      let (f, first) ← holding [ov] (getMethod ov "__init__" pl)
      callWith p5 f first (backTo p5 (starEach [.Name x1 p3] X.env)) [])) (hsw : swapsWith (.Call (.Attribute (.Call (.Name "super" p0) [] [] p1) "__init__" p2) [.Name x1 p3] [] p5) none p6.line X.env = pure false)
    (h : ∀ s', L2.Inv X pins σ H s' → Q .next s') :
    PySem.wpAt (model X.prog X.w) X.A (.func body0 X.env) (exec (.Expr (.Call (.Attribute (.Call (.Name "super" p0) [] [] p1) "__init__" p2) [.Name x1 p3] [] p5) p6) X.env) Q E s := by
  refine ks_wpAt_Expr_any (ks_wpAt_MethodCall (super_run T hfile htop hms henv hks hkc hp hka I hN hσ ha fun u s1 I1 hu => ?_) hc) hi hsw
  show wpAny _ _ (callWith p5 (.ref u) [] ((false, eval (.Name x1 p3) X.env) :: []) []) _ _ _
  refine PySem.W.kxs_callWith (i := "ValueError.__init__") (x := a) rfl (Calls.evalArgs_plain ?_)
  refine Calls.spliced_cons (ld_loc I1 hN1 hσ1 (by rw [henv]; exact hl1) (fun u1 r1 => ?_) hd1)
  refine Calls.spliced_nil ⟨hu, ?_⟩
  exact super_call T.ox I1 ha hu (by rw [sizeLine_eq]; show 1 ≤ _; decide) fun s' J => h s' J

/-- the promise of __init__: the fields stand in the new dict, the last one first -/
def spI (C : Addr) (fs : List Str) : Sp := fun vs H Q _ => ∃ (a : Addr) (ws : List V), vs = .ref a :: ws ∧ ws.length = fs.length ∧ H a = some (exo a C none) ∧
  ∀ d H', H d = none → d ≠ a → H' a = some (exo a C (some d)) → H' d = some (exd d (fs.zip ws).reverse) → (∀ b, b ≠ a → b ≠ d → H' b = H b) → Q .non H'
/-- the frame -/
theorem init_of {N ps : List Str} {fs : List Str} {ob : List Stmt} (T : SupC K file C f cc cda qual params ob scope fd) (S : NScope N ps ["__class__"] scope) (hps : ps.length = fs.length + 1)
    (hbody : ∀ (A : Around) (outer : List Env) (s0 : Shared) (H : Hp) (s : Shared) (a : Addr) (ws : List V) (Q : VK) (E : XK), ws.length = fs.length → H a = some (exo a C none) → L2.Inv (ncx (CX P w) P w K mg base N (nfI qual params ob scope cc cda) f A outer s0 H E) [] (startF N (.ref a :: ws) [some (.ref C)]) H s →
      (∀ d H', H d = none → d ≠ a → H' a = some (exo a C (some d)) → H' d = some (exd d (fs.zip ws).reverse) → (∀ b, b ≠ a → b ≠ d → H' b = H b) → Q .non H') →
      PySem.wpAt (model P w) (ncx (CX P w) P w K mg base N (nfI qual params ob scope cc cda) f A outer s0 H E).A (.func ob (ncx (CX P w) P w K mg base N (nfI qual params ob scope cc cda) f A outer s0 H E).env) (execs ob (ncx (CX P w) P w K mg base N (nfI qual params ob scope cc cda) f A outer s0 H E).env)
        (L2.SP (ncx (CX P w) P w K mg base N (nfI qual params ob scope cc cda) f A outer s0 H E) [] { nx := fun _ H' => Q .non H', rt := Q }) (ncx (CX P w) P w K mg base N (nfI qual params ob scope cc cda) f A outer s0 H E).xe s) :
    FnOk P w K mg base (CX P w) 1 f fd ps (spI C fs) := by
  obtain ⟨oc, od, osl, kV, doc, pm, an, ct, hlk, rfl⟩ := T.lk
  refine ⟨fun vs H Q E hq => ?_, fun A outer s H args us vs Q E hr e0 hb r hq => ?_⟩
  · obtain ⟨a, ws, rfl, hl, _⟩ := hq
    simp [hl, hps]
  obtain ⟨a, ws, rfl, hl, ha, hQ⟩ := hq
  have hlv : (V.ref a :: ws).length = ps.length := by simp [hl, hps]
  have KX : K.In s.heap := e0.mod.kin.keeps fun b o e => (e0.bs b o e).1
  have lim : s.heap.NoLimit := e0.mod.nolimit.keeps fun b o e => (e0.bs b o e).1
  obtain ⟨cl, cld, csl, hcell⟩ := T.ce
  refine codeAny_call_function hr.depth (KX _ _ hlk) rfl S.co S.gen rfl (PySem.W.codeRec_of KX T.cd) (hb _ _ _ _ (wpAny_newFunctionEnv S.nocell (fun y hy => S.par y.1 (List.of_mem_zip hy).1) (fun h₁ hns hsb => ?_) S.kind))
  refine ⟨lim.fresh _ hsb, ks_codeAny_funcAt ?_⟩
  have kp : ∀ b o, s.heap.get? b = some o → h₁.get? b = some o := fun b o e => hsb.extBut b o (Nat.ne_of_lt (Heap.lt_size e)) (Heap.get?_push_of_some _ e)
  have CA : CellsAt (nfI qual params ob scope cc cda).cl ["__class__"] [some (.ref C)] s.heap H := by
    have hK : ∀ y c, ([(("__class__" : Str), cc)] : List (Str × Addr)).lookup y = some c → c = cc := fun y c e => by
      have := PySem.mem_of_lookup e
      simp at this
      exact this.2
    obtain ⟨hcb, hcn⟩ : s.heap.get? cc = some ⟨cl, cld, .cell (some (.ref C)), csl⟩ ∧ H cc = none := e0.bs _ _ (e0.mod.kin _ _ hcell)
    refine ⟨rfl, fun y c e => ?_, fun x y c e1 e2 => ?_, fun i y e => ?_⟩
    · rw [hK y c e]
      exact ⟨hcn, _, _, hcb, rfl⟩
    · have m1 := PySem.mem_of_lookup e1
      have m2 := PySem.mem_of_lookup e2
      simp [nfI] at m1 m2
      rw [m1.1, m2.1]
    · cases i with
      | zero =>
        simp at e
        subst e
        refine ⟨cc, rfl, fun v hv => ?_⟩
        simp at hv
        subst hv
        exact ⟨.ref C, rfl, _, hcb, rfl⟩
      | succ i => simp at e
  have I := inv_startN (tk := s.toks + (ps.zip us).length) (CX := CX P w) (E := E) (F := nfI qual params ob scope cc cda) (f := f) S hr.hd e0 hlv r CA hns kp
  refine ks_wpAt_mono (hbody A outer s H _ a ws Q E hl ha I hQ) (fun fl s' hs => ?_) fun e s' hs => hs
  cases fl with
  | ret u =>
    obtain ⟨v, σ', H', J, rv, q⟩ := hs
    exact ⟨v, H', J.os, J.bare, J.base, J.hok, rv, q⟩
  | next =>
    obtain ⟨σ', H', J, q⟩ := hs
    exact ⟨.non, H', J.os, J.bare, J.base, J.hok, rfl, q⟩
  | brk =>
    obtain ⟨_, _, _, z⟩ := hs
    exact False.elim z
  | cont =>
    obtain ⟨_, _, _, z⟩ := hs
    exact False.elim z
end
end Pv

/-! QB: raise. -/
namespace Pv
open PySem PySem.Spec PyProof.Rows L2 LamX NdefX

section
variable {P : Program} {w : World} {K : PySem.W.Frag} {mg : Str → Option Value} {base : Heap} {file qual : Str} {C f cc cda : Addr} {params : Arguments} {body : List Stmt} {scope : Scope} {fd : FuncData}
/-- what must be known of the program's text -/
structure SupP (P : Program) (mg : Str → Option Value) (file : Str) : Prop where
  file : ((P.main.file : Str) == file) = true
  top : (P.main.scope.names.lookup ("super" : Str)).isSome = false
  sup : mg "super" = none
/-- the names of an __init__ -/
structure SupN (scope : Scope) (params : Arguments) (xs : List Str) : Prop where
  ns : NScope (("self" : Str) :: (xs ++ [("__class__" : Str)])) (("self" : Str) :: xs) [("__class__" : Str)] scope
  ks : scope.names.lookup ("super" : Str) = some .globalImplicit
  hp : ∃ ar : Arg, (params.posonlyargs ++ params.args).head? = some ar ∧ ar.arg = "self"
  dn : ∀ x ∈ xs, (x == ("__debug__" : Str)) = false ∧ (x == ("__classdict__" : Str)) = false ∧ x ≠ "self"
theorem SupN.loc {xs : List Str} (S : SupN scope params xs) {x : Str} (h : x ∈ xs) : scope.names.lookup x = some .local := S.ns.par x (List.mem_cons_of_mem _ h)
theorem exd_eq {fs : List (Str × V)} {H : Hp} {d : Addr} (h : H d = some (exd d fs)) : H d = some (exd d fs) := h
theorem init2 {x1 x2 : Str} {p0 p1 p2 p3 p4 p5 p6 q0 q1 q2 q3 r0 r1 r2 r3 : Pos} (T : SupC K file C f cc cda qual params body scope fd) (S : SupN scope params [x1, x2]) (hP : SupP P mg file)
    (hb : body = [.Expr (.Call (.Attribute (.Call (.Name "super" p0) [] [] p1) "__init__" p2) [.Name x1 p3, .Name x2 p4] [] p5) p6, .Assign [.Attribute (.Name "self" q0) x1 q1] (.Name x1 q2) q3, .Assign [.Attribute (.Name "self" r0) x2 r1] (.Name x2 r2) r3])
    (n1 : PySem.W.findIn K (.ref C) x1 = some none) (n2 : PySem.W.findIn K (.ref C) x2 = some none)
    (hc : ∀ env : Env, ∃ pl : Sem Bool, eval (.Call (.Attribute (.Call (.Name "super" p0) [] [] p1) "__init__" p2) [.Name x1 p3, .Name x2 p4] [] p5) env = (do
      let ov ← attributeBase (.Call (.Name "super" p0) [] [] p1) "__init__" env (eval (.Call (.Name "super" p0) [] [] p1) env)
      standAt p2.atName
      let (f, first) ← holding [ov] (getMethod ov "__init__" pl)
      callWith p5 f first (backTo p5 (starEach [.Name x1 p3, .Name x2 p4] env)) []))
    (hsw : ∀ env : Env, swapsWith (.Call (.Attribute (.Call (.Name "super" p0) [] [] p1) "__init__" p2) [.Name x1 p3, .Name x2 p4] [] p5) none p6.line env = pure false)
    (hs1 : ∀ env : Env, swapsWith (.Name x1 q2) (some (.Attribute (.Name "self" q0) x1 q1)) q3.line env = pure false) (hs2 : ∀ env : Env, swapsWith (.Name x2 r2) (some (.Attribute (.Name "self" r0) x2 r1)) r3.line env = pure false)
    (hi : ∀ (L : Addr) (g : Addr) (cd : Value) (cl : List (Str × Addr)), interactive (PySem.W.envX qual scope L g cd cl) = false) :
    FnOk P w K mg base (CX P w) 1 f fd [("self" : Str), x1, x2] (spI C [x1, x2]) := by
  obtain ⟨ar, hp, har⟩ := S.hp
  have d1 := S.dn x1 (by simp)
  have d2 := S.dn x2 (by simp)
  refine init_of (N := [("self" : Str), x1, x2, ("__class__" : Str)]) T S.ns rfl fun A outer s0 H s a ws Q E hl ha I hQ => ?_
  match ws, hl with
  | [v1, v2], _ =>
    generalize hX : ncx (CX P w) P w K mg base [("self" : Str), x1, x2, ("__class__" : Str)] (nfI qual params body scope cc cda) f A outer s0 H E = X at I ⊢
    have XK : X.K = K := by rw [← hX] <;> rfl
    have Xp : X.prog = P := by rw [← hX] <;> rfl
    have Xm : X.mg = mg := by rw [← hX] <;> rfl
    have XN : X.N = [("self" : Str), x1, x2, ("__class__" : Str)] := by rw [← hX] <;> rfl
    have Xe : X.env = PySem.W.envX qual scope X.env.locals f (.ref cda) [("__class__", cc)] := by rw [← hX] <;> rfl
    have Xw : X.w = w := by rw [← hX] <;> rfl
    subst XK Xp Xm Xw
    have l1 : X.env.kindOf x1 = some .local := by rw [Xe]; exact S.loc (by simp)
    have l2 : X.env.kindOf x2 = some .local := by rw [Xe]; exact S.loc (by simp)
    have ls : X.env.kindOf "self" = some .local := by rw [Xe]; exact S.ns.par _ (by simp)
    obtain ⟨pl, hc⟩ := hc X.env
    rw [hb]
    refine ks_wpAt_execs_cons ?_
    refine super2 (x1 := x1) (x2 := x2) (v1 := v1) (v2 := v2) T hP.file hP.top hP.sup Xe S.ks (S.ns.frk _ (by simp)) hp (by rw [har]; exact S.ns.par _ (by simp)) I (by rw [XN, har] <;> rfl) rfl ha (by rw [XN] <;> rfl) (by rw [XN] <;> rfl) rfl rfl (S.loc (by simp)) (S.loc (by simp)) d1.1 d2.1 (by rw [Xe]; exact hi _ _ _ _) hc (hsw _) fun s' J => ?_
    refine tree_of ?_
    have k1 : PSs X [.Assign [.Attribute (.Name "self" q0) x1 q1] (.Name x1 q2) q3, .Assign [.Attribute (.Name "self" r0) x2 r1] (.Name x2 r2) r3] _ :=
      pss_cons (ps_ost (pe_var (i := 0) (by rw [XN] <;> rfl) (.inl ls)) (pe_var (i := 1) (by rw [XN] <;> rfl) (.inl l1) d1.1 d1.2.1) (hs1 _))
        (pss_one (ps_ost (pe_var (i := 0) (by rw [XN] <;> rfl) (.inl ls)) (pe_var (i := 2) (by rw [XN] <;> rfl) (.inl l2) d2.1 d2.2.1) (hs2 _)))
    refine k1.run [] s' _ H _ J ?_
    refine ⟨v1, rfl, .ref a, rfl, a, C, rfl, T.ox, n1, .inl ⟨ha, fun dx hdx hne => ?_⟩⟩
    have nda : dx ≠ a := hne
    refine ⟨v2, rfl, .ref a, rfl, a, C, rfl, T.ox, n2, .inr ⟨dx, [(x1, v1)], upd_same, by rw [upd_ne nda, upd_same], (show 1 ≤ 900 by decide), ?_⟩⟩
    refine hQ dx _ hdx hne (by rw [upd_ne (Ne.symm nda), upd_same]) (by rw [upd_same] <;> rfl) fun b h1 h2 => ?_
    rw [upd_ne h2, upd_ne h1, upd_ne h2]
theorem init1 {x1 : Str} {p0 p1 p2 p3 p5 p6 q0 q1 q2 q3 : Pos} (T : SupC K file C f cc cda qual params body scope fd) (S : SupN scope params [x1]) (hP : SupP P mg file)
    (hb : body = [.Expr (.Call (.Attribute (.Call (.Name "super" p0) [] [] p1) "__init__" p2) [.Name x1 p3] [] p5) p6, .Assign [.Attribute (.Name "self" q0) x1 q1] (.Name x1 q2) q3])
    (n1 : PySem.W.findIn K (.ref C) x1 = some none)
    (hc : ∀ env : Env, ∃ pl : Sem Bool, eval (.Call (.Attribute (.Call (.Name "super" p0) [] [] p1) "__init__" p2) [.Name x1 p3] [] p5) env = (do
      let ov ← attributeBase (.Call (.Name "super" p0) [] [] p1) "__init__" env (eval (.Call (.Name "super" p0) [] [] p1) env)
      standAt p2.atName
      let (f, first) ← holding [ov] (getMethod ov "__init__" pl)
      callWith p5 f first (backTo p5 (starEach [.Name x1 p3] env)) []))
    (hsw : ∀ env : Env, swapsWith (.Call (.Attribute (.Call (.Name "super" p0) [] [] p1) "__init__" p2) [.Name x1 p3] [] p5) none p6.line env = pure false)
    (hs1 : ∀ env : Env, swapsWith (.Name x1 q2) (some (.Attribute (.Name "self" q0) x1 q1)) q3.line env = pure false)
    (hi : ∀ (L : Addr) (g : Addr) (cd : Value) (cl : List (Str × Addr)), interactive (PySem.W.envX qual scope L g cd cl) = false) :
    FnOk P w K mg base (CX P w) 1 f fd [("self" : Str), x1] (spI C [x1]) := by
  obtain ⟨ar, hp, har⟩ := S.hp
  have d1 := S.dn x1 (by simp)
  refine init_of (N := [("self" : Str), x1, ("__class__" : Str)]) T S.ns rfl fun A outer s0 H s a ws Q E hl ha I hQ => ?_
  match ws, hl with
  | [v1], _ =>
    generalize hX : ncx (CX P w) P w K mg base [("self" : Str), x1, ("__class__" : Str)] (nfI qual params body scope cc cda) f A outer s0 H E = X at I ⊢
    have XK : X.K = K := by rw [← hX] <;> rfl
    have Xp : X.prog = P := by rw [← hX] <;> rfl
    have Xm : X.mg = mg := by rw [← hX] <;> rfl
    have XN : X.N = [("self" : Str), x1, ("__class__" : Str)] := by rw [← hX] <;> rfl
    have Xe : X.env = PySem.W.envX qual scope X.env.locals f (.ref cda) [("__class__", cc)] := by rw [← hX] <;> rfl
    have Xw : X.w = w := by rw [← hX] <;> rfl
    subst XK Xp Xm Xw
    have l1 : X.env.kindOf x1 = some .local := by rw [Xe]; exact S.loc (by simp)
    have ls : X.env.kindOf "self" = some .local := by rw [Xe]; exact S.ns.par _ (by simp)
    obtain ⟨pl, hc⟩ := hc X.env
    rw [hb]
    refine ks_wpAt_execs_cons ?_
    refine super1 (x1 := x1) (v1 := v1) T hP.file hP.top hP.sup Xe S.ks (S.ns.frk _ (by simp)) hp (by rw [har]; exact S.ns.par _ (by simp)) I (by rw [XN, har] <;> rfl) rfl ha (by rw [XN] <;> rfl) rfl (S.loc (by simp)) d1.1 (by rw [Xe]; exact hi _ _ _ _) hc (hsw _) fun s' J => ?_
    refine tree_of ?_
    have k1 : PSs X [.Assign [.Attribute (.Name "self" q0) x1 q1] (.Name x1 q2) q3] _ :=
      pss_one (ps_ost (pe_var (i := 0) (by rw [XN] <;> rfl) (.inl ls)) (pe_var (i := 1) (by rw [XN] <;> rfl) (.inl l1) d1.1 d1.2.1) (hs1 _))
    refine k1.run [] s' _ H _ J ?_
    refine ⟨v1, rfl, .ref a, rfl, a, C, rfl, T.ox, n1, .inl ⟨ha, fun dx hdx hne => ?_⟩⟩
    have nda : dx ≠ a := hne
    refine hQ dx _ hdx hne upd_same (by rw [upd_ne nda, upd_same] <;> rfl) fun b h1 h2 => ?_
    rw [upd_ne h1, upd_ne h2]

/-- what is known of a class of errors -/
structure MkX (P : Program) (w : World) (K : PySem.W.Frag) (mg : Str → Option Value) (base : Heap) (x : Str) (C : Addr) (fs : List Str) : Prop where
  ox : OexC K C
  ini : ∃ (fI : Addr) (fd : FuncData), PySem.W.findIn K (.ref C) "__init__" = some (some (.ref fI)) ∧ PySem.W.typeIn K (.ref fI) = some (.type "function") ∧ FnOk P w K mg base (CX P w) 1 fI fd (("self" : Str) :: fs) (spI C fs) ∧ Binds K fd (("self" : Str) :: fs) []
  gm : mg x = some (.ref C)
end

def datas : List Sl → Option (List PD)
  | [] => some []
  | .dat d :: xs => match datas xs with
    | some ds => some (d :: ds)
    | none => none
  | _ => none
theorem datas_ok [Fed] {K : PySem.W.Frag} {F : Hp} {μ : List Addr} : ∀ {vs : List V} {xs : List Sl} {ds : List PD}, SlRs K F μ vs xs → datas xs = some ds → RDs K F vs ds
  | _, _, ds, .nil, e => by
    have e : some ([] : List PD) = some ds := e
    cases e
    exact .nil
  | _, _, ds, .cons (b := x) r t, e => by
    cases x with
    | dat d =>
      unfold datas at e
      split at e
      · rename_i es he
        cases e
        exact .cons r (datas_ok t he)
      · cases e
    | _ => cases e
theorem RDs.rev [Fed] {K : PySem.W.Frag} {F : Hp} : ∀ {vs : List V} {ds : List PD}, RDs K F vs ds → RDs K F vs.reverse ds.reverse
  | _, _, .nil => .nil
  | _, _, .cons a b => by
    rw [List.reverse_cons, List.reverse_cons]
    exact b.rev.app (.cons a .nil)
theorem zip_rev {α β : Type} : ∀ {xs : List α} {ys : List β}, xs.length = ys.length → (xs.zip ys).reverse = xs.reverse.zip ys.reverse
  | [], [], _ => rfl
  | x :: xs, y :: ys, h => by
    have h : xs.length = ys.length := by simpa using h
    rw [List.zip_cons_cons, List.reverse_cons, List.reverse_cons, List.reverse_cons, zip_rev h, List.zip_append (by simp [h])]
    rfl
/-- raise X(e, ..) -/
def sRaise (c n : Nat) (tr : Ax) : Sx := fun env h => (tr env h).bind fun xs h1 => match datas xs with
  | some ds => if Nat.beq ds.length n then .exc c ds.reverse h1 else .no
  | none => .no
section
variable {C : Cn} {Wx : XK} {X : Cx} {e : Expr} {es : List Expr} {tr : Ax} {p p2 pos : Pos} {x : Str} {c : Nat} {fs : List Str}
theorem del_new {H H2 : Hp} {a d : Addr} {o : HO} (h : ∀ b, b ≠ a → b ≠ d → H2 b = H b) (ha : H a = none) (hd : d ≠ a) : upd (L2.del H2 a) d o = upd H d o := by
  funext b
  by_cases h1 : b = d
  · rw [h1, upd_same, upd_same]
  · rw [upd_ne h1, upd_ne h1]
    by_cases h2 : b = a
    · rw [h2, del_same, ha]
    · rw [del_ne h2, h b h2 h1]
theorem ss_raise [Fed] {A : Addr} {n : Nat} (M : MkX X.prog X.w X.K X.mg X.base x A fs) (hA : A = Fed.xc C.K c) (hf : Fed.xf c = fs.reverse) (hfn : fs.length = n) (hK : C.K = X.K) (hcalm : X.calm = true) (tk : Takes X (fun cls d _ H => Wx cls d H)) (hr : Room 2 X.A) (hgl : Gl X x) (ha : SA C Wx X (e :: es) tr) (hn : fs.length ≤ 1000 := by decide) (hdb : (x == ("__debug__" : Str)) = false := by decide)
    (he : starEach (e :: es) X.env = (false, eval e X.env) :: starEach es X.env := by rfl) (hpl : (backTo p2 (starEach es X.env)).any (·.1) = false := by rfl) : SS C Wx X (.Raise (some (.Call (.Name x p) (e :: es) [] p2)) none pos) (sRaise c n tr) := by
  subst hA
  subst hfn
  obtain ⟨fI, fd, iC, tI, F1, hb⟩ := M.ini
  refine ⟨ps_imp (ps_raise hcalm tk (pmk_oex M.ox iC tI F1 hr hb .nil passes_no hgl M.gm ha.pa hdb he hpl)) fun D σ H q => ?_⟩
  obtain ⟨F, U, μ, env, h, l, ev, o⟩ := q
  refine rd_step l ev o fun xs vs F1 U1 μ1 H1 h1 g1 p1 l1 r1 e1 o1 => ?_
  cases hds : datas xs with
  | none => rw [hds] at o1; exact o1.elim
  | some ds =>
    rw [hds] at o1
    have o1 : Out C F1 U1 μ1 Wx (rFl C.K) (qD D) (if Nat.beq ds.length fs.length = true then .exc c ds.reverse h1 else .no) := o1
    split at o1
    · rename_i hlen
      have hlen := Nat.eq_of_beq_eq_true hlen
      have rd := datas_ok r1 hds
      have hvl : vs.length = fs.length := rd.len.trans hlen
      refine ⟨?_, fun a ha => ⟨a, vs, by rw [List.append_nil], hvl, upd_same, fun d H2 hd hne h2a h2d hot => ⟨rfl, d, _, h2a, h2d, ?_, ?_⟩⟩⟩
      · rw [hvl]; exact hn
      · rw [upd_ne hne] at hd; exact hd
      · have hd1 : H1 d = none := by rw [upd_ne hne] at hd; exact hd
        have eqH : upd (L2.del H2 a) d (.xd (fs.zip vs).reverse) = upd H1 d (.xd (fs.zip vs).reverse) := del_new (fun b b1 b2 => by rw [hot b b1 b2, upd_ne b1]) ha hne
        rw [eqH]
        obtain ⟨g2, l2⟩ := l1.new (o := .xd (fs.zip vs).reverse) hd1
        refine o1 _ _ _ _ μ1 _ g2 (List.prefix_refl _) l2 ⟨rfl, d, vs.reverse, rfl, ?_, (rd.mono g2.f).rev, by rw [hf, List.length_reverse, List.length_reverse, hlen]⟩
        rw [upd_same, hf, zip_rev hvl.symm]
    · exact o1.elim
end
end Pv

/-! QC: try, the error that is caught kept as a value. -/
namespace Pv
open PySem PySem.Spec PyProof.Rows L2

section
variable {X : Cx} {pins : List (Addr × Obj)} {σ : L2.St} {H : Hp} {s : Shared} {a : Addr} {oe : Obj} {us : Array Value}
/-- an object that nothing tells of is told of from now on -/
theorem Inv_track (I : L2.Inv X pins σ H s) (he : s.heap.get? a = some oe) (hd : oe.data = .fields us) (na : H a = none) (nL : a ≠ X.env.locals) (n0 : ∀ o, X.s_0.heap.get? a = some o → X.H_0 a ≠ none) (np : ∀ p ∈ X.pn ++ pins, p.1 ≠ a) :
    L2.Inv X pins σ (upd H a (.frz oe (exU a))) s := by
  have ne : ∀ {b : Addr} {u : HO}, H b = some u → b ≠ a := fun e => ne_of_none e na
  refine { ok := I.ok, os := I.os, bare := I.bare, base := ?_, loc := I.loc, cell := I.cell, free := ?_, freeC := fun x c e => ?_, pin := fun p hp => ?_, hok := fun b u e => ?_, len := I.len }
  · refine { keep := I.base.keep, slot := I.base.slot, free := fun b o e n hx => ?_, there := I.base.there, tups := fun b xs e => ?_, frzs := fun b o u e => ?_, tbls := fun b ps e => ?_ }
    · have hba : b ≠ a := fun z => by
        rw [z] at e n
        exact n0 o e n
      rw [upd_ne hba]
      exact I.base.free b o e n hx
    · have q := I.base.tups b xs e
      rw [upd_ne (ne q)]; exact q
    · have q := I.base.frzs b o u e
      rw [upd_ne (ne q)]; exact q
    · obtain ⟨more, q⟩ := I.base.tbls b ps e
      exact ⟨more, by rw [upd_ne (ne q)]; exact q⟩
  · rw [upd_ne (Ne.symm nL)]; exact I.free
  · have hc : c ≠ a := fun z => by
      obtain ⟨v, o, ho, hv⟩ := I.cell x c e
      rw [z, he] at ho; cases ho
      rw [hd] at hv; cases hv
    rw [upd_ne hc]; exact I.freeC x c e
  · obtain ⟨h1, h2, h3⟩ := I.pin p hp
    exact ⟨h1, by rw [upd_ne (np p hp)]; exact h2, h3⟩
  · by_cases hb : b = a
    · subst hb
      rw [upd_same] at e
      cases e
      exact ⟨he, ⟨oe, he⟩, ⟨oe, he⟩, fun h1 h2 ⟨o, z⟩ k => ⟨o, k o z⟩⟩
    · rw [upd_ne hb] at e
      exact (I.hok b u e).stay (fun _ _ _ z => z) (fun c z => by rw [upd_ne (ne z)]; exact z) (fun c xs z => by rw [upd_ne (ne z)]; exact z)
theorem Inv_suite (I : L2.Inv X pins σ H s) (a : Addr) : L2.Inv (X.suite a (X.pn ++ pins)) [] σ H s :=
  { ok := I.ok.suite _ _, os := I.os, bare := I.bare, base := I.base, loc := I.loc, cell := I.cell, free := I.free, freeC := I.freeC, pin := fun p hp => I.pin p (by rw [List.append_nil] at hp; exact hp), hok := I.hok, len := I.len }
theorem Inv_unsuite {pn' : List (Addr × Obj)} (I : L2.Inv (X.suite a (X.pn ++ pins)) pn' σ H s) (ok : X.Ok) : L2.Inv X pins σ H s :=
  { ok := ok, os := I.os, bare := I.bare, base := I.base, loc := I.loc, cell := I.cell, free := I.free, freeC := I.freeC, pin := fun p hp => I.pin p (List.mem_append_left _ hp), hok := I.hok, len := I.len }
end

/-- the ends behind an except suite: its name is gone -/
def dAs (i : Nat) (D : Ends) : Ends := { nx := fun σ H => D.nx (σ.set i none) H, rt := D.rt, bk := fun σ H => D.bk (σ.set i none) H, ct := fun σ H => D.ct (σ.set i none) H }
/-- what the clause wishes of an error of the body -/
def wExv (K : PySem.W.Frag) (n : Nat) (c : Value) (i : Nat) (ts : TS) (Wout : WX) (D : Ends) : WX := fun cls d σ H => σ.length = n → ∃ b, PySem.W.exmOne K cls c = some b ∧
  (b = true → ∀ (a : Addr) (oe : Obj) (us : Array Value), H a = none → oe.cls = cls → oe.dict = d → oe.data = .fields us → ts (dAs i D) (σ.set i (some (.ref a))) (upd H a (.frz oe (exU a)))) ∧ (b = false → Wout cls d σ H)

section
variable {X : Cx} {x n : Str} {c : Value} {i : Nat} {body suite : List Stmt} {b₀ : Stmt} {np pos pos' : Pos} {tb : WX → TS} {ts : TS} {Wout : WX}
theorem ps_try_exv (hs : X.stack = X.env :: X.outer) (hf : X.env.frame = some X.env.locals) (hex : X.ex = []) (hN : X.N.Nodup) (hi : X.N[i]? = some n) (hln : X.env.kindOf n = some .local) (hc : Names X x c) (tk : Takes X Wout)
    (hb : ∀ (W : WX) (pn : List (Addr × Obj)) (xe : Value → Shared → Prop), Takes (X.tr pn xe) W → PassesOwn (model X.prog X.w) X.A X.env xe → PSs (X.tr pn xe) body (tb W))
    (hsu : ∀ (a : Addr) (pn : List (Addr × Obj)), PSs (X.suite a pn) (b₀ :: suite) ts) :
    PS X (.Try body [.ExceptHandler (some (.Name x np)) (some n) (b₀ :: suite) pos'] [] [] pos) (fun D σ H => tb (wExv X.K X.N.length c i ts Wout D) D σ H) := by
  refine ⟨fun pins s σ H D I h => ?_⟩
  have ok := I.ok
  have hfr : X.A.frames = some (X.env :: X.outer) := by rw [ok.frames, hs]
  refine wpAny_Try_except (wpAny_mono ((hb (wExv X.K X.N.length c i ts Wout D) (X.pn ++ pins) (fun e s₁ => wpAny (model X.prog X.w) X.A (noteFrame e X.env) (fun _ s₂ => wpAny (model X.prog X.w) X.A (setFlight e none) (fun _ s₃ =>
    wpAny (model X.prog X.w) X.A (handleBy e X.env [.ExceptHandler (some (.Name x np)) (some n) (b₀ :: suite) pos']) (SP X pins D) X.xe s₃) X.xe s₂) X.xe s₁) (fun u s' xx => ?_) PassesOwn.looking).run [] s σ H D (I.toTry _) h) (fun fl s1 hsp => ?_) (fun _ _ z => z))
  · obtain ⟨a, B, sI, pins', σ', H', cls, d, rfl, J', nb, up, sky, na, os, ag, w0⟩ := xx
    have J : L2.Inv X pins σ' H' sI := J'.ofTry ok
    obtain ⟨b, hb1, hyes, hno⟩ := w0 J.len
    have sky' : Sky B (X.env :: X.outer) a (Zc cls d) X.env.locals s'.heap := by rw [← hs]; exact sky
    show wpAny (model X.prog X.w) X.A (noteFrame (.ref a) X.env) _ _ _
    refine Sky.land Zc.steady hfr hf sky' fun h3 fl3 up3 => ?_
    have J3 : L2.Inv X pins σ' H' { s' with heap := h3 } := J.landed nb fl3.1 (up.trans up3) os ag
    obtain ⟨oe3, vs3, he3, hz3, hd3⟩ := fl3.there
    have Bn : B.get? a = none := fl3.2.1
    have nfr : a ∉ frs (X.env :: X.outer) := fun hm => by
      obtain ⟨_, o', e', hnf⟩ := fl3.2.2.1.mem hm
      rw [he3] at e'; cases e'
      exact hnf _ hd3
    have nL : a ≠ X.env.locals := fun z => nfr (List.mem_filterMap.mpr ⟨X.env, List.mem_cons_self, by rw [hf, z]⟩)
    have inB : ∀ {p : Addr} {o : Obj}, sI.heap.get? p = some o → p ∉ frs X.stack → p ≠ a := fun {p o} e hn z => by
      have := nb p o e hn
      rw [z, Bn] at this
      cases this
    have nps : ∀ p ∈ X.pn ++ pins, p.1 ≠ a := fun p hp => by
      obtain ⟨e, _, n1, n2, _⟩ := J.pin p hp
      exact inB e fun hm => (List.mem_cons.mp (J.stkSub _ hm)).elim n1 n2
    have n0 : ∀ o, X.s_0.heap.get? a = some o → X.H_0 a ≠ none := fun o e z => by
      have nf : a ∉ X.fs := fun hm => nfr (by
        obtain ⟨e, he, q⟩ := List.mem_filterMap.mp hm
        exact List.mem_filterMap.mpr ⟨e, List.mem_cons_of_mem _ he, q⟩)
      exact inB (J.base.keep a o e z nf (by rw [hex]; simp)) (by rw [hs]; exact nfr) rfl
    refine wpAny_handleBy_cons (codeAny_handlers_test ?_) (by intro q; cases q)
    have LM := PySem.W.exm_one (M := model X.prog X.w) J3.kIn (fun A Q E s k q => wpAny_typeOf_ref (k _ _ he3) (by rw [hz3.1]; exact q) : PySem.W.Looks (model X.prog X.w) h3 (typeOf (.ref a)) cls) hb1
    have test : ∀ {Q : Value → Shared → Prop} {E : Value → Shared → Prop}, Q c { s' with heap := h3 } → wpAny (model X.prog X.w) (X.A.mark (some (.ref a))) (eval (.Name x np) X.env) Q E { s' with heap := h3 } := fun {Q E} q => by
      obtain ⟨hg, hdbg, hm | ⟨hm, hv, hnn⟩⟩ := hc
      · exact ld_glob (X := X.suite a (X.pn ++ pins)) (Inv_suite J3 a) hg hm q hdbg
      · exact ld_blt (X := X.suite a (X.pn ++ pins)) (Inv_suite J3 a) hg hm hv q hnn hdbg
    refine test (LM.here ?_)
    cases b with
    | true =>
      refine codeAny_handlers_suite_as (HandSPX.lands_againZ fl3 fun h4 fl4 up4 => ?_)
      have J4 : L2.Inv X pins σ' H' { s' with heap := h4 } := J.landed nb fl4.1 ((up.trans up3).trans up4) os ag
      obtain ⟨oe4, vs4, he4, hz4, hd4⟩ := fl4.there
      have S4 := Inv_suite (Inv_track J4 he4 hd4 na nL n0 nps) a
      refine store_ok (X := X.suite a (X.pn ++ pins)) (v := .ref a) S4 hN hi (.inl hln) rfl (fun s5 S5 => ?_) (.inr hln)
      refine wpAny_mono ((hsu a (X.pn ++ pins)).run [] s5 _ _ _ S5 (hyes rfl a oe4 vs4 na hz4.1 hz4.2 hd4)) (fun fl s6 hsp => ?_) (fun _ _ z => False.elim z)
      have fin : ∀ {σ6 : L2.St} {H6 : Hp} {Q : Shared → Prop}, L2.Inv (X.suite a (X.pn ++ pins)) [] σ6 H6 s6 → (∀ s7, L2.Inv X pins (σ6.set i none) H6 s7 → Q s7) →
          wpAny (model X.prog X.w) X.A (do bindName X.env n .none; unbindBehindTheSuite X.env n pos') (fun _ s7 => Q s7) X.xe s6 := fun {σ6 H6 Q} S6 hq => gone_ok (Inv_unsuite S6 ok) hN hi hln hq
      cases fl with
      | ret u =>
        obtain ⟨v6, σ6, H6, S6, r6, q6⟩ := hsp
        exact fin S6 fun s7 J7 => ⟨_, _, _, J7, r6, q6⟩
      | next =>
        obtain ⟨σ6, H6, S6, q6⟩ := hsp
        exact fin S6 fun s7 J7 => ⟨_, _, J7, q6⟩
      | brk =>
        obtain ⟨σ6, H6, S6, q6⟩ := hsp
        exact fin S6 fun s7 J7 => ⟨_, _, J7, q6⟩
      | cont =>
        obtain ⟨σ6, H6, S6, q6⟩ := hsp
        exact fin S6 fun s7 J7 => ⟨_, _, J7, q6⟩
    | false =>
      show wpAny _ X.A (handleBy (.ref a) X.env []) _ _ _
      refine wpAny_handleBy_nil ?_
      obtain ⟨k1, k2, k3, oe, vs, T, oT, ts', he, hz, hd, h1, hr⟩ := id fl3
      unfold PySem.passOn
      refine wpAny_bind (wpAny_field he hd h1 ?_)
      rw [if_neg (show ¬ ((Value.ref T == Value.none) = true) from by simp)]
      have out : wpAny (model X.prog X.w) X.A (setFlight (.ref a) X.env.frame) (fun _ s4 => wpAny (model X.prog X.w) X.A (throw (.ref a) : Sem Flow) (SP X pins D) X.xe s4) X.xe { s' with heap := h3 } := by
        rw [hf]
        exact HandSPX.setFlight_upZ fl3 fun h4 hh4 up4 => wpAny_throw (tk _ _ ⟨a, B, sI, pins, σ', H', cls, d, rfl, J, nb, (up.trans up3).trans up4, .inr (.inr (by rw [hs]; exact hh4)), na, os, ag, hno rfl⟩)
      first
        | exact wpAny_bind (wpAny_pure (wpAny_bind out))
        | exact wpAny_bind out
  · cases fl with
    | ret u =>
      obtain ⟨v, σ', H', J', r, q⟩ := hsp
      exact ⟨v, σ', H', J'.ofTry ok, r, q⟩
    | next =>
      obtain ⟨σ', H', J', q⟩ := hsp
      exact wpAny_execs_nil ⟨σ', H', J'.ofTry ok, q⟩
    | brk =>
      obtain ⟨σ', H', J', q⟩ := hsp
      exact ⟨σ', H', J'.ofTry ok, q⟩
    | cont =>
      obtain ⟨σ', H', J', q⟩ := hsp
      exact ⟨σ', H', J'.ofTry ok, q⟩
end
end Pv

/-! QD: what is asked of a caught error. -/
namespace Pv
open PySem PySem.Spec PyProof.Rows L2

/-- what a class of errors must say so that its instances can be asked -/
structure XcC (K : PySem.W.Frag) (C : Addr) : Prop where
  cl : (PySem.W.clsIn K C).isSome = true
  ga : PySem.W.findIn K (.ref C) "__getattribute__" = some (some (.builtin "BaseException.__getattribute__"))
  gg : PySem.W.findIn K (.ref C) "__getattr__" = some none
  sb : PySem.W.subIn K (.ref C) (.type "BaseException") = some true
  hd : PySem.W.hasDictIn K C = true
  ha : PySem.W.findIn K (.ref C) "__class__" = some (some (.builtin "object.__class__"))
  hn : PySem.W.specialIn K (.builtin "object.__class__") "__get__" = some (some (.builtin "getset_descriptor.__get__"))
  ht : PySem.W.takesIn K (.builtin "object.__class__") = some true
  hm : PySem.W.mroIn K C (.type "object") = some true
def xcB (K : PySem.W.Frag) (C : Addr) : Bool := (PySem.W.clsIn K C).isSome && (He.eqO (PySem.W.findIn K (.ref C) "__getattribute__") (some (some (.builtin "BaseException.__getattribute__"))) && (He.eqO (PySem.W.findIn K (.ref C) "__getattr__") (some none) &&
  (decide (PySem.W.subIn K (.ref C) (.type "BaseException") = some true) && (PySem.W.hasDictIn K C && (He.eqO (PySem.W.findIn K (.ref C) "__class__") (some (some (.builtin "object.__class__"))) && (He.eqO (PySem.W.specialIn K (.builtin "object.__class__") "__get__") (some (some (.builtin "getset_descriptor.__get__"))) &&
  (decide (PySem.W.takesIn K (.builtin "object.__class__") = some true) && decide (PySem.W.mroIn K C (.type "object") = some true))))))))
theorem xcB_ok {K : PySem.W.Frag} {C : Addr} (h : xcB K C = true) : XcC K C := by
  unfold xcB at h
  simp only [Bool.and_eq_true, decide_eq_true_eq] at h
  obtain ⟨h1, h2, h3, h4, h5, h6, h7, h8, h9⟩ := h
  exact ⟨h1, He.eqO_ok h2, He.eqO_ok h3, h4, h5, He.eqO_ok h6, He.eqO_ok h7, h8, h9⟩
def nthA {α : Type} : List α → Nat → Option α
  | [], _ => none
  | x :: _, 0 => some x
  | _ :: xs, n + 1 => nthA xs n
theorem nthA_eq {α : Type} : ∀ (e : List α) (n : Nat), nthA e n = e[n]?
  | [], _ => by simp [nthA]
  | _ :: _, 0 => by simp [nthA]
  | _ :: xs, n + 1 => by simp [nthA, nthA_eq xs n]

section
variable {X : Cx}
/-- isinstance(e, c), e an error that is kept as a value -/
def rIsX (K : PySem.W.Frag) : List V → Hp → VK → Prop := fun xs H Q => ∃ (a D dd : Addr) (oe : Obj) (us : Array Value) (fs : List (Str × V)) (c : V) (cv : Value) (b : Bool), xs = [.ref a, c] ∧ H a = some (.frz oe (exU a)) ∧ oe.cls = .ref D ∧ oe.dict = some dd ∧ oe.data = .fields us ∧ H dd = some (.xd fs) ∧ XcC K D ∧
  (∀ u, L2.RelV c u → u = cv) ∧ PySem.W.kitOne K (.ref D) cv = some b ∧ Q (.bl b) H
theorem inst_exv {X : Cx} {pins : List (Addr × Obj)} {σ : L2.St} {H : Hp} {s : Shared} {a D dd : Addr} {oe : Obj} {us : Array Value} {fs : List (Str × V)} (I : L2.Inv X pins σ H s) (ha : H a = some (.frz oe (exU a))) (hc : oe.cls = .ref D) (hd : oe.dict = some dd) (hf : oe.data = .fields us) (hx : H dd = some (.xd fs)) :
    ∃ od mA, PySem.W.InstAt s.heap a oe D (some od) ∧ s.heap.Ns1 dd mA ∧ (∀ f, RelO (fs.lookup f) (mA f)) ∧ s.heap.get? dd = some od ∧ ∀ y, PySem.W.lookIn y od = some (mA y) := by
  obtain ⟨hget, _⟩ := I.hok a _ ha
  obtain ⟨mA, hns, hr⟩ := I.hok dd _ hx
  obtain ⟨od, ho, hl⟩ := lookIn_ns hns
  exact ⟨od, mA, ⟨hget, hc, by unfold PySem.W.notCls; rw [hf] <;> rfl, by rw [hd]; exact ho⟩, hns, hr, ho, hl⟩
theorem call_isX : CallR X (.builtin "isinstance") (rIsX X.K) := by
  intro pins s σ H xs us Q I r h
  obtain ⟨a, D, dd, oe, fv, fs, c, cv, b, rfl, h1, h2, h3, h4, h5, XC, hcv, hk, q⟩ := h
  cases r with
  | cons rx rr =>
    cases rr with
    | cons rt rr =>
      cases rr
      cases rx
      have ec := hcv _ rt
      subst ec
      obtain ⟨od, mA, J, _⟩ := inst_exv I h1 h2 h3 h4 h5
      exact PySem.W.kia_one (PySem.W.kitx_exc XC.cl XC.ga XC.gg XC.sb XC.ha XC.hn XC.ht XC.hm) I.kIn J hk (fun z => nomatch z) fun tk => ⟨.bl b, H, I.kept (t' := tk) fun _ _ z => z, rfl, q⟩
end
/-- the answers of isinstance(e, c), by the error's class -/
structure TabX [Fed] (K : PySem.W.Frag) (cv : Value) (tab : List Bool) : Prop where
  at_ : ∀ c b, nthA tab c = some b → XcC K (Fed.xc K c) ∧ PySem.W.kitOne K (.ref (Fed.xc K c)) cv = some b
def cIsX (tab : List Bool) (te : Ex) : Ex := fun env h => (te env h).bind fun x h1 => match x with
  | .exv c _ => match nthA tab c with
    | some b => .ok (.dat (.bool b)) h1
    | none => .no
  | _ => .no
/-- where the field f stands, by the error's class -/
structure TabF [Fed] (K : PySem.W.Frag) (f : Str) (tab : List (Option Nat)) : Prop where
  at_ : ∀ c k, nthA tab c = some (some k) → XcC K (Fed.xc K c) ∧ PySem.W.findIn K (.ref (Fed.xc K c)) f = some none ∧ (Fed.xf c)[k]? = some f ∧ (Fed.xf c).Nodup
def cFld (tab : List (Option Nat)) (te : Ex) : Ex := fun env h => (te env h).bind fun x h1 => match x with
  | .exv c fs => match nthA tab c with
    | some (some k) => match nthA fs k with
      | some d => .ok (.dat d) h1
      | none => .no
    | _ => .no
  | _ => .no
theorem zip_lookup {α β : Type} [BEq α] [LawfulBEq α] : ∀ {xs : List α} {ys : List β} {k : Nat} {x : α} {y : β}, xs.Nodup → xs[k]? = some x → ys[k]? = some y → (xs.zip ys).lookup x = some y
  | [], _, _, _, _, _, h, _ => by simp at h
  | _ :: _, [], _, _, _, _, _, h => by simp at h
  | a :: xs, b :: ys, 0, x, y, _, h1, h2 => by
    simp at h1 h2
    subst h1; subst h2
    simp [List.lookup]
  | a :: xs, b :: ys, k + 1, x, y, nd, h1, h2 => by
    have h1 : xs[k]? = some x := by simpa using h1
    have h2 : ys[k]? = some y := by simpa using h2
    have hne : (x == a) = false := by
      refine beq_eq_false_iff_ne.mpr fun e => ?_
      subst e
      exact (List.nodup_cons.mp nd).1 (List.mem_of_getElem? h1)
    rw [List.zip_cons_cons, List.lookup, hne]
    exact zip_lookup (List.nodup_cons.mp nd).2 h1 h2
section
variable {C : Cn} {Wx : XK} {X : Cx} {a : Expr} {ta : Ex} {pos p p2 : Pos} {Tn f : Str} {cv : Value} {tab : List Bool} {tf : List (Option Nat)}
theorem relv_ref {A : Addr} : L2.RelV (.ref A) (.ref A) := rfl
/-- isinstance(e, c), c an own class -/
theorem se_isX [Fed] {A : Addr} (T : TabX C.K (.ref A) tab) (hg : Gl X "isinstance") (hm : X.mg "isinstance" = none) (hgT : Gl X Tn) (hmT : X.mg Tn = some (.ref A)) (ha : SE C Wx X a ta) (hK : X.K = C.K := by rfl) (hdT : (Tn == ("__debug__" : Str)) = false := by decide)
    (he : starEach [a, .Name Tn p2] X.env = (false, eval a X.env) :: starEach [.Name Tn p2] X.env := by rfl) (hpl : (backTo pos (starEach [.Name Tn p2] X.env)).any (·.1) = false := by rfl) :
    SE C Wx X (.Call (.Name "isinstance" p) [a, .Name Tn p2] [] pos) (cIsX tab ta) :=
  ⟨pe_imp (pe_callB call_isX hg hm (by decide +kernel) (pa_cons ha.pe (pa_cons (pe_glob (v := .ref A) hgT hmT rfl hdT) pa_nil) he) (he := he) (hpl := hpl)) fun σ H Q q => by
    obtain ⟨F, U, μ, env, h, l, e, o⟩ := q
    refine rd_step l e o fun x vx F1 U1 μ1 H1 h1 g1 p1 l1 r1 e1 o1 => ?_
    cases x with
    | exv c fs =>
      obtain ⟨a1, dd, oe, us, vs, rfl, z1, z2, z3, z4, z5, z6, z7⟩ := r1
      have o1 : Out C F1 U1 μ1 Wx (rSl C.K) Q (match nthA tab c with | some b => .ok (.dat (.bool b)) h1 | none => .no) := o1
      cases hb : nthA tab c with
      | none => rw [hb] at o1; exact o1.elim
      | some b =>
        rw [hb] at o1
        obtain ⟨XC, hk⟩ := T.at_ c b hb
        rw [hK]
        exact ⟨a1, _, dd, oe, us, _, .ref A, .ref A, b, rfl, l1.fh _ _ z1, z2, z3, z4, l1.fh _ _ z5, XC, fun u hu => hu, hk, o1.here l1 (.bl _)⟩
    | _ => exact o1.elim⟩
/-- isinstance(e, c), c a built-in class -/
theorem se_isXb [Fed] {Tt : String} (T : TabX C.K (.type Tt) tab) (hg : Gl X "isinstance") (hm : X.mg "isinstance" = none) (hgT : Gl X Tn) (hmT : X.mg Tn = none) (hvT : bootBuiltins Tn = some (.type Tt)) (ha : SE C Wx X a ta) (hK : X.K = C.K := by rfl) (hnT : Tn ≠ "__name__" := by decide) (hdT : (Tn == ("__debug__" : Str)) = false := by decide)
    (he : starEach [a, .Name Tn p2] X.env = (false, eval a X.env) :: starEach [.Name Tn p2] X.env := by rfl) (hpl : (backTo pos (starEach [.Name Tn p2] X.env)).any (·.1) = false := by rfl) :
    SE C Wx X (.Call (.Name "isinstance" p) [a, .Name Tn p2] [] pos) (cIsX tab ta) :=
  ⟨pe_imp (pe_callB call_isX hg hm (by decide +kernel) (pa_cons ha.pe (pa_cons (pe_bltn (v := .ty Tt) hgT hmT hvT rfl hnT hdT) pa_nil) he) (he := he) (hpl := hpl)) fun σ H Q q => by
    obtain ⟨F, U, μ, env, h, l, e, o⟩ := q
    refine rd_step l e o fun x vx F1 U1 μ1 H1 h1 g1 p1 l1 r1 e1 o1 => ?_
    cases x with
    | exv c fs =>
      obtain ⟨a1, dd, oe, us, vs, rfl, z1, z2, z3, z4, z5, z6, z7⟩ := r1
      have o1 : Out C F1 U1 μ1 Wx (rSl C.K) Q (match nthA tab c with | some b => .ok (.dat (.bool b)) h1 | none => .no) := o1
      cases hb : nthA tab c with
      | none => rw [hb] at o1; exact o1.elim
      | some b =>
        rw [hb] at o1
        obtain ⟨XC, hk⟩ := T.at_ c b hb
        rw [hK]
        exact ⟨a1, _, dd, oe, us, _, .ty Tt, .type Tt, b, rfl, l1.fh _ _ z1, z2, z3, z4, l1.fh _ _ z5, XC, fun u hu => hu, hk, o1.here l1 (.bl _)⟩
    | _ => exact o1.elim⟩
/-- e.f -/
theorem se_xfld [Fed] (T : TabF C.K f tf) (ha : SE C Wx X a ta) (hK : X.K = C.K := by rfl) (hb : attributeBase a f X.env (eval a X.env) = eval a X.env := by rfl) : SE C Wx X (.Attribute a f pos) (cFld tf ta) := by
  refine ⟨⟨fun pins s σ H Q I q => ?_⟩⟩
  refine attr_of hb (thn (ha.pe.run pins s σ H (fun v H1 => ∃ (a1 D dd : Addr) (oe : Obj) (us : Array Value) (fs : List (Str × V)) (v1 : V), v = .ref a1 ∧ H1 a1 = some (.frz oe (exU a1)) ∧ oe.cls = .ref D ∧ oe.dict = some dd ∧ oe.data = .fields us ∧ H1 dd = some (.xd fs) ∧ XcC X.K D ∧ PySem.W.findIn X.K (.ref D) f = some none ∧ fs.lookup f = some v1 ∧ Q v1 H1) I ?_) fun u s1 hh => ?_)
  · obtain ⟨F, U, μ, env, h, l, e, o⟩ := q
    refine rd_step l e o fun x vx F1 U1 μ1 H1 h1 g1 p1 l1 r1 e1 o1 => ?_
    cases x with
    | exv c fs =>
      obtain ⟨a1, dd, oe, us, vs, rfl, z1, z2, z3, z4, z5, z6, z7⟩ := r1
      have o1 : Out C F1 U1 μ1 Wx (rSl C.K) Q (match nthA tf c with | some (some k) => (match nthA fs k with | some d => .ok (.dat d) h1 | none => .no) | _ => .no) := o1
      split at o1
      · rename_i k hk
        split at o1
        · rename_i d hd
          obtain ⟨XC, hno, hf, nd⟩ := T.at_ c k hk
          rw [nthA_eq] at hd
          obtain ⟨v1, hv, rv⟩ := z6.get hd
          refine ⟨a1, _, dd, oe, us, _, v1, rfl, l1.fh _ _ z1, z2, z3, z4, l1.fh _ _ z5, by rw [hK]; exact XC, by rw [hK]; exact hno, zip_lookup nd hf hv, o1.here l1 rv⟩
        · exact o1.elim
      · exact o1.elim
    | _ => exact o1.elim
  · obtain ⟨v, H1, I1, rv, a1, D, dd, oe, us, fs, v1, rfl, h1, h2, h3, h4, h5, XC, hno, hl, q⟩ := hh
    obtain rfl : u = Value.ref a1 := rv
    obtain ⟨od, mA, J, hns, hr, ho, hlk⟩ := inst_exv I1 h1 h2 h3 h4 h5
    obtain ⟨u, hu, ru⟩ := RelO.some_of (v := v1) (o := mA f) (by rw [← hl]; exact hr f)
    exact HandSPX.exc_get I1.kIn J XC.ga XC.gg XC.sb (PySem.W.findObj_own XC.hd hno rfl (by rw [hlk, hu])) (handed_of ru) ⟨v1, H1, I1.tok _, ru, q⟩
end
end Pv

/-! QE: a lambda without parameters handed to a def that calls it within a try. -/
namespace Pv
open PySem PySem.Spec PyProof.Rows L2 LamX

section
variable {X : Cx} {pins : List (Addr × Obj)} {σ : L2.St} {H HZ : Hp} {s s1 : Shared}
/-- x(), in the def that got the lambda (pe_act with the guards told) -/
theorem pe_actG {P : Program} {w : World} {Eg : XK} {Ng : List Str} {qg : Str} {sg : Scope} {g f c' : Addr} {cdg pm ctv : Value} {params : Arguments} {body : Expr} {scope : Scope} {k i : Nat} {a : Str} {pn : List (Addr × Obj)} {xe : Value → Shared → Prop} {W : WX} {E : XK} {tb : TE} {p1 p2 : Pos}
    (I : L2.Inv X pins σ H s) (L : LamS X.env.scope scope) (hf : s.heap.get? f = some (PySem.W.kla_obj "<lambda>" (X.env.qual ++ "<lambda>") params body scope (cloFrom X.env.cells scope.names []) pm c' ctv)) (hfn : H f = none) (hfr : f ∉ frs X.stack)
    (hbind : bindArgs (PySem.W.kla_fn "<lambda>" (X.env.qual ++ "<lambda>") params body scope (cloFrom X.env.cells scope.names []) pm (.ref c') ctv) ⟨[], []⟩ = pure []) (hgu : X.A.guards = some [])
    (tk : Takes ((cxOf (L2.CX X.prog X.w) X.prog X.w X.K X.mg X.base Ng qg sg g cdg X.A X.stack s H Eg).tr pn xe) W) (hW : ∀ cls d σ' H', E cls d H' → W cls d σ' H') (hr : Room (k + 1) (X.A.deeper (envOfC qg sg s.heap.objs.size g cdg)))
    (hbody : ∀ (A : Around) (outer : List Env) (s : Shared) (H : Hp), Room k (A.deeper (lamEnv X scope s.heap.objs.size f c')) → (A.deeper (lamEnv X scope s.heap.objs.size f c')).guards = some [] → PE (lamCx X A outer s H E scope f c') body tb)
    (hN : Ng[i]? = some a) (hv : Vis sg a) (hd : (a == ("__debug__" : Str)) = false := by decide) (hcd : (a == ("__classdict__" : Str)) = false := by decide) :
    PE ((cxOf (L2.CX X.prog X.w) X.prog X.w X.K X.mg X.base Ng qg sg g cdg X.A X.stack s H Eg).tr pn xe) (.Call (.Name a p1) [] [] p2) (fun σZ HZ Q => σZ[i]? = some (some (.ref f)) ∧ HZ c' = some (CodeO c' (X.env.qual ++ "<lambda>")) ∧ tb σ HZ Q) := by
  refine ⟨fun pinsZ sZ σZ HZ Q IZ ⟨hs, hc, ht⟩ => ?_⟩
  refine wpAny_Call_Name_kw (thn ((pe_var (pos := p1) (i := i) hN hv hd hcd).run pinsZ sZ σZ HZ (fun v H1 => v = .ref f ∧ H1 = HZ) IZ ⟨.ref f, hs, rfl, rfl⟩) fun u s1 ⟨v, H1, I1, r1, ev, eH⟩ => ?_)
  subst ev eH
  obtain rfl : u = Value.ref f := r1
  have of1 : s1.heap.get? f = some (PySem.W.kla_obj "<lambda>" (X.env.qual ++ "<lambda>") params body scope (cloFrom X.env.cells scope.names []) pm c' ctv) := I1.base.keep f _ hf hfn hfr (fun z => nomatch (show f ∈ ([] : List Addr) from z))
  have un : Un (frs X.stack) [] H H1 s.heap s1.heap := I1.base
  obtain ⟨⟨oc, vs, t, hoc, hdc, hvc⟩, _, _⟩ := I1.hok c' _ hc
  have run : codeAny (model X.prog X.w) (X.A.deeper (envOfC qg sg s.heap.objs.size g cdg)) (.call (.ref f) ⟨[], []⟩) (CR (L2.CX X.prog X.w) (envOfC qg sg s.heap.objs.size g cdg :: X.stack) X.prog X.w H1 s1 Q E) s1 := by
    refine PySem.W.kla_callFunE hr.depth of1 rfl L.co L.gen rfl ⟨c', oc, vs, t, rfl, hoc, hdc, hvc⟩ ?_
    rw [hbind]
    refine wpAny_pure (wpAny_newFunctionEnv (fun y hy => (L.own y hy).2) (fun y hy => absurd hy (by simp)) (fun h₁ hns hsb => ⟨I1.nolimit.fresh _ hsb, PySem.W.kla_codeExpr ?_⟩) L.kind)
    have J := lam_start2 (E := E) (f := f) (c' := c') (tk := s1.toks + ([] : List (Str × Value)).length) I L I1.env0 hr.hd un hns fun b o e => hsb.extBut b o (Nat.ne_of_lt (Heap.lt_size e)) (Heap.get?_push_of_some _ e)
    exact wpAny_mono ((hbody _ _ s1 H1 (hr.deeper _) hgu).run [] _ _ H1 Q J ht) (fun v s' ⟨w', H', J', rv, q⟩ => ⟨w', H', J'.os, J'.bare, J'.base, J'.hok, rv, q⟩) fun e s' hq => hq
  refine PySem.W.callWith_F0 ⟨_, _, _, _, of1⟩ (wpAny_call (codeAny_mono run fun r s' hq => ?_))
  cases r with
  | error e => exact passes_call tk hW pinsZ σZ H1 s1 e s' I1 hq
  | ok fl =>
    cases fl with
    | ret u => exact I1.after hq
    | _ => exact False.elim hq
end

/-- what the lambda's call gives, in the def that got it -/
def rdAct [Fed] (C : Cn) (F0 : Hp) (μ0 : List Addr) (f c' : Addr) (q : Str) (E : XK) (th : AH → Res Sl) : TE := fun σZ HZ Q => σZ[0]? = some (some (.ref f)) ∧ HZ c' = some (CodeO c' q) ∧ ∃ F U μ h, Lk C.K F U μ HZ h ∧ Same F0 F ∧ μ0 <+: μ ∧ Out C F U μ E (rSl C.K) Q (th h)
abbrev Gm := (AH → Res Sl) → AH → Res Sl
/-- the promise of a def that calls what it gets: its one parameter a -/
structure FnT [Fed] (P : Program) (w : World) (K : PySem.W.Frag) (mg : Str → Option Value) (base : Heap) (C : Cn) (k : Nat) (g : Addr) (N : List Str) (x : Str) (scope : Scope) (a : Str) (gm : Gm) : Prop where
  run : ∀ (A : Around) (outer : List Env) (s : Shared) (H : Hp) (f c' : Addr) (q : Str) (Q : VK) (E : XK) (F U : Hp) (μ : List Addr) (h : AH) (th : AH → Res Sl), Room k A → A.guards = some [] → Env0 P w K mg base A outer s H → Lk C.K F U μ H h → H c' = some (CodeO c' q) →
    (∀ (cdg : Value) (E1 : XK) (W : WX) (pn : List (Addr × Obj)) (xe : Value → Shared → Prop) (p1 p2 : Pos), Takes ((cxOf (CX P w) P w K mg base N x scope g cdg A outer s H E).tr pn xe) W → (∀ cls d σ' H', E1 cls d H' → W cls d σ' H') →
      PE ((cxOf (CX P w) P w K mg base N x scope g cdg A outer s H E).tr pn xe) (.Call (.Name a p1) [] [] p2) (rdAct C F μ f c' q E1 th)) →
    Out C F U μ E (rSl C.K) Q (gm th h) → codeAny (model P w) A (.call (.ref g) ⟨[.ref f], []⟩) (CR (CX P w) outer P w H s Q E) s
/-- try: return (tag, a()) / except c as e: suite -/
def mThk (c : Bool) (n i : Nat) (tag : Str) (bs : List Bool) (ts : Sx) : Gm := fun th h => match th h with
  | .ok x h1 => (match x with
    | .dat d => retO c (.dat (.tuple [.str tag, d])) h h1
    | _ => .no)
  | .exc e fs h1 => (match nthA bs e with
    | some b => (match b with
      | true => (match ts ((nones n).set i (some (.exv e fs))) h1 with
        | .ok fl h2 => (match fl with
          | .rt x => retO c x h h2
          | .nx _ => nxO c h h2
          | _ => .no)
        | _ => .no)
      | false => .exc e fs h1)
    | none => .no)
  | .no => .no
/-- which classes of errors an except clause takes -/
structure TabE [Fed] (K : PySem.W.Frag) (cv : Value) (bs : List Bool) : Prop where
  at_ : ∀ c b, nthA bs c = some b → PySem.W.exmOne K (.ref (Fed.xc K c)) cv = some b
theorem nones_len : ∀ n : Nat, (nones n).length = n
  | 0 => rfl
  | n + 1 => congrArg Nat.succ (nones_len n)
theorem nones_get : ∀ (n j : Nat) (x : Sl), (nones n)[j]? ≠ some (some x)
  | 0, j, x => by simp [nones]
  | n + 1, 0, x => by simp [nones]
  | n + 1, j + 1, x => by simpa [nones] using nones_get n j x
theorem Lk.cutO [Fed] {K : PySem.W.Frag} {F U F1 U1 H H1 : Hp} {μ μ1 : List Addr} {h h1 : AH} (c : Bool) (l : Lk K F U μ H h) (p : μ <+: μ1) (l1 : Lk K F1 U1 μ1 H1 h1) : ∃ μ2, μ <+: μ2 ∧ μ2 <+: μ1 ∧ Lk K F1 U1 μ2 H1 (cutH c h h1) := by
  cases c with
  | false => exact ⟨μ1, p, List.prefix_refl _, l1⟩
  | true =>
    refine ⟨μ1.take h.length, ?_, List.take_prefix _ _, l1.cut _⟩
    obtain ⟨t, rfl⟩ := p
    rw [← l.len, List.take_append_of_le_length (Nat.le_refl _), List.take_length]
    exact List.prefix_refl _
section
variable {P : Program} {w : World} {K : PySem.W.Frag} {mg : Str → Option Value} {base : Heap} {C : Cn} {x a : Str} {params : Arguments} {body suite : List Stmt} {b₀ : Stmt} {scope : Scope} {g CS : Addr} {fd : FuncData} {N : List Str} {k i : Nat}
theorem fnt_of [Fed] {kws : List (Str × V)} {tag : Str} {bs : List Bool} {ts : Sx} {xc n : Str} {j : Nat} {x1 : Nat} {p1 p2 p3 p4 p5 np pos' pos : Pos} (c : Bool) (F : FunD K x x params body scope [] kws g fd) (S : FnScope N [a] scope) (hK : C.K = K)
    (hb : body = [.Try [.Return (some (.Tuple [.Constant (.str tag) j p1, .Call (.Name a p2) [] [] p3] x1 p4)) p5] [.ExceptHandler (some (.Name xc np)) (some n) (b₀ :: suite) pos'] [] [] pos])
    (hbind : ∀ (s : Shared) (v : Value), BindsTo s fd ⟨[v], []⟩ [(a, v)]) (hi : N[i]? = some n) (hln : scope.names.lookup n = some .local) (hxc : scope.names.lookup xc = some .globalImplicit) (hdx : (xc == ("__debug__" : Str)) = false) (hmx : mg xc = some (.ref CS)) (T : TabE C.K (.ref CS) bs) (h0 : ∃ r, N = a :: r) (hi0 : i < N.length)
    (hsu : ∀ (cdv : Value) (A : Around) (outer : List Env) (s : Shared) (H : Hp) (E : XK), Room k (A.deeper (envOfC x scope s.heap.objs.size g cdv)) → (A.deeper (envOfC x scope s.heap.objs.size g cdv)).guards = some [] → ∀ (b : Addr) (pn : List (Addr × Obj)),
      SB C (fun _ _ _ => False) ((cxOf (CX P w) P w K mg base N x scope g cdv A outer s H E).suite b pn) (b₀ :: suite) ts) :
    FnT P w K mg base C (k + 1) g N x scope a (mThk c N.length i tag bs ts) := by
  obtain ⟨oc, od, dV, kV, doc, pm, an, cdv, ct, osl, rfl, lk, hcd, _, _⟩ := F.ex
  refine ⟨fun A outer s H f c' q Q E F0 U0 μ h th hr hg e0 l hco act o => ?_⟩
  refine run_ofS (CX := CX P w) (N := N) (ps := [a]) (us := [.ref f]) (vs := [.ref f]) lk hcd S hr e0 (hbind s (.ref f)) (.cons rfl .nil) rfl fun hr' => ?_
  have hgl : Names (cxOf (CX P w) P w K mg base N x scope g cdv A outer s H E) xc (.ref CS) := ⟨hxc, hdx, .inl hmx⟩
  have hs0 : (L2.start N [V.ref f])[0]? = some (some (V.ref f)) := rfl
  rw [hb]
  refine ⟨_, pss_one (ps_try_exv (X := cxOf (CX P w) P w K mg base N x scope g cdv A outer s H E) (i := i) (tb := fun W D σ H => ∃ Ech : XK, (∀ cls d σ' H', Ech cls d H' → W cls d σ' H') ∧ tTup (tCons (tC (.str tag)) (tCons (rdAct C F0 μ f c' q Ech th) tNil)) σ H D.rt)
    rfl rfl rfl S.nd hi hln hgl takes_fn (fun W pn xe tk _ => ⟨fun pins s' σ H' D I h' => ?_⟩) (fun b pn => (hsu cdv A outer s H E hr' hg b pn).pss)), ?_⟩
  · obtain ⟨Ech, hW, h3⟩ := h'
    exact (pss_one (ps_ret (pos := p5) (pe_tup (pa_cons pe_str (pa_cons (act cdv Ech W pn xe p2 p3 tk hW) pa_nil))))).run pins s' σ H' D I h3
  · refine ⟨fun cls d H' => ∀ σ, wExv K N.length (.ref CS) i (rdS C (fun _ _ _ => False) ts) (fun cls d _ H => E cls d H) { nx := fun _ H' => Q .non H', rt := Q } cls d σ H', fun cls d σ' H' z => z σ', ?_⟩
    refine ⟨hs0, hco, F0, U0, μ, h, l, Same.refl _, List.prefix_refl _, ?_⟩
    unfold mThk at o
    cases q1 : th h with
    | no => rw [q1] at o; exact o.elim
    | ok y h1 =>
      rw [q1] at o
      cases y with
      | dat d =>
        intro v F1 U1 μ1 H1 g1 pp l1 r1
        refine ⟨by rw [sizeLine_eq]; show 2 ≤ _; decide, fun p hp => ?_⟩
        have o : Out C F0 U0 μ E (rSl C.K) Q (retO c (.dat (.tuple [.str tag, d])) h h1) := o
        have e : retO c (.dat (.tuple [.str tag, d])) h h1 = .ok (.dat (.tuple [.str tag, d])) (cutH c h h1) := by cases c <;> rfl
        rw [e] at o
        obtain ⟨μ2, m1, m2, l2⟩ := Lk.cutO c l pp l1
        exact Out.newT (o.mono g1 m1) l2 (.cons (.str tag) (.cons (show RD C.K F1 v d from r1) .nil)) hp
      | _ => exact o.elim
    | exc e fs h1 =>
      rw [q1] at o
      intro cls d F1 U1 μ1 H1 g1 pp l1 er σ hσ
      obtain ⟨ecl, dd, vs, ed, hdd, rvs, hlen⟩ := er
      cases hb1 : nthA bs e with
      | none => simp only [hb1] at o; exact o.elim
      | some b =>
        have hex := T.at_ e b hb1
        rw [hK] at hex
        refine ⟨b, by rw [ecl, hK]; exact hex, fun hbt a1 oe us hna hc1 hd1 hf1 => ?_, fun hbf => ?_⟩
        · subst hbt
          simp only [hb1] at o
          obtain ⟨g2, l2⟩ := l1.new (o := .frz oe (exU a1)) hna
          have hev : EvR C.K (upd F1 a1 (.frz oe (exU a1))) μ1 (σ.set i (some (.ref a1))) ((nones N.length).set i (some (.exv e fs))) := by
            refine ⟨by rw [List.length_set, List.length_set, nones_len, hσ], fun jj y hy => ?_⟩
            by_cases hj : jj = i
            · subst hj
              rw [List.getElem?_set_self (by rw [nones_len]; exact hi0)] at hy
              cases hy
              exact ⟨.ref a1, List.getElem?_set_self (by rw [hσ]; exact hi0), a1, dd, oe, us, vs, rfl, upd_same, by rw [hc1, ecl], by rw [hd1, ed], hf1, g2.f _ _ hdd, rvs.mono g2.f, hlen⟩
            · rw [List.getElem?_set_ne (Ne.symm hj)] at hy
              exact absurd hy (nones_get _ _ _)
          refine ⟨_, _, μ1, _, h1, l2, hev, ?_⟩
          cases q2 : ts ((nones N.length).set i (some (.exv e fs))) h1 with
          | no => rw [q2] at o; exact o.elim
          | exc _ _ _ => rw [q2] at o; exact o.elim
          | ok fl h2 =>
            rw [q2] at o
            intro fb F3 U3 μ3 H3 g3 pp3 l3 r3
            obtain ⟨μ4, m1, m2, l4⟩ := Lk.cutO c l (pp.trans pp3) l3
            cases fl with
            | rt y =>
              cases fb with
              | rt v =>
                have r3 : SlR C.K F3 μ3 v y := r3
                have o : Out C F0 U0 μ E (rSl C.K) Q (retO c y h h2) := o
                show Q v H3
                cases c with
                | false => exact o v F3 U3 μ3 H3 ((g1.trans g2).trans g3) (pp.trans pp3) l3 r3
                | true =>
                  cases y with
                  | obj kk =>
                    obtain ⟨aa, haa, rfl⟩ := r3
                    exact o _ F3 U3 _ H3 ((g1.trans g2).trans g3) (pp.trans pp3) l3 ⟨aa, haa, rfl⟩
                  | dat _ => exact o v F3 U3 μ4 H3 ((g1.trans g2).trans g3) m1 l4 r3
                  | scr _ => exact o v F3 U3 μ4 H3 ((g1.trans g2).trans g3) m1 l4 r3
                  | rep _ => exact o v F3 U3 μ4 H3 ((g1.trans g2).trans g3) m1 l4 r3
                  | exv _ _ => exact o v F3 U3 μ4 H3 ((g1.trans g2).trans g3) m1 l4 r3
                  | fnv _ => exact o v F3 U3 μ4 H3 ((g1.trans g2).trans g3) m1 l4 r3
                  | tpn _ => exact o v F3 U3 μ4 H3 ((g1.trans g2).trans g3) m1 l4 r3
                  | dcn _ => exact o v F3 U3 μ4 H3 ((g1.trans g2).trans g3) m1 l4 r3
                  | unk => exact o v F3 U3 μ4 H3 ((g1.trans g2).trans g3) m1 l4 r3
                  | anyI _ => exact o v F3 U3 μ4 H3 ((g1.trans g2).trans g3) m1 l4 r3
              | _ => exact r3.elim
            | nx env' =>
              cases fb with
              | nx σ' =>
                have o : Out C F0 U0 μ E (rSl C.K) Q (nxO c h h2) := o
                rw [nxO_eq] at o
                exact o .non F3 U3 μ4 H3 ((g1.trans g2).trans g3) m1 l4 RD.non
              | _ => exact r3.elim
            | bk _ => exact o.elim
            | ct _ => exact o.elim
        · subst hbf
          simp only [hb1] at o
          exact o cls d F1 U1 μ1 H1 g1 pp l1 ⟨ecl, dd, vs, ed, hdd, rvs, hlen⟩
end
/-- x(lambda: body) -/
def cLam (gm : Gm) (te : Ex) : Ex := fun env h => gm (fun h' => te env h') h
theorem Lk.tabs [Fed] {K : PySem.W.Frag} {F U H H1 : Hp} {μ : List Addr} {h : AH} (l : Lk K F U μ H h) (e : ExtN H H1) (t : Tabs (Fed.tb K) H1) : Lk K F U μ H1 h := by
  refine ⟨l.fu, fun b o q => e b o (l.uh _ _ q) fun ps z => l.ntb b ps (by rw [q, z]), l.nod, l.len, fun a ha => ?_, fun k a o h1 h2 => ?_, t, l.ntb⟩
  · obtain ⟨o, q, n⟩ := l.trk a ha
    exact ⟨o, e _ _ q n.tbl, n⟩
  · have r := l.obj k a o h1 h2
    cases o with
    | lst ds => obtain ⟨z, vs, q, rr⟩ := r; exact ⟨z, vs, e _ _ q (fun _ z => (nomatch z)), rr⟩
    | dct kvs => obtain ⟨z, vs, q, rr⟩ := r; exact ⟨z, vs, e _ _ q (fun _ z => (nomatch z)), rr⟩
    | frz d => exact r
    | fed os qs => obtain ⟨z, vs, kvs, q, rr⟩ := r; exact ⟨z, vs, kvs, e _ _ q (fun _ z => (nomatch z)), rr⟩
    | dead => trivial
    | ins c fs => obtain ⟨z, dx, vs, q, qo, rr⟩ := r; exact ⟨z, dx, vs, e _ _ q (fun _ z => (nomatch z)), e _ _ qo (fun _ z => (nomatch z)), rr⟩
/-- what is known of a def that makes lambdas: its code object, its table -/
structure LamT [Fed] (K : PySem.W.Frag) (mg : Str → Option Value) (base : Heap) (c P : Addr) (q : Str) : Prop where
  tb : TabB base mg c P
  mem : (P, q) ∈ Fed.tb K
  one : ∀ p ∈ Fed.tb K, p.1 = P → p.2 = q
section
variable {C : Cn} {Wx : XK} {X : Cx} {x a : Str} {g c PT : Addr} {k : Nat} {sg : Scope} {Ng : List Str} {params : Arguments} {body : Expr} {scope : Scope} {te : Ex} {gm : Gm} {p lpos pos : Pos}
theorem se_lam [Fed] (Ft : FnT X.prog X.w X.K X.mg X.base C (k + 2) g Ng x sg a gm) (hK : C.K = X.K) (hr : Room (k + 2) X.A) (hg : X.A.guards = some []) (hx : Passes (CX X.prog X.w) X Wx) (hgl : Gl X x) (hm : X.mg x = some (.ref g)) (hk : PySem.W.keepIn X.K (.ref g) = true) (hNg : Ng[0]? = some a) (hva : Vis sg a)
    (T : LamT X.K X.mg X.base c PT (X.env.qual ++ "<lambda>")) (hcode : X.env.code = .ref c) (L : LamS X.env.scope scope)
    (hbody : ∀ (A : Around) (outer : List Env) (s : Shared) (H : Hp) (E : XK) (f c' : Addr), Room k (A.deeper (lamEnv X scope s.heap.objs.size f c')) → (A.deeper (lamEnv X scope s.heap.objs.size f c')).guards = some [] → SE C E (lamCx X A outer s H E scope f c') body te)
    (hdef : defaultsOf params X.env = ([], []) := by rfl) (hbind : ∀ (q : Str) (cl : List (Str × Addr)) (pm cv ctv : Value), bindArgs (PySem.W.kla_fn "<lambda>" q params body scope cl pm cv ctv) ⟨[], []⟩ = pure [] := by exact fun _ _ _ _ _ => rfl)
    (hdb : (x == ("__debug__" : Str)) = false := by decide) (hd : (a == ("__debug__" : Str)) = false := by decide) (hcd : (a == ("__classdict__" : Str)) = false := by decide) :
    SE C Wx X (.Call (.Name x p) [.Lambda params body scope lpos] [] pos) (cLam gm te) := by
  refine ⟨⟨fun pins s σ H Q I q => ?_⟩⟩
  obtain ⟨F, U, μ, env, h, l, ev, o⟩ := q
  have ltab : Tabs (Fed.tb X.K) H := by rw [← hK]; exact l.tab
  refine wpAny_Call_Name_kw (ld_glob I hgl hm ?_ hdb)
  refine PySem.W.callWith_K (h₀ := X.base) I.ok.mod.kin hk ?_ (by rfl) (by rfl)
  show wpAny _ _ (spliced ((false, eval (.Lambda params body scope lpos) X.env) :: backTo pos (starEach [] X.env))) _ _ s
  refine Calls.spliced_cons (lam_make2 I T.tb hcode T.mem T.one ltab hdef (L.has I.ok) fun f c' pm' ctv H1 s' I1 eN T1 hf hfn hfr hco => ?_)
  refine Calls.spliced_nil ⟨I1.kIn, ?_⟩
  have l1 : Lk C.K F U μ H1 h := l.tabs eN (by rw [hK]; exact T1)
  refine wpAny_call (codeAny_mono (Ft.run X.A X.stack s' H1 f c' _ Q Wx F U μ h (fun h' => te env h') hr hg I1.env0 l1 hco (fun cdg E1 W pn xe p1 p2 tk hW => ?_) o) fun r s2 hq => ?_)
  · refine pe_imp (pe_actG (P := X.prog) (w := X.w) (k := k) (E := E1) (tb := rdE C E1 te) I1 L hf hfn hfr (hbind _ _ _ _ _) hg tk hW (hr.deeper _) (fun A outer s H hr2 hg2 => (hbody A outer s H E1 f c' hr2 hg2).pe) hNg hva hd hcd) fun σZ HZ Q' z => ?_
    obtain ⟨e1, e2, F', U', μ', h', l', sf, pm, o'⟩ := z
    exact ⟨e1, e2, F', U', μ', env, h', l', ev.mono sf pm, o'⟩
  · cases r with
    | error e => exact hx pins σ H1 s' e s2 I1 hq
    | ok fl =>
      cases fl with
      | ret u => exact I1.after hq
      | _ => exact False.elim hq
end
section
variable {P : Program} {w : World} {K : PySem.W.Frag} {mg : Str → Option Value} {base : Heap} {C : Cn}
/-- FnV.of, its code object told -/
theorem FnV.ofC [Fed] {x qual : Str} {params : Arguments} {body : List Stmt} {scope : Scope} {dvs : List V} {kws : List (Str × V)} {f : Addr} {fd : FuncData} {N ps : List Str} {k : Nat} {t : Sx} {c : Bool} {at_ : Str × Option Str} (F : FunD K x qual params body scope dvs kws f fd) (hat : He.fAd K at_ = f) (S : FnScope N ps scope)
    (hbody : ∀ (cdv : Value) (A : Around) (outer : List Env) (s : Shared) (H : Hp) (E : XK), cdv = .ref (He.codeOf K at_) → Room k (A.deeper (envOfC qual scope s.heap.objs.size f cdv)) → (A.deeper (envOfC qual scope s.heap.objs.size f cdv)).guards = some [] →
      SB C E (cxOf (CX P w) P w K mg base N qual scope f cdv A outer s H E) body t) : FnV P w K mg base C (k + 1) f fd ps (mFn c (N.length - ps.length) t) := by
  refine FnV.of' (Pc := fun cdv => cdv = .ref (He.codeOf K at_)) F S (fun oc od fx osl lk hcd => ?_) hbody
  obtain ⟨c, e⟩ := He.codeIn_ref hcd
  subst hat
  rw [e, He.codeOf_eq lk e]
end
end Pv

/-! QF: the head's facts of classes of errors and of tables. -/
namespace Pv
open PySem PySem.Spec PyProof.Rows L2

theorem FnT.mono [Fed] {P : Program} {w : World} {K : PySem.W.Frag} {mg : Str → Option Value} {base : Heap} {C : Cn} {j k : Nat} {g : Addr} {N : List Str} {x : Str} {scope : Scope} {a : Str} {gm : Gm} (t : FnT P w K mg base C j g N x scope a gm) (h : j ≤ k) : FnT P w K mg base C k g N x scope a gm :=
  ⟨fun A outer s H f c' q Q E F U μ hh th hr => t.run A outer s H f c' q Q E F U μ hh th (hr.mono h)⟩
theorem passes_lam [Fed] {X : Cx} {A : Around} {outer : List Env} {s : Shared} {H : Hp} {E : XK} {scope : Scope} {f c' : Addr} : Passes (CX (LamX.lamCx X A outer s H E scope f c').prog (LamX.lamCx X A outer s H E scope f c').w) (LamX.lamCx X A outer s H E scope f c') E :=
  passes_call (W := fun cls d _ H => E cls d H) (takes_of rfl rfl rfl rfl) fun _ _ _ _ h => h

theorem ruS1 {k : Nat} {A : Around} {b : Option Value} (r : Room k A) : (A.mark b).units + 1 < cLine := by have := r.un; show A.units + 1 < _; omega
theorem ruS64 {k : Nat} {A : Around} {b : Option Value} (r : Room k A) : (A.mark b).units + 64 < cLine := by have := r.un; show A.units + 64 < _; omega
theorem ruS65 {k : Nat} {A : Around} {b : Option Value} (r : Room k A) : (A.mark b).units + 65 < cLine := by have := r.un; show A.units + 65 < _; omega
theorem ruS66 {k : Nat} {A : Around} {b : Option Value} (r : Room k A) : (A.mark b).units + 66 < cLine := by have := r.un; show A.units + 66 < _; omega
/-! ### a class with its own __init__ -/
def oexB (K : PySem.W.Frag) (C : Addr) : Bool := (match K.lookup C with
  | some ⟨ty, _, .cls cd, sl⟩ => (ty == .type "type") && (match cd.mro, sl.toList with
    | .ref C' :: bm, [_, _, _, _, some (.builtin n), _] => decide (C' = C) && (decide (n = "ValueError.__new__") && (!cd.hasDel && (cd.hasDict && HandSPX.refsVE bm)))
    | _, _ => false)
  | _ => false) && (He.eqO (PySem.W.findIn K (.ref C) "__setattr__") (some (some (.builtin "object.__setattr__"))) && (decide (PySem.W.subIn K (.ref C) (.type "BaseException") = some true) && (decide (PySem.W.typeIn K (.ref C) = some (.type "type")) && PySem.W.keepIn K (.ref C))))
theorem oexB_ok {K : PySem.W.Frag} {C : Addr} (h : oexB K C = true) : OexC K C := by
  unfold oexB at h
  simp only [Bool.and_eq_true] at h
  obtain ⟨h1, h2, h3, h4, h5⟩ := h
  refine ⟨?_, He.eqO_ok h2, of_decide_eq_true h3, of_decide_eq_true h4, h5⟩
  split at h1
  · rename_i ty dd cd sl ho
    obtain ⟨ht, h1⟩ := Bool.and_eq_true_iff.mp h1
    have ht := beq_iff_eq.mp ht
    subst ht
    split at h1
    · rename_i C' bm k0 k1 k2 k3 n k5 hm hs
      simp only [Bool.and_eq_true, decide_eq_true_eq, Bool.not_eq_true'] at h1
      obtain ⟨_, rfl, rfl, hdel, hdict, hve⟩ := h1
      have e6 : sl = #[k0, k1, k2, k3, some (.builtin "ValueError.__new__"), k5] := by
        cases sl
        simpa using hs
      cases cd
      simp only at hm hdel hdict
      subst hm
      subst hdel
      subst hdict
      subst e6
      exact ⟨_, _, _, _, bm, _, _, _, _, dd, k0, k1, k2, k3, k5, ho, hve⟩
    · cases h1
  · cases h1
abbrev IniV : Type := Option (Str × Str × Arguments × FuncBody × Scope × Addr × List Str × Value × Addr)
def iniW (K : PySem.W.Frag) (a : Addr) : IniV := match K.lookup a with
  | some ⟨_, _, .func fd, _⟩ => some (fd.name, fd.qualname, fd.params, fd.body, fd.scope, fd.globals, fd.closure.map (·.1), fd.defaults, fd.builtins)
  | _ => none
structure IniD where
  name : Str
  qual : Str
  params : Arguments
  body : List Stmt
  scope : Scope
  fs : List Str
  prop : Option Str := none
/-- the getter of a property -/
def getAd (K : PySem.W.Frag) (C : Addr) (f : Str) : Addr := match PySem.W.recIn K (He.ma K C f) "property" with
  | some (.ref g :: _) => g
  | _ => 0
def IniD.adr (K : PySem.W.Frag) (d : IniD) : Addr := match d.prop with
  | none => He.ma K (He.ga K d.name) "__init__"
  | some f => getAd K (He.ga K d.name) f
def IniD.val (d : IniD) : IniV := match d.prop with
  | none => some ("__init__", d.qual, d.params, .stmts d.body, d.scope, mainGlobals, [("__class__" : Str)], .none, builtinsNs)
  | some f => some (f, d.qual, d.params, .stmts d.body, d.scope, mainGlobals, [], .none, builtinsNs)
/-- the property f of the class x, its getter's qualified name -/
def propB (K : PySem.W.Frag) (x f qual : Str) : Bool := He.eqO (PySem.W.findIn K (.ref (He.ga K x)) f) (some (some (.ref (He.ma K (He.ga K x) f)))) && (He.eqO (PySem.W.specialIn K (.ref (He.ma K (He.ga K x) f)) "__get__") (some (some (.builtin "property.__get__"))) &&
  (decide (PySem.W.takesIn K (.ref (He.ma K (He.ga K x) f)) = some true) && ((match PySem.W.recIn K (He.ma K (He.ga K x) f) "property" with
    | some (.ref _ :: _) => true
    | _ => false) && (PySem.W.keepIn K (.ref (getAd K (He.ga K x) f)) && (match K.lookup (getAd K (He.ga K x) f) with
    | some ⟨_, _, .func fd, _⟩ => PySem.W.codeIn K fd.code qual
    | _ => false)))))
theorem propB_ok {K : PySem.W.Frag} {d : IniD} {f : Str} (hp : d.prop = some f) (e : iniW K (d.adr K) = d.val) (h : propB K d.name f d.qual = true) : PropOf K (He.ga K d.name) f (He.ma K (He.ga K d.name) f) (getAd K (He.ga K d.name) f) ∧
    ∃ fd, FunD K f d.qual d.params d.body d.scope [] [] (getAd K (He.ga K d.name) f) fd := by
  unfold propB at h
  obtain ⟨h1, h⟩ := Bool.and_eq_true_iff.mp h
  obtain ⟨h2, h⟩ := Bool.and_eq_true_iff.mp h
  obtain ⟨h3, h⟩ := Bool.and_eq_true_iff.mp h
  obtain ⟨h4, h⟩ := Bool.and_eq_true_iff.mp h
  obtain ⟨h5, h6⟩ := Bool.and_eq_true_iff.mp h
  refine ⟨⟨He.eqO_ok h1, He.eqO_ok h2, of_decide_eq_true h3, ?_⟩, ?_⟩
  · split at h4
    · rename_i g rest hg
      exact ⟨rest, by rw [hg]; unfold getAd; rw [hg]⟩
    · cases h4
  · unfold IniD.adr IniD.val at e
    rw [hp] at e
    dsimp only at e
    unfold iniW at e
    split at h6
    · rename_i oc od fd osl hlk
      rw [hlk] at e
      obtain ⟨n1, n2, n3, n4, n5, n6, n7, n8, n9, n10, n11, n12, n13, n14, n15⟩ := fd
      have e2 : (some (n1, n2, n3, n4, n5, n6, n7.map (·.1), n8, n15) : IniV) = some (f, d.qual, d.params, FuncBody.stmts d.body, d.scope, mainGlobals, [], Value.none, builtinsNs) := e
      simp only [Option.some.injEq, Prod.mk.injEq] at e2
      obtain ⟨z1, z2, z3, z4, z5, z6, z7, z8, z9⟩ := e2
      have z7 : n7 = [] := by cases n7 <;> simp_all
      subst z1 z2 z3 z4 z5 z6 z7 z8 z9
      exact ⟨_, ⟨oc, od, .none, n9, n10, n11, n12, n13, n14, osl, rfl, hlk, h6, .inl ⟨rfl, rfl⟩, .inl rfl⟩, h5⟩
    · cases h6
def iniB (K : PySem.W.Frag) (file : Str) (d : IniD) : Bool := oexB K (He.ga K d.name) && (He.eqO (PySem.W.findIn K (.ref (He.ga K d.name)) "__init__") (some (some (.ref (He.ma K (He.ga K d.name) "__init__")))) && (decide (PySem.W.typeIn K (.ref (He.ma K (He.ga K d.name) "__init__")) = some (.type "function")) &&
  (He.eqO (PySem.W.nsIn K cStatics "thirdparty.any") (some none) && (He.eqO (PySem.W.ks_superIn K (He.ga K d.name) (He.ga K d.name) "__init__") (some (some (.builtin "ValueError.__init__"))) && (decide (PySem.W.subIn K (.ref (He.ga K d.name)) (.type "ValueError") = some true) &&
  (decide (PySem.W.mroIn K (He.ga K d.name) (.ref (He.ga K d.name)) = some true) && (d.fs.all (fun f => He.eqO (PySem.W.findIn K (.ref (He.ga K d.name)) f) (some none)) && (match K.lookup (He.ma K (He.ga K d.name) "__init__") with
    | some ⟨_, _, .func fd, _⟩ => PySem.W.codeIn K fd.code d.qual && ((match fd.code with
      | .ref cda => (match K.lookup cda with
        | some ⟨_, _, .fields vs, _⟩ => (match (vs[2]? : Option Value) with
          | some (.str y _) => decide (y = file)
          | _ => false)
        | _ => false)
      | _ => false) && (match fd.closure with
      | [(_, cc)] => (match K.lookup cc with
        | some ⟨_, _, .cell (some (.ref D)), _⟩ => decide (D = He.ga K d.name)
        | _ => false)
      | _ => false))
    | _ => false))))))))
theorem iniB_ok {K : PySem.W.Frag} {file : Str} {d : IniD} (e : iniW K (d.adr K) = d.val) (h : iniB K file d = true) (hp : d.prop = none := by rfl) : ∃ (cc cda : Addr) (fd : FuncData), SupC K file (He.ga K d.name) (He.ma K (He.ga K d.name) "__init__") cc cda d.qual d.params d.body d.scope fd ∧
    PySem.W.findIn K (.ref (He.ga K d.name)) "__init__" = some (some (.ref (He.ma K (He.ga K d.name) "__init__"))) ∧ PySem.W.typeIn K (.ref (He.ma K (He.ga K d.name) "__init__")) = some (.type "function") ∧ ∀ f ∈ d.fs, PySem.W.findIn K (.ref (He.ga K d.name)) f = some none := by
  unfold IniD.adr IniD.val at e
  rw [hp] at e
  dsimp only at e
  unfold iniB at h
  obtain ⟨h1, h⟩ := Bool.and_eq_true_iff.mp h
  obtain ⟨h2, h⟩ := Bool.and_eq_true_iff.mp h
  obtain ⟨h3, h⟩ := Bool.and_eq_true_iff.mp h
  obtain ⟨h4, h⟩ := Bool.and_eq_true_iff.mp h
  obtain ⟨h5, h⟩ := Bool.and_eq_true_iff.mp h
  obtain ⟨h6, h⟩ := Bool.and_eq_true_iff.mp h
  obtain ⟨h7, h⟩ := Bool.and_eq_true_iff.mp h
  obtain ⟨h8, h⟩ := Bool.and_eq_true_iff.mp h
  unfold iniW at e
  split at h
  · rename_i oc od fd osl hlk
    rw [hlk] at e
    obtain ⟨n1, n2, n3, n4, n5, n6, n7, n8, n9, n10, n11, n12, n13, n14, n15⟩ := fd
    have e2 : (some (n1, n2, n3, n4, n5, n6, n7.map (·.1), n8, n15) : IniV) = some (("__init__" : Str), d.qual, d.params, FuncBody.stmts d.body, d.scope, mainGlobals, [("__class__" : Str)], Value.none, builtinsNs) := e
    simp only [Option.some.injEq, Prod.mk.injEq] at e2
    obtain ⟨z1, z2, z3, z4, z5, z6, z7, z8, z9⟩ := e2
    subst z1 z2 z3 z4 z5 z6 z8 z9
    obtain ⟨hcode, h⟩ := Bool.and_eq_true_iff.mp h
    obtain ⟨hfile, hcell⟩ := Bool.and_eq_true_iff.mp h
    dsimp only at hfile hcell hcode
    split at hfile
    · rename_i cda _
      split at hfile
      · rename_i ccl cdd vs ccs hcd
        split at hfile
        · rename_i y tf hv
          have hy := of_decide_eq_true hfile
          subst hy
          split at hcell
          · rename_i nm cc _
            have hnm : nm = ("__class__" : Str) := by simpa using z7
            subst hnm
            split at hcell
            · rename_i cl cld D csl hce
              have hD := of_decide_eq_true hcell
              subst hD
              exact ⟨cc, cda, _, ⟨oexB_ok h1, ⟨oc, od, osl, n9, n10, n11, n12, n14, hlk, rfl⟩, hcode, ⟨ccl, cdd, vs, ccs, tf, hcd, hv⟩, ⟨cl, cld, csl, hce⟩, He.eqO_ok h4, He.eqO_ok h5, of_decide_eq_true h6, of_decide_eq_true h7⟩, He.eqO_ok h2, of_decide_eq_true h3,
                fun f hf => He.eqO_ok (List.all_eq_true.mp h8 f hf)⟩
            · cases hcell
          · cases hcell
        · cases hfile
      · cases hfile
    · cases hfile
  · cases h
/-! ### isinstance, except, fields -/
def isXB (K : PySem.W.Frag) (XN : List Str) (cv : Value) (tab : List Bool) : Bool := decide (tab.length = XN.length) && (XN.zip tab).all fun q => decide (PySem.W.kitOne K (.ref (He.ga K q.1)) cv = some q.2)
def exEB (K : PySem.W.Frag) (XN : List Str) (cv : Value) (tab : List Bool) : Bool := decide (tab.length = XN.length) && (XN.zip tab).all fun q => decide (PySem.W.exmOne K (.ref (He.ga K q.1)) cv = some q.2)
def fdFB (K : PySem.W.Frag) (XN : List Str) (XF : List (List Str)) (f : Str) (tab : List (Option Nat)) : Bool := decide (tab.length = XN.length) && (decide (XF.length = XN.length) && ((XN.zip (XF.zip tab)).all fun q => match q.2.2 with
  | some k => He.eqO (PySem.W.findIn K (.ref (He.ga K q.1)) f) (some none) && (decide (q.2.1[k]? = some f) && decide q.2.1.Nodup)
  | none => true))
def xcAll (K : PySem.W.Frag) (XN : List Str) : Bool := XN.all fun x => xcB K (He.ga K x)
section
variable {K : PySem.W.Frag} {XN : List Str} {XF : List (List Str)} {cv : Value} {tab : List Bool}
theorem zip_at {α β : Type} {xs : List α} {ys : List β} {c : Nat} {y : β} (hl : ys.length = xs.length) (h : ys[c]? = some y) : ∃ x, xs[c]? = some x ∧ (x, y) ∈ xs.zip ys := by
  obtain ⟨hc, e⟩ := List.getElem?_eq_some_iff.mp h
  refine ⟨xs[c]'(by omega), List.getElem?_eq_getElem _, List.mem_iff_getElem.mpr ⟨c, by rw [List.length_zip]; omega, ?_⟩⟩
  rw [List.getElem_zip, e]
theorem tabX_of [Fed] (hx : ∀ c x, XN[c]? = some x → Fed.xc K c = He.ga K x) (ha : xcAll K XN = true) (h : isXB K XN cv tab = true) : TabX K cv tab := by
  obtain ⟨h1, h2⟩ := Bool.and_eq_true_iff.mp h
  refine ⟨fun c b hb => ?_⟩
  rw [nthA_eq] at hb
  obtain ⟨x, hxc, hm⟩ := zip_at (of_decide_eq_true h1) hb
  rw [hx c x hxc]
  exact ⟨xcB_ok (List.all_eq_true.mp ha x (List.mem_of_getElem? hxc)), of_decide_eq_true (List.all_eq_true.mp h2 _ hm)⟩
theorem tabE_of [Fed] (hx : ∀ c x, XN[c]? = some x → Fed.xc K c = He.ga K x) (h : exEB K XN cv tab = true) : TabE K cv tab := by
  obtain ⟨h1, h2⟩ := Bool.and_eq_true_iff.mp h
  refine ⟨fun c b hb => ?_⟩
  rw [nthA_eq] at hb
  obtain ⟨x, hxc, hm⟩ := zip_at (of_decide_eq_true h1) hb
  rw [hx c x hxc]
  exact of_decide_eq_true (List.all_eq_true.mp h2 _ hm)
theorem tabF_of [Fed] {f : Str} {tf : List (Option Nat)} (hx : ∀ c x, XN[c]? = some x → Fed.xc K c = He.ga K x) (hf : ∀ c x, XF[c]? = some x → Fed.xf c = x) (ha : xcAll K XN = true) (h : fdFB K XN XF f tf = true) : TabF K f tf := by
  obtain ⟨h1, h⟩ := Bool.and_eq_true_iff.mp h
  obtain ⟨h2, h3⟩ := Bool.and_eq_true_iff.mp h
  have h1 := of_decide_eq_true h1
  have h2 := of_decide_eq_true h2
  refine ⟨fun c k hb => ?_⟩
  rw [nthA_eq] at hb
  obtain ⟨fs, hfs, hm1⟩ := zip_at (h1.trans h2.symm) hb
  obtain ⟨hc, _⟩ := List.getElem?_eq_some_iff.mp hb
  have hz : (XF.zip tf)[c]? = some (fs, some k) := by
    rw [List.getElem?_eq_some_iff]
    refine ⟨by rw [List.length_zip]; omega, ?_⟩
    obtain ⟨a1, a2⟩ := List.getElem?_eq_some_iff.mp hfs
    obtain ⟨b1, b2⟩ := List.getElem?_eq_some_iff.mp hb
    rw [List.getElem_zip, a2, b2]
  obtain ⟨x, hxc, hm⟩ := zip_at (xs := XN) (ys := XF.zip tf) (by rw [List.length_zip]; omega) hz
  have q := List.all_eq_true.mp h3 _ hm
  have q : (He.eqO (PySem.W.findIn K (.ref (He.ga K x)) f) (some none) && (decide (fs[k]? = some f) && decide fs.Nodup)) = true := q
  simp only [Bool.and_eq_true, decide_eq_true_eq] at q
  rw [hx c x hxc, hf c fs hfs]
  exact ⟨xcB_ok (List.all_eq_true.mp ha x (List.mem_of_getElem? hxc)), He.eqO_ok q.1, q.2.1, q.2.2⟩
end
/-! ### the Hook -/
structure SaysP (fa : List He.Fa) (fn : List He.DefD) (ic : List IniD) (tf : List He.Defn) (ex : PySem.W.Frag → Bool) (h : Heap) (K : PySem.W.Frag) : Prop where
  d : He.SaysD fa fn K
  ini : ic.map (fun d => iniW K (d.adr K)) = ic.map IniD.val
  more : ex K = true
  hd : ∀ p ∈ tf, PySem.W.codeHdIn K (He.cT K p).1 (He.cT K p).2 = true
  out : ∀ p ∈ tf, K.lookup (He.cT K p).2 = none
  empty : ∀ p ∈ tf, h.get? (He.cT K p).2 = some { cls := .none, data := .fields #[] }
abbrev AlP : Type := He.AlD × List IniV × Bool
/-- what an object names; a class names its names alone -/
def refsB (o : Obj) : List Addr := match o.data with
  | .cls cd => cd.ns :: (match o.dict with
    | some d => [d]
    | none => [])
  | _ => He.refsD o
/-- level by level -/
def asB (g : Addr → Option Obj) : Nat → List Addr → List Addr
  | 0, as => as
  | n + 1, as => as ++ asB g n (as.flatMap fun a => match g a with
    | some o => (refsB o).filter fun b => !Nat.beq b mainGlobals
    | none => [])
def isProp (g : Addr → Option Obj) (a : Addr) : Bool := match g a with
  | some o => (match o.cls with
    | .type "property" => true
    | _ => false)
  | none => false
/-- and two levels more of the properties -/
def asP (g : Addr → Option Obj) (as : List Addr) : List Addr := as ++ asB g 2 (as.filter (isProp g))
def kP (n : Nat) (g : Addr → Option Obj) : PySem.W.Frag := He.frT g (cStatics :: asP g (asB g n [mainGlobals]))
def obsK (fa : List He.Fa) (fn : List He.DefD) (ic : List IniD) (tf : List He.Defn) (ex : PySem.W.Frag → Bool) (g : Addr → Option Obj) (K : PySem.W.Frag) : AlP := (He.obsD fa fn K, ic.map (fun d => iniW K (d.adr K)), ex K && He.tabsB g tf K)
def obsP (n : Nat) (fa : List He.Fa) (fn : List He.DefD) (ic : List IniD) (tf : List He.Defn) (ex : PySem.W.Frag → Bool) (g : Addr → Option Obj) : AlP := obsK fa fn ic tf ex g (kP n g)
def valP (fn : List He.DefD) (ic : List IniD) : AlP := (He.valD fn, ic.map IniD.val, true)
theorem saysP_of {fa : List He.Fa} {fn : List He.DefD} {ic : List IniD} {tf : List He.Defn} {ex : PySem.W.Frag → Bool} {h : Heap} {as : List Addr} (e : obsK fa fn ic tf ex h.get? (He.frT h.get? as) = valP fn ic) : SaysP fa fn ic tf ex h (He.frT h.get? as) := by
  have e1 := congrArg (fun z : AlP => z.1) e
  have e2 := congrArg (fun z : AlP => z.2.1) e
  have e3 : (ex (He.frT h.get? as) && He.tabsB h.get? tf (He.frT h.get? as)) = true := congrArg (fun z : AlP => z.2.2) e
  obtain ⟨h1, h2⟩ := Bool.and_eq_true_iff.mp e3
  have each : ∀ p ∈ tf, PySem.W.codeHdIn (He.frT h.get? as) (He.cT (He.frT h.get? as) p).1 (He.cT (He.frT h.get? as) p).2 = true ∧ ∃ o, h.get? (He.cT (He.frT h.get? as) p).2 = some o ∧ He.emptyTab o = true := fun p hp => by
    have hp2 := List.all_eq_true.mp h2 p hp
    obtain ⟨h3, h4⟩ := Bool.and_eq_true_iff.mp hp2
    refine ⟨h3, ?_⟩
    split at h4
    · rename_i o ho
      exact ⟨o, ho, h4⟩
    · cases h4
  exact ⟨e1, e2, h1, fun p hp => (each p hp).1, fun p hp => let ⟨_, o, q, z⟩ := each p hp; He.frT_none q z, fun p hp => by
    obtain ⟨_, o, q, z⟩ := each p hp
    rw [q, He.emptyTab_eq z]⟩
def hookP (n : Nat) (fa : List He.Fa) (fn : List He.DefD) (ic : List IniD) (tf : List He.Defn) (ex : PySem.W.Frag → Bool) : PySem.W.Hook where
  α := AlP
  obs := fun s => obsP n fa fn ic tf ex s.heap.get?
  val := fun _ => valP fn ic
  says := fun _ h => ∃ K : PySem.W.Frag, K.In h ∧ SaysP fa fn ic tf ex h K
  of := fun _ _ e => ⟨_, He.frT_in, saysP_of e⟩
  keeps := fun _ _ _ ⟨K, hK, c⟩ k => ⟨K, PySem.W.Frag.In.keeps hK k, ⟨c.d, c.ini, c.more, c.hd, c.out, fun p hp => k _ _ (c.empty p hp)⟩⟩
theorem obsP_eq {n : Nat} {fa : List He.Fa} {fn : List He.DefD} {ic : List IniD} {tf : List He.Defn} {ex : PySem.W.Frag → Bool} {g : Addr → Option Obj} {s : Shared} (h : ∀ a, g a = s.heap.get? a) : obsP n fa fn ic tf ex g = (hookP n fa fn ic tf ex).obs s := by
  have e : g = s.heap.get? := funext h
  rw [e] <;> rfl
theorem SaysP.ini_ {fa : List He.Fa} {fn : List He.DefD} {ic : List IniD} {tf : List He.Defn} {ex : PySem.W.Frag → Bool} {h : Heap} {K : PySem.W.Frag} (c : SaysP fa fn ic tf ex h K) (i : Nat) {d : IniD} (hi : ic[i]? = some d := by rfl) : iniW K (d.adr K) = d.val := by
  have e2 : (ic.map fun d => iniW K (d.adr K))[i]? = (ic.map IniD.val)[i]? := by rw [c.ini]
  rw [List.getElem?_map, List.getElem?_map, hi] at e2
  exact Option.some.inj e2
/-- the tables at the end of the top -/
theorem SaysP.endT {fa : List He.Fa} {fn : List He.DefD} {ic : List IniD} {tf : List He.Defn} {ex : PySem.W.Frag → Bool} {h : Heap} {K : PySem.W.Frag} {mg : Str → Option Value} (c : SaysP fa fn ic tf ex h K) (X : K.In h) : EndT K mg h (tf.map (He.cT K)) := by
  refine ⟨fun p hp => ?_, fun p hp => ?_, fun p hp => ?_⟩
  all_goals
    obtain ⟨q, hq, rfl⟩ := List.mem_map.mp hp
  · exact c.empty q hq
  · exact c.out q hq
  · exact PySem.W.codeHd_of_K X (c.hd q hq)
theorem inj_map {α β : Type} {f : α → β} : ∀ {l : List α}, (l.map f).Nodup → ∀ {a b : α}, a ∈ l → b ∈ l → f a = f b → a = b
  | [], _, _, _, h, _, _ => absurd h (by simp)
  | x :: l, nd, a, b, ha, hb, e => by
    obtain ⟨h1, h2⟩ := List.nodup_cons.mp nd
    rcases List.mem_cons.mp ha with rfl | ha
    · rcases List.mem_cons.mp hb with rfl | hb
      · rfl
      · exact absurd (List.mem_map.mpr ⟨b, hb, e.symm⟩) h1
    · rcases List.mem_cons.mp hb with hb | hb
      · rw [hb] at e
        exact absurd (List.mem_map.mpr ⟨a, ha, e⟩) h1
      · exact inj_map h2 ha hb e
theorem lam_one {K : PySem.W.Frag} {tf : List He.Defn} {q : Str → Str} (f : He.Defn) (hn : (tf.map fun p => (He.cT K p).2).Nodup) (hm : f ∈ tf) : ∀ p ∈ tf.map fun p => ((He.cT K p).2, q p.1), p.1 = (He.cT K f).2 → p.2 = q f.1 := fun p hp e => by
  obtain ⟨r, hr, rfl⟩ := List.mem_map.mp hp
  rw [inj_map hn hr hm e]
end Pv

/-! Pv, part Y: t[::-1] of tuples, min and max of tuples of ints, t.index(x). -/
namespace Pv
open PySem PySem.Spec PyProof.Rows L2
section
variable {prog : Program} {w : World} {A : Around} {E : Value → Shared → Prop} {s : Shared}
theorem rev_places (n : Nat) : Builtin.Slice.slicePlaces ((n : Int) - 1) (-1) (-1) = n := by
  unfold Builtin.Slice.slicePlaces
  rw [if_neg (by decide : ¬ ((-1 : Int) > 0))]
  by_cases h : (n : Int) - 1 > -1
  · rw [if_pos h]
    have e : ((n : Int) - 1 - -1 - 1) / (- -1) + 1 = (n : Int) := by
      have e1 : (- -1 : Int) = 1 := by decide
      rw [e1, Int.ediv_one]
      omega
    rw [e]
    rfl
  · rw [if_neg h]
    show 0 = n
    omega
theorem rev_applied {sl : Addr} {n : Nat} {vl vu vs : Value} {Q : Int × Int × Nat → Shared → Prop} (hs : s.heap.IsSliceOf sl vl vu vs) (pl : IsPart vl none) (pu : IsPart vu none) (ps : IsPart vs (some (-1))) (h : Q ((n : Int) - 1, -1, n) s) :
    wpAny (model prog w) A (Builtin.Slice.sliceApplied (.ref sl) (pure (n : Int))) Q E s := by
  obtain ⟨os, hos, hcs, hds⟩ := id hs
  unfold Builtin.Slice.sliceApplied Builtin.Slice.sliceFields
  refine wpAny_bind (wpAny_bind (wpAny_field hos hds (x := vl) rfl (wpAny_bind (wpAny_field hos hds (x := vu) rfl (wpAny_bind (wpAny_field hos hds (x := vs) rfl (wpAny_pure ?_)))))))
  refine wpAny_bind (HT.slicePart_ ps ?_)
  show wpAny _ _ (if ((-1 : Int) == 0) = true then _ else _) _ _ s
  rw [if_neg (by decide)]
  refine wpAny_bind (HT.slicePart_ pl (wpAny_bind (HT.slicePart_ pu (wpAny_bind (wpAny_pure ?_)))))
  have e : Builtin.Slice.sliceAdjust none none (-1) (n : Int) = ((n : Int) - 1, -1) := by
    unfold Builtin.Slice.sliceAdjust
    simp
  show wpAny _ _ (match Builtin.Slice.sliceAdjust none none (-1) (n : Int) with | (lo, hi) => pure (lo, (-1 : Int), Builtin.Slice.slicePlaces lo hi (-1))) _ _ s
  rw [e]
  show wpAny _ _ (pure ((n : Int) - 1, (-1 : Int), Builtin.Slice.slicePlaces ((n : Int) - 1) (-1) (-1))) _ _ s
  rw [rev_places]
  exact wpAny_pure h
theorem fm_some {α β : Type} {f : α → Option β} {g : α → β} : ∀ l : List α, (∀ k ∈ l, f k = some (g k)) → l.filterMap f = l.map g
  | [], _ => rfl
  | x :: l, h => by
    rw [List.filterMap_cons_some (h x List.mem_cons_self), List.map_cons, fm_some l fun k hk => h k (List.mem_cons_of_mem _ hk)]
theorem rev_pick (xs : Array Value) : ((List.range xs.size).filterMap fun (k : Nat) => xs[(((xs.size : Int) - 1) + (k : Int) * (-1)).toNat]?).toArray = xs.toList.reverse.toArray := by
  congr 1
  have hl : ∀ k ∈ List.range xs.size, xs[(((xs.size : Int) - 1) + (k : Int) * (-1)).toNat]? = some (xs.toList.reverse.getD k .none) := fun k hk => by
    have hk : k < xs.size := List.mem_range.mp hk
    have e1 : (((xs.size : Int) - 1) + (k : Int) * (-1)).toNat = xs.size - 1 - k := by omega
    rw [e1, Array.getElem?_eq_getElem (by omega), List.getD_eq_getElem?_getD, List.getElem?_reverse (by rw [Array.length_toList]; exact hk), Array.length_toList, List.getElem?_eq_getElem (by rw [Array.length_toList]; omega)]
    simp
  rw [fm_some _ hl]
  refine List.ext_getElem? fun i => ?_
  rw [List.getElem?_map]
  by_cases hi : i < xs.size
  · rw [List.getElem?_range hi]
    show some (xs.toList.reverse.getD i .none) = _
    rw [List.getD_eq_getElem?_getD, List.getElem?_eq_getElem (by rw [List.length_reverse, Array.length_toList]; exact hi)]
    rfl
  · rw [List.getElem?_eq_none (by rw [List.length_range]; omega), List.getElem?_eq_none (by rw [List.length_reverse, Array.length_toList]; omega)]
    rfl
theorem getItem_tuple_rev {t sl : Addr} {items : Array Value} {vl vu vs : Value} {Q : Value → Shared → Prop} (ht : IsTup s.heap t items) (hs : s.heap.IsSliceOf sl vl vu vs) (pl : IsPart vl none) (pu : IsPart vu none) (ps : IsPart vs (some (-1)))
    (h : Q (.ref s.heap.objs.size) { s with heap := s.heap.push { cls := .type "tuple", data := .seq items.toList.reverse.toArray } }) (hsz : items.size ≤ sizeLine) : wpAny (model prog w) A (getItem (.ref t) (.ref sl)) Q E s := by
  have hok : sizeOk (.seq items.toList.reverse.toArray) := by
    show items.toList.reverse.toArray.size ≤ sizeLine
    rw [List.size_toArray, List.length_reverse, Array.length_toList]
    exact hsz
  obtain ⟨os, hos, hcs, hds⟩ := id hs
  have hTs : s.TypeIs (.ref sl) "slice" := ⟨os, hos, hcs⟩
  unfold getItem
  try with_reducible refine wpAny_holding ?_
  first | refine wpAny_bind (wpAny_pure ?_) | skip
  refine wpAny_bind (wpAny_sequenceKey ht.typeIs (by decide) ?_)
  refine wpAny_bind (wpAny_callSpecial?_slot (name := Str.ofString "__getitem__") ht.typeIs PyProof.Rows.slot_tuple_getitem
    (wpAny_call_entry PyProof.Rows.slot_tuple_getitem ht.typeIs entry_tuple_getitem ?_ (args_tuple_getitem _ _)))
  show wpAny _ _ (Builtin.Tuple.tupleItemsOf (.ref t) >>= _) _ _ s
  refine wpAny_bind (PyProof.Rows.tupleItemsOf_ ht (wpAny_bind (wpAny_typeOf hTs ?_)))
  rw [if_pos (by decide)]
  refine wpAny_bind (rev_applied hs pl pu ps ?_)
  have hno : ¬ ((((items.size : Int) - 1) == 0 && (-1 : Int) == 1 && items.size == items.size) = true) := by
    rw [show ((-1 : Int) == 1) = false from by decide, Bool.and_false, Bool.false_and]
    exact Bool.false_ne_true
  show wpAny _ _ (if (((items.size : Int) - 1) == 0 && (-1 : Int) == 1 && items.size == items.size) = true then _ else _) _ _ s
  rw [if_neg hno, rev_pick]
  first
    | exact wpAny_bind (m := Builtin.Tuple.tupleExact _) (wpAny_newObj_type (wpAny_pure ⟨_, rfl, wpAny_pure h⟩) hok)
    | exact wpAny_bind (m := Builtin.Tuple.tupleExact _) (wpAny_newObj_type (wpAny_bind (wpAny_pure (wpAny_pure ⟨_, rfl, wpAny_pure h⟩))) hok)
    | exact wpAny_bind (wpAny_bind (m := Builtin.Tuple.tupleExact _) (wpAny_newObj_type (wpAny_pure (wpAny_pure ⟨_, rfl, wpAny_pure h⟩)) hok))
    | exact wpAny_bind (wpAny_bind (m := Builtin.Tuple.tupleExact _) (wpAny_newObj_type (wpAny_pure ⟨_, rfl, wpAny_pure h⟩) hok))
end
section
variable {X : Cx}
def tRevT (K : PySem.W.Frag) (te : TE) : TE := fun σ H Q => te σ H fun x H1 => ∃ a xs, x = .ref a ∧ ((SqT K H1 a xs ∧ ∀ p, H1 p = none → Q (.ref p) (upd H1 p (.tup xs.reverse))) ∨ (SqL K H1 a xs ∧ ∀ p, H1 p = none → Q (.ref p) (upd H1 p (.lst xs.reverse))))
theorem pe_rev {e : Expr} {te : TE} {k : Nat} {p1 p2 p3 pos : Pos} (he : PE X e te) : PE X (.Subscript e (.Slice none none (some (.UnaryOp .USub (.Constant (.int 1) k p1) p2)) p3) pos) (tRevT X.K te) := by
  refine ⟨fun pins s σ H Q I h => Subscript_ (thn (he.run pins s σ H _ I h) fun v s1 ⟨x, H1, I1, r1, q1⟩ => ?_)⟩
  obtain ⟨a, xs, ex, q⟩ := q1
  subst ex
  cases r1
  have hst : PO X (some (.UnaryOp .USub (.Constant (.int 1) k p1) p2)) (tPart (tUn (rU fun i => .int (-i)) (tC (.int 1)))) := po_some (pe_un un_neg pe_int)
  refine wpAny_Slice (thn (po_none.run pins s1 σ H1 (fun o H2 => o = none ∧ H2 = H1) I1 ⟨rfl, rfl⟩) fun vl s2 ⟨l, H2, I2, pl, el, e2⟩ => ?_)
  subst el e2
  refine thn (po_none.run pins s2 σ H2 (fun o H3 => o = none ∧ H3 = H2) I2 ⟨rfl, rfl⟩) fun vu s3 ⟨u, H3, I3, pu, eu, e3⟩ => ?_
  subst eu e3
  refine thn (hst.run pins s3 σ H3 (fun o H4 => o = some (-1) ∧ H4 = H3) I3 ⟨1, rfl, -1, rfl, rfl, rfl⟩) fun vs s4 ⟨o, H4, I4, ps, eo, e4⟩ => ?_
  subst eo e4
  have I5 : L2.Inv X pins σ H4 { s4 with heap := s4.heap.push { cls := .type "slice", data := .fields #[vl, vu, vs] } } := I4.kept (t' := s4.toks) fun b ob q => Heap.get?_push_of_some _ q
  show wpAny (model X.prog X.w) X.A (subscriptTail e (.Slice none none (some (.UnaryOp .USub (.Constant (.int 1) k p1) p2)) p3) (.ref a) (.ref s4.heap.objs.size)) (EP X pins σ Q) X.xe { s4 with heap := s4.heap.push { cls := .type "slice", data := .fields #[vl, vu, vs] } }
  rcases q with ⟨hx, q⟩ | ⟨hx, q⟩
  · obtain ⟨its, r, ht, hz⟩ := I5.tuple hx
    have hlen := r.length
    refine tail_any (ops := [.ref a, .ref s4.heap.objs.size]) ht.typeIs (PyProof.Rows.slot_tuple_getitem.lookup) ?_ (by with_unfolding_all rfl)
    refine getItem_tuple_rev ht (Heap.IsSliceOf.new _ vl vu vs) pl pu ps ?_ (by rw [List.size_toArray]; omega)
    refine ⟨.ref _, _, I5.laid (t' := s4.toks) (o := .tup xs.reverse) (fun b ob q => Heap.get?_push_of_some _ q) (Nat.le_refl _) ?_, rfl, q _ (I5.hok.fresh (Nat.le_refl _))⟩
    exact ⟨by rw [List.length_reverse]; exact hz, _, by simpa using r.reverse, IsTup.new _ _⟩
  · obtain ⟨its, r, ht, hz⟩ := I5.list hx
    have hlen := r.length
    refine tail_any (ops := [.ref a, .ref s4.heap.objs.size]) ht.isList.typeIs (PySem.slot_list_getitem.lookup) ?_ (by with_unfolding_all rfl)
    refine wpAny_getItem_list_slice ht.isList (Heap.IsSliceOf.new _ vl vu vs) pl pu ps (by decide) ?_ (by rw [List.size_toArray]; omega)
    rw [PySem.W.krv_pick]
    refine ⟨.ref _, _, I5.laid (t' := s4.toks) (o := .lst xs.reverse) (fun b ob q => Heap.get?_push_of_some _ q) (Nat.le_refl _) ?_, rfl, q _ (I5.hok.fresh (Nat.le_refl _))⟩
    exact ⟨by rw [List.length_reverse]; exact hz, _, 0, r.reverse, Heap.get?_push_size _ rfl⟩
end
/-- x[::-1] -/
def cRev (ob : Bool) (te : Ex) : Ex := fun env h => (te env h).bind fun x h1 => match vw x h1 with
  | some (.tuple ds) => .ok (.dat (.tuple ds.reverse)) h1
  | some (.list ds) => if ob then .ok (.obj h1.length) (h1 ++ [.lst ds.reverse]) else .ok (.dat (.list ds.reverse)) h1
  | _ => .no
section
variable {C : Cn} {Wx : XK} {X : Cx} {e : Expr} {te : Ex} {k : Nat} {p1 p2 p3 pos : Pos}
theorem se_rev [Fed] (ob : Bool) (he : SE C Wx X e te) (hK : X.K = C.K := by rfl) : SE C Wx X (.Subscript e (.Slice none none (some (.UnaryOp .USub (.Constant (.int 1) k p1) p2)) p3) pos) (cRev ob te) :=
  ⟨pe_imp (pe_rev he.pe) fun σ H Q q => by
    obtain ⟨F, U, μ, env, h, l, ev, o⟩ := q
    refine rd_step l ev o fun x vx F1 U1 μ1 H1 h1 g1 p1 l1 r1 e1 o1 => ?_
    rw [hK]
    split at o1
    · rename_i ds hv
      cases vw_ok l1 r1 hv with
      | tup s d => exact ⟨_, _, rfl, .inl ⟨s, fun p hp => o1.newT l1 d.rev hp⟩⟩
    · rename_i ds hv
      cases vw_ok l1 r1 hv with
      | lst s d =>
        refine ⟨_, _, rfl, .inr ⟨s, fun p hp => ?_⟩⟩
        cases ob with
        | true => exact Out.newO (by simpa using o1) l1 d.rev hp
        | false => exact Out.newL (by simpa using o1) l1 d.rev hp
    · exact o1.elim⟩
end
end Pv

/-! QG: min, max of tuples of ints; t.index(x); texts cut and joined. -/
namespace Pv
open PySem PySem.Spec PyProof.Rows L2
/-! ### min, max of a tuple of ints -/
section
variable {X : Cx}
theorem hold_ints {h : Heap} : ∀ {us : List Value} {ns : List Int}, Vals (ns.map V.int) us → PySem.W.HoldAll h us ns
  | _, [], r => by
    rw [List.map_nil] at r
    cases r
    exact ⟨[], .nil⟩
  | _, n :: ns, r => by
    rw [List.map_cons] at r
    cases r with
    | cons a b =>
      obtain ⟨t, rfl⟩ := a
      obtain ⟨as, q⟩ := hold_ints (h := h) b
      exact ⟨_, .cons (.int n t) q⟩
theorem held_int {h : Heap} {v : Value} {n : Int} (q : PySem.W.Holds h v n) : ∃ t, v = .int n t := by
  obtain ⟨as, r⟩ := q
  have r : Reads h v (.int n) as := r
  cases r
  exact ⟨_, rfl⟩
theorem minOf_eq : ∀ (ns : List Int) (n : Int), PySem.W.minOf n ns = minI n ns
  | [], n => rfl
  | x :: xs, n => by
    show PySem.W.minOf (if (decide (x < n)) = true then x else n) xs = minI (if x < n then x else n) xs
    rw [minOf_eq xs]
    congr 1
    by_cases h : x < n
    · rw [if_pos h, if_pos (decide_eq_true h)]
    · rw [if_neg h, if_neg (by rw [decide_eq_false h]; exact Bool.false_ne_true)]
theorem maxOf_eq : ∀ (ns : List Int) (n : Int), PySem.W.maxOf n ns = maxI n ns
  | [], n => rfl
  | x :: xs, n => by
    show PySem.W.maxOf (if (decide (n < x)) = true then x else n) xs = maxI (if n < x then x else n) xs
    rw [maxOf_eq xs]
    congr 1
    by_cases h : n < x
    · rw [if_pos h, if_pos (decide_eq_true h)]
    · rw [if_neg h, if_neg (by rw [decide_eq_false h]; exact Bool.false_ne_true)]
def rMin2K (K : PySem.W.Frag) (f : Int → List Int → Int) : List V → Hp → VK → Prop := fun vs H Q => ∃ (a : Addr) (n : Int) (ns : List Int), vs = [V.ref a] ∧ (SqL K H a ((n :: ns).map V.int) ∨ SqT K H a ((n :: ns).map V.int)) ∧ Q (.int (f n ns)) H
theorem vals_cons_int {n : Int} {ns : List Int} {us : List Value} (r : Vals ((n :: ns).map V.int) us) : PySem.W.HoldAll (α := Int) h us (n :: ns) := hold_ints r
theorem cr_minA [Fed] (hc : X.calm = true) (hu : X.A.units + 1 < cLine) : CallR X (.builtin "min") (rMin2K X.K minI) := by
  intro pins s σ H vs us Q I r h
  obtain ⟨a, n, ns, rfl, hs, q⟩ := h
  rw [Vals.ref1 r]
  rcases hs with hs | hs
  · obtain ⟨its, rv, hl, _⟩ := I.list hs
    refine min_raw (I.ok.hd hc) hl.isList rv.ints (by simp) fun h' tk m t' hk h1 h2 => ⟨.int _, H, I.kept hk, ⟨_, rfl⟩, ?_⟩
    obtain ⟨g1, g2, g3⟩ := minI_ok ns n
    have em : m = minI n ns := by
      have a1 : minI n ns ≤ m := by
        rcases List.mem_cons.mp h1 with z | z
        · rw [z]; exact g2
        · exact g3 m z
      have a2 : m ≤ minI n ns := by
        rcases g1 with z | z
        · rw [z]; exact h2 n List.mem_cons_self
        · exact h2 _ (List.mem_cons_of_mem _ z)
      omega
    rw [em]; exact q
  · obtain ⟨its, rv, ⟨⟨cls, dd, data, sls⟩, ho, hcl, nn, hd⟩, _⟩ := I.tuple hs
    simp only at hcl hd
    subst hcl hd
    refine PySem.W.min_tuple_datum (α := Int) (x := n) (xs := ns) (vs := its.toArray) (I.ok.hd hc) ⟨_, ho, rfl, nn, rfl⟩ (hold_ints rv) (by show X.A.units + 1 + 0 < cLine; omega) fun i v h' tk hi hv hk => ?_
    obtain ⟨t, rfl⟩ := held_int hv
    exact ⟨.int _, H, I.kept hk, ⟨t, rfl⟩, by rw [minOf_eq]; exact q⟩
theorem cr_maxA [Fed] (hc : X.calm = true) (hu : X.A.units + 1 < cLine) : CallR X (.builtin "max") (rMin2K X.K maxI) := by
  intro pins s σ H vs us Q I r h
  obtain ⟨a, n, ns, rfl, hs, q⟩ := h
  rw [Vals.ref1 r]
  rcases hs with hs | hs
  · obtain ⟨its, rv, hl, _⟩ := I.list hs
    refine max_raw (I.ok.hd hc) hl.isList rv.ints (by simp) fun h' tk m t' hk h1 h2 => ⟨.int _, H, I.kept hk, ⟨_, rfl⟩, ?_⟩
    obtain ⟨g1, g2, g3⟩ := maxI_ok ns n
    have em : m = maxI n ns := by
      have a1 : m ≤ maxI n ns := by
        rcases List.mem_cons.mp h1 with z | z
        · rw [z]; exact g2
        · exact g3 m z
      have a2 : maxI n ns ≤ m := by
        rcases g1 with z | z
        · rw [z]; exact h2 n List.mem_cons_self
        · exact h2 _ (List.mem_cons_of_mem _ z)
      omega
    rw [em]; exact q
  · obtain ⟨its, rv, ⟨⟨cls, dd, data, sls⟩, ho, hcl, nn, hd⟩, _⟩ := I.tuple hs
    simp only at hcl hd
    subst hcl hd
    refine PySem.W.max_tuple_datum (α := Int) (x := n) (xs := ns) (vs := its.toArray) (I.ok.hd hc) ⟨_, ho, rfl, nn, rfl⟩ (hold_ints rv) (by show X.A.units + 1 + 0 < cLine; omega) fun i v h' tk hi hv hk => ?_
    obtain ⟨t, rfl⟩ := held_int hv
    exact ⟨.int _, H, I.kept hk, ⟨t, rfl⟩, by rw [maxOf_eq]; exact q⟩
end
def gMM (f : Int → List Int → Int) : GC
  | [x], h => match vw x h with
    | some (.list ds) => match intsOf ds with
      | some (n :: ns) => .ok (.dat (.int (f n ns))) h
      | _ => .no
    | some (.tuple ds) => match intsOf ds with
      | some (n :: ns) => .ok (.dat (.int (f n ns))) h
      | _ => .no
    | _ => .no
  | _, _ => .no
theorem cd_MM [Fed] {K : PySem.W.Frag} {f : Int → List Int → Int} : CallD K (rMin2K K f) (gMM f) := by
  intro C hC F U μ H h W vs xs Q l r o
  subst hC
  unfold gMM at o
  split at o
  · obtain ⟨v, rfl, rv⟩ := slRs1 r
    split at o
    · rename_i ds e
      split at o
      · rename_i n ns eb
        cases vw_ok l rv e with
        | lst s d =>
          rw [ints_ok d eb] at s
          exact ⟨_, n, ns, rfl, .inl s, o.here l (.int _)⟩
      · exact o.elim
    · rename_i ds e
      split at o
      · rename_i n ns eb
        cases vw_ok l rv e with
        | tup s d =>
          rw [ints_ok d eb] at s
          exact ⟨_, n, ns, rfl, .inr s, o.here l (.int _)⟩
      · exact o.elim
    · exact o.elim
  · exact o.elim
/-! ### x.index(y), data of any depth -/
section
variable {X : Cx}
def rTupIx (K : PySem.W.Frag) : V → List V → Hp → VK → Prop := fun x xs H Q => ∃ (a : Addr) (y : V) (d : PyData) (ds : List PyData) (j : Nat) (z : PyData), x = V.ref a ∧ xs = [y] ∧ Dp K H (V.ref a) (.tuple ds) ∧ Dp K H y d ∧
  SeqAt.shaped (.tuple ds) = true ∧ SeqAt.shaped d = true ∧ ds[j]? = some z ∧ PyData.eqv z d = true ∧ (∀ (m : Nat) (z' : PyData), m < j → ds[m]? = some z' → PyData.eqv z' d = false) ∧ Q (.int (j : Nat)) H
theorem mt_tupIx (hu : X.A.units + 65 < cLine) : MtR X "tuple.index" (rTupIx X.K) := by
  intro pins s σ H x xs v us Q I rx rxs h
  obtain ⟨a, y, d, ds, j, z, rfl, rfl, hl, hy, sl, sd, hz, hzj, hno, q⟩ := h
  cases rx
  cases rxs with
  | cons ry rt =>
    rename_i uy ut
    cases rt
    obtain ⟨bs, r1⟩ := Dp.reads I d y uy hy ry
    have lay : PyData.canLayAll0 ds = true := SeqAt.canLay_of_shaped sl
    cases hl with
    | tup hs ha =>
      obtain ⟨its, rv, ⟨⟨cls, dd, data, sls⟩, ho, hc, n, hdt⟩, hlen⟩ := I.tuple hs
      simp only at hc hdt
      subst hc hdt
      obtain ⟨as, h4⟩ := Dp.readsAll I ds _ its ha rv
      have hn : its.length = ds.length := SeqAt.ReadsAll.length ds its as h4
      have hmap : its.map (SeqAt.readOf s.heap) = ds := SeqAt.readsAll_map ds its as lay h4
      obtain ⟨hjd, _⟩ := List.getElem?_eq_some_iff.mp hz
      have hj : j < its.toArray.size := by simpa using (by omega : j < its.length)
      have get_ : ∀ (m : Nat) (hm : m < its.toArray.size) (z' : PyData), ds[m]? = some z' → SeqAt.readOf s.heap its.toArray[m] = z' := fun m hm z' hz' => by
        have hml : m < its.length := by simpa using hm
        rw [← hmap, List.getElem?_map, List.getElem?_eq_getElem hml] at hz'
        simpa using Option.some.inj hz'
      refine call_meets PySem.F.slot_tuple_index ⟨_, ho, rfl⟩ PySem.F.entry_tuple_index (PySem.F.args_tuple_index_2 _ _)
        (TI.tuple_indexAt a its.toArray n dd sls uy (fun u => PyData.eqv (SeqAt.readOf s.heap u) d) j hj ?_ ?_) ⟨ho, SeqAt.items_eqAt (vs := its.toArray) (show ReadsAll s.heap its.toArray.toList ds as from h4) r1 lay (SeqAt.canLay_of_shaped sd) (room_in_shaped sd hu), ⟨.int (j : Nat), H, I.tok _, ⟨_, rfl⟩, q⟩⟩
      · show PyData.eqv (SeqAt.readOf s.heap its.toArray[j]) d = true
        rw [get_ j hj z hz]; exact hzj
      · intro m hm hlt
        show PyData.eqv (SeqAt.readOf s.heap its.toArray[m]) d = false
        have hmd : m < ds.length := by omega
        rw [get_ m hm ds[m] (List.getElem?_eq_getElem hmd)]
        exact hno m _ hlt (List.getElem?_eq_getElem hmd)
end
/-- the first place of d in ds -/
def ixOf (d : PD) : List PD → Nat → Option Nat
  | [], _ => none
  | x :: xs, n => if eqvF x d then some n else ixOf d xs (n + 1)
theorem ixOf_ok {d : PD} : ∀ {ds : List PD} {n j : Nat}, ixOf d ds n = some j → ∃ z, n ≤ j ∧ ds[j - n]? = some z ∧ PyData.eqv z d = true ∧ ∀ (m : Nat) (z' : PyData), m < j - n → ds[m]? = some z' → PyData.eqv z' d = false
  | [], _, _, h => by cases h
  | x :: xs, n, j, h => by
    unfold ixOf at h
    by_cases hx : eqvF x d = true
    · rw [if_pos hx] at h
      cases h
      refine ⟨x, Nat.le_refl _, by simp, by rw [← eqvF_eq]; exact hx, fun m z' hm => ?_⟩
      omega
    · rw [if_neg hx] at h
      obtain ⟨z, h1, h2, h3, h4⟩ := ixOf_ok h
      have e : j - n = (j - (n + 1)) + 1 := by omega
      refine ⟨z, by omega, by rw [e]; simpa using h2, h3, fun m z' hm hz => ?_⟩
      cases m with
      | zero =>
        simp at hz
        subst hz
        rw [← eqvF_eq]
        simpa using hx
      | succ m => exact h4 m z' (by omega) (by simpa using hz)
def cIxL (to : Ex) (ta : Ax) : Ex := fun env h => (to env h).bind fun x h1 => match vw x h1 with
  | some (.list _) => (ta env h1).bind fun xs h2 => match xs with
    | [y] => match vw x h2, vw y h2 with
      | some (.list ds), some d => if SeqAt.shaped (.list ds) && SeqAt.shaped d then (match ixOf d ds 0 with
          | some j => .ok (.dat (.int (j : Nat))) h2
          | none => .no) else .no
      | _, _ => .no
    | _ => .no
  | _ => .no
section
variable {C : Cn} {Wx : XK} {X : Cx} {o e : Expr} {to te : Ex} {tr : Ax} {apos cpos : Pos}
theorem se_ixL [Fed] (hu : X.A.units + 65 < cLine) (ho : SE C Wx X o to) (ha : SA C Wx X [e] tr) (hK : X.K = C.K := by rfl)
    (hbase : attributeBase o "index" X.env (eval o X.env) = eval o X.env := by rfl)
    (hfew : ((backTo cpos (starEach [e] X.env)).all (fun x => !x.1) && (backToKw cpos (keywordEach [] X.env)).all (fun x => x.1.isSome)
      && decide (([e] : List Expr).length + ([] : List Keyword).length + (if ([] : List Keyword).isEmpty then 0 else 1) < 30)) = true := by rfl)
    (hline : (apos.endLine == cpos.line) = true := by rfl) (hs : starEach [e] X.env = (false, eval e X.env) :: starEach [] X.env := by rfl) (hplain : (backTo cpos (starEach [] X.env)).any (·.1) = false := by rfl) :
    SE C Wx X (.Call (.Attribute o "index" apos) [e] [] cpos) (cIxL to tr) := ⟨pe_imp (pe_bm PySem.F.plainAttrs_list PySem.F.slot_list_index rfl (mt_indexD hu) ho.pe ha.pa hbase hfew hline hs hplain) fun σ H Q q => by
  obtain ⟨F, U, μ, env, h, l, ev, o⟩ := q
  refine rd_step l ev o fun x vx F1 U1 μ1 H1 h1 g1 p1 l1 r1 e1 o1 => ?_
  split at o1
  · rename_i ds0 hv
    rw [hK]
    have hty : tyV C.K "list" vx H1 := by
      cases vw_ok l1 r1 hv with
      | lst s d => exact .inl ⟨rfl, _, s⟩
    refine ⟨hty, ?_⟩
    refine rd_step l1 e1 o1 fun ys vs F2 U2 μ2 H2 h2 g2 p2 l2 r2 e2 o2 => ?_
    split at o2
    · rename_i y
      obtain ⟨v, rfl, rv⟩ := slRs1 r2
      split at o2
      · rename_i ds d hc2 hd2
        split at o2
        · rename_i hsh
          rw [Bool.and_eq_true] at hsh
          split at o2
          · rename_i j hj
            obtain ⟨z, _, z2, z3, z4⟩ := ixOf_ok hj
            have wd := vw_ok l2 rv hd2
            cases vw_ok l2 (r1.mono g2.f p2) hc2 with
            | lst s dd =>
              exact ⟨_, v, d, ds, j, z, rfl, rfl, (VwR.lst s dd).dp l2.fh (SeqAt.canLay_of_shaped hsh.1), wd.dp l2.fh (SeqAt.canLay_of_shaped hsh.2), hsh.1, hsh.2, by simpa using z2, z3, fun m z' hm => z4 m z' (by simpa using hm), o2.here l2 (.int _)⟩
          · exact o2.elim
        · exact o2.elim
      · exact o2.elim
    · exact o2.elim
  · exact o1.elim⟩
/-! ### texts -/
def strOf : Sl → Option Str
  | .dat (.str x) => some x
  | _ => none
theorem strOf_ok [Fed] {K : PySem.W.Frag} {F : Hp} {μ : List Addr} {v : V} {x : Sl} {y : Str} (r : SlR K F μ v x) (h : strOf x = some y) : v = .str y := by
  cases x with
  | dat d =>
    cases d with
    | str z => cases h; cases r; rfl
    | _ => cases h
  | _ => cases h
/-- x.split(y) -/
def cSplit (ob : Bool) (to te : Ex) : Ex := fun env h => (to env h).bind fun x h1 => match strOf x with
  | some a => (te env h1).bind fun y h2 => match strOf y with
    | some b => if (b.length == 0) = false ∧ a.length + 2 ≤ sizeLine then (match ob with
        | true => .ok (.obj h2.length) (h2 ++ [.lst ((Txt.split a b).map .str)])
        | false => .ok (.dat (.list ((Txt.split a b).map .str))) h2) else .no
    | none => .no
  | none => .no
theorem RDs.strs [Fed] {K : PySem.W.Frag} {F : Hp} : ∀ xs : List Str, RDs K F (xs.map V.str) (xs.map PyData.str)
  | [] => .nil
  | x :: xs => .cons (.str x) (RDs.strs xs)
theorem se_split [Fed] (ob : Bool) (ho : SE C Wx X o to) (ha : SE C Wx X e te) (hs : starEach [e] X.env = [(false, eval e X.env)] := by rfl) (hbase : attributeBase o "split" X.env (eval o X.env) = eval o X.env := by rfl) (hline : (apos.endLine == cpos.line) = true := by rfl) :
    SE C Wx X (.Call (.Attribute o "split" apos) [e] [] cpos) (cSplit ob to te) := ⟨pe_imp (pe_split ho.pe ha.pe hs hbase hline) fun σ H Q q => by
  obtain ⟨F, U, μ, env, h, l, ev, o⟩ := q
  refine rd_step l ev o fun x vx F1 U1 μ1 H1 h1 g1 p1 l1 r1 e1 o1 => ?_
  split at o1
  · rename_i a ea
    have hx := strOf_ok r1 ea
    refine ⟨⟨a, hx⟩, ?_⟩
    refine rd_step l1 e1 o1 fun y vy F2 U2 μ2 H2 h2 g2 p2 l2 r2 e2 o2 => ?_
    split at o2
    · rename_i b eb
      have hy := strOf_ok r2 eb
      split at o2
      · rename_i hc
        refine ⟨a, b, hx, by rw [hy], hc.1, hc.2, fun p hp => ?_⟩
        cases ob with
        | true => exact Out.newO o2 l2 (.strs _) hp
        | false => exact Out.newL o2 l2 (.strs _) hp
      · exact o2.elim
    · exact o2.elim
  · exact o1.elim⟩
/-- the texts of a list -/
def strsOf : List PD → Option (List Str)
  | [] => some []
  | .str x :: ds => match strsOf ds with
    | some xs => some (x :: xs)
    | none => none
  | _ => none
theorem strs_ok [Fed] {K : PySem.W.Frag} {F : Hp} : ∀ {vs : List V} {ds : List PD} {xs : List Str}, RDs K F vs ds → strsOf ds = some xs → vs = xs.map V.str
  | _, _, _, .nil, e => by cases e; rfl
  | _, _, xs, .cons (d := d) r t, e => by
    cases d with
    | str x =>
      unfold strsOf at e
      split at e
      · rename_i ys hy
        cases e
        cases r
        rw [strs_ok t hy]
        rfl
      · cases e
    | _ => cases e
/-- x.join(ys) -/
def cJoin (to te : Ex) : Ex := fun env h => (to env h).bind fun x h1 => match strOf x with
  | some a => (te env h1).bind fun y h2 => match vw y h2 with
    | some (.list ds) => (match strsOf ds with
      | some ys => if (ys.map (·.length)).sum + ys.length * a.length ≤ 16777216 then .ok (.dat (.str (Txt.join a ys))) h2 else .no
      | none => .no)
    | some (.tuple ds) => (match strsOf ds with
      | some ys => if (ys.map (·.length)).sum + ys.length * a.length ≤ 16777216 then .ok (.dat (.str (Txt.join a ys))) h2 else .no
      | none => .no)
    | _ => .no
  | none => .no
theorem se_join [Fed] (ho : SE C Wx X o to) (ha : SE C Wx X e te) (hK : X.K = C.K := by rfl) (hs : starEach [e] X.env = [(false, eval e X.env)] := by rfl) (hbase : attributeBase o "join" X.env (eval o X.env) = eval o X.env := by rfl) (hline : (apos.endLine == cpos.line) = true := by rfl) :
    SE C Wx X (.Call (.Attribute o "join" apos) [e] [] cpos) (cJoin to te) := ⟨pe_imp (pe_join ho.pe ha.pe hs hbase hline) fun σ H Q q => by
  obtain ⟨F, U, μ, env, h, l, ev, o⟩ := q
  refine rd_step l ev o fun x vx F1 U1 μ1 H1 h1 g1 p1 l1 r1 e1 o1 => ?_
  split at o1
  · rename_i a ea
    have hx := strOf_ok r1 ea
    refine ⟨⟨a, hx⟩, ?_⟩
    refine rd_step l1 e1 o1 fun y vy F2 U2 μ2 H2 h2 g2 p2 l2 r2 e2 o2 => ?_
    rw [hK]
    split at o2
    · rename_i ds hv
      split at o2
      · rename_i ys hy
        split at o2
        · rename_i hc
          cases vw_ok l2 r2 hv with
          | lst s d =>
            rw [strs_ok d hy] at s
            exact ⟨a, _, ys, hx, rfl, .inl s, hc, o2.here l2 (.str _)⟩
        · exact o2.elim
      · exact o2.elim
    · rename_i ds hv
      split at o2
      · rename_i ys hy
        split at o2
        · rename_i hc
          cases vw_ok l2 r2 hv with
          | tup s d =>
            rw [strs_ok d hy] at s
            exact ⟨a, _, ys, hx, rfl, .inr s, hc, o2.here l2 (.str _)⟩
        · exact o2.elim
      · exact o2.elim
    · exact o2.elim
  · exact o1.elim⟩
end
/-! ### str(i), int(text) -/
def gStr : GC
  | [.dat (.int i)], h => if i.natAbs.log2 < 1920 then .ok (.dat (.str (toString i))) h else .no
  | _, _ => .no
theorem cd_str [Fed] {K : PySem.W.Frag} : CallD K (fun xs H Q => ∃ i : Int, xs = [.int i] ∧ i.natAbs.log2 < 1920 ∧ Q (.str (toString i)) H) gStr := by
  intro C hC F U μ H h W vs xs Q l r o
  subst hC
  unfold gStr at o
  split at o
  · rename_i i
    obtain ⟨v, rfl, rv⟩ := slRs1 r
    cases rv
    split at o
    · exact ⟨i, rfl, by assumption, o.here l (.str _)⟩
    · exact o.elim
  · exact o.elim
def gIntS : GC
  | [.dat (.str a)], h => if a.length ≤ 640 then (match PySem.intText? a with
    | some n => .ok (.dat (.int n)) h
    | none => .no) else .no
  | _, _ => .no
theorem cd_intS [Fed] {K : PySem.W.Frag} : CallD K (fun xs H Q => ∃ a n, xs = [.str a] ∧ PySem.intText? a = some n ∧ a.length ≤ 640 ∧ Q (.int n) H) gIntS := by
  intro C hC F U μ H h W vs xs Q l r o
  subst hC
  unfold gIntS at o
  split at o
  · rename_i a
    obtain ⟨v, rfl, rv⟩ := slRs1 r
    cases rv
    split at o
    · split at o
      · rename_i n hn
        exact ⟨a, n, rfl, hn, by assumption, o.here l (.int _)⟩
      · exact o.elim
    · exact o.elim
  · exact o.elim
theorem CallR.or {X : Cx} {u : Value} {r r' : List V → Hp → VK → Prop} (a : CallR X u r) (b : CallR X u r') : CallR X u (fun vs H Q => r vs H Q ∨ r' vs H Q) := fun pins s σ H xs us Q I rv h => h.elim (a pins s σ H xs us Q I rv) (b pins s σ H xs us Q I rv)
def gIntA : GC := fun xs h => match xs with
  | [.dat (.str a)] => gIntS [.dat (.str a)] h
  | xs => gInt xs h
theorem cd_intA [Fed] {K : PySem.W.Frag} : CallD K (fun xs H Q => ((∃ i : Int, xs = [.int i] ∧ Q (.int i) H) ∨ ∃ k, xs = [.bl k] ∧ Q (.int (if k then 1 else 0)) H) ∨ ∃ a n, xs = [.str a] ∧ PySem.intText? a = some n ∧ a.length ≤ 640 ∧ Q (.int n) H) gIntA := by
  intro C hC F U μ H h W vs xs Q l r o
  unfold gIntA at o
  split at o
  · exact .inr (cd_intS C hC F U μ H h W vs _ Q l r o)
  · exact .inl (cd_int C hC F U μ H h W vs _ Q l r o)
def gStrA : GC := fun xs h => match xs with
  | [.dat (.str a)] => .ok (.dat (.str a)) h
  | xs => gStr xs h
theorem cd_strA [Fed] {K : PySem.W.Frag} : CallD K (fun xs H Q => (∃ i : Int, xs = [.int i] ∧ i.natAbs.log2 < 1920 ∧ Q (.str (toString i)) H) ∨ ∃ a, xs = [.str a] ∧ Q (.str a) H) gStrA := by
  intro C hC F U μ H h W vs xs Q l r o
  unfold gStrA at o
  split at o
  · rename_i a
    obtain ⟨v, rfl, rv⟩ := slRs1 r
    cases rv
    exact .inr ⟨a, rfl, o.here l (.str _)⟩
  · exact .inl (cd_str C hC F U μ H h W vs _ Q l r o)
end Pv

/-! QH: a call whose arguments are data runs in a world of its own; what it gives may be looked up. -/
namespace Pv
open PySem PySem.Spec PyProof.Rows L2

def lookT (ds : List PD) : List (List PD × PD) → Option PD
  | [] => none
  | p :: r => if pdEqs ds p.1 then some p.2 else lookT ds r
def mRun (m : Fm) (xs : List Sl) (h : AH) : Res Sl := match m xs [] with
  | .ok x _ => (match x with
    | .dat d => .ok (.dat d) h
    | _ => .no)
  | .exc c fs _ => .exc c fs h
  | .no => .no
def mHid (m : Fm) (tb : List (List PD × PD)) : Fm := fun xs h => match datas xs with
  | some ds => (match lookT ds tb with
    | some r => .ok (.dat r) h
    | none => mRun m xs h)
  | none => m xs h
/-- the table tells what m gives -/
def TbOk (m : Fm) (tb : List (List PD × PD)) : Prop := ∀ p ∈ tb, ∃ h', m (p.1.map .dat) [] = .ok (.dat p.2) h'
theorem tb_nil {m : Fm} : TbOk m [] := fun _ h => absurd h (by simp)
def isRes (r : Res Sl) (d : PD) : Bool := match r with
  | .ok x _ => (match x with
    | .dat d' => pdEq d' d
    | _ => false)
  | _ => false
theorem tb_cons {m : Fm} {tb : List (List PD × PD)} {ds : List PD} {r : PD} [Fed] (h : isRes (m (ds.map .dat) []) r = true) (t : TbOk m tb) : TbOk m ((ds, r) :: tb) := fun p hp => by
  rcases List.mem_cons.mp hp with rfl | hp
  · show ∃ h', m (ds.map .dat) [] = .ok (.dat r) h'
    cases q : m (ds.map .dat) [] with
    | ok x h' =>
      rw [q] at h
      cases x with
      | dat d => exact ⟨h', by rw [pdEq_ok (show pdEq d r = true from h)]⟩
      | _ => cases h
    | exc c fs h' => rw [q] at h; cases h
    | no => rw [q] at h; cases h
  · exact t p hp
theorem datas_map : ∀ {xs : List Sl} {ds : List PD}, datas xs = some ds → xs = ds.map .dat
  | [], ds, e => by cases e; rfl
  | .dat d :: xs, ds, e => by
    unfold datas at e
    split at e
    · rename_i es he
      cases e
      rw [datas_map he]
      rfl
    · cases e
  | .obj _ :: _, _, e => by cases e
  | .scr _ :: _, _, e => by cases e
  | .rep _ :: _, _, e => by cases e
  | .exv _ _ :: _, _, e => by cases e
  | .fnv _ :: _, _, e => by cases e
  | .tpn _ :: _, _, e => by cases e
  | .dcn _ :: _, _, e => by cases e
  | .unk :: _, _, e => by cases e
  | .anyI _ :: _, _, e => by cases e
theorem lookT_ok [Fed] {ds : List PD} : ∀ {tb : List (List PD × PD)} {r : PD}, lookT ds tb = some r → (ds, r) ∈ tb
  | [], _, e => by cases e
  | p :: t, r, e => by
    unfold lookT at e
    split at e
    · rename_i h
      cases e
      rw [pdEqs_ok h]
      exact List.mem_cons_self
    · exact List.mem_cons_of_mem _ (lookT_ok e)
section
variable {K : PySem.W.Frag} {F U H : Hp} {μ : List Addr} {h : AH}
/-- what may change is put beside -/
def ownB : Option HO → Bool
  | some (.own _) => true
  | _ => false
def hidU (μ : List Addr) (U H : Hp) : Hp := fun a => if a ∈ μ ∨ ownB (H a) = true then H a else U a
def bakU (μ : List Addr) (U H U' : Hp) : Hp := fun a => if (a ∈ μ ∨ ownB (H a) = true) ∧ U a = none then none else U' a
theorem hidU_some [Fed] (l : Lk K F U μ H h) {a : Addr} {o : HO} (e : U a = some o) : hidU μ U H a = some o := by
  unfold hidU
  split
  · exact l.uh _ _ e
  · exact e
theorem Lk.hid [Fed] (l : Lk K F U μ H h) : Lk K F (hidU μ U H) [] H [] := by
  refine ⟨fun a o e => hidU_some l (l.fu _ _ e), fun a o e => ?_, List.nodup_nil, rfl, fun a ha => absurd ha (by simp), fun k a o h1 _ => by simp at h1, l.tab, fun b ps z => ?_⟩
  · unfold hidU at e
    split at e
    · exact e
    · exact l.uh _ _ e
  · unfold hidU at z
    split at z
    · rename_i hb
      rcases hb with hb | hb
      · obtain ⟨o, e, n⟩ := l.trk b hb
        rw [e] at z
        exact n.tbl ps (Option.some.inj z)
      · rw [z] at hb
        cases hb
    · exact l.ntb b ps z
theorem Lk.bak [Fed] {F' U' H' : Hp} {μ' : List Addr} {h' : AH} (l : Lk K F U μ H h) (g : Gr F (hidU μ U H) F' U') (l' : Lk K F' U' μ' H' h') : Gr F U F' (bakU μ U H U') ∧ Lk K F' (bakU μ U H U') μ H' h := by
  have some_ : ∀ {a : Addr}, (a ∈ μ ∨ ownB (H a) = true) → ∃ o, H a = some o := fun {a} ha => by
    rcases ha with ha | ha
    · obtain ⟨o, e, _⟩ := l.trk a ha
      exact ⟨o, e⟩
    · cases q : H a with
      | none => rw [q] at ha; cases ha
      | some o => exact ⟨o, rfl⟩
  have keep : ∀ {a : Addr} {o : HO}, (a ∈ μ ∨ ownB (H a) = true) → H a = some o → U' a = some o := fun {a o} ha e => g.u _ _ (by unfold hidU; rw [if_pos ha]; exact e)
  have fno : ∀ {a : Addr}, (a ∈ μ ∨ ownB (H a) = true) → U a = none → F' a = none := fun {a} ha hu => by
    cases q : F' a with
    | none => rfl
    | some o =>
      obtain ⟨o2, e2⟩ := some_ ha
      have e3 := l'.fu _ _ q
      rw [keep ha e2] at e3
      cases e3
      have e4 := l.fu _ _ (g.n a _ (by unfold hidU; rw [if_pos ha]; exact e2) q)
      rw [hu] at e4
      cases e4
  have out : ∀ {a : Addr}, ¬ ((a ∈ μ ∨ ownB (H a) = true) ∧ U a = none) → bakU μ U H U' a = U' a := fun {a} n => by unfold bakU; rw [if_neg n]
  refine ⟨⟨g.f, fun a o e => ?_, fun a o e1 e2 => g.n a o (hidU_some l e1) e2⟩, ⟨fun a o e => ?_, fun a o e => ?_, l.nod, l.len, fun a ha => ?_, fun k a o h1 h2 => ?_, l'.tab, fun b ps z => ?_⟩⟩
  · rw [out (fun z => by rw [z.2] at e; cases e)]
    exact g.u _ _ (hidU_some l e)
  · rw [out (fun z => by rw [fno z.1 z.2] at e; cases e)]
    exact l'.fu _ _ e
  · unfold bakU at e
    split at e
    · cases e
    · exact l'.uh _ _ e
  · obtain ⟨o, e, n⟩ := l.trk a ha
    exact ⟨o, l'.uh _ _ (keep (.inl ha) e), n⟩
  · have ha := List.mem_of_getElem? h1
    obtain ⟨o2, e2, _⟩ := l.trk a ha
    exact (l.obj k a o h1 h2).mono g.f (fun hu => by unfold bakU; rw [if_pos ⟨.inl ha, hu⟩]) (fun _ => by rw [e2]; exact l'.uh _ _ (keep (.inl ha) e2)) fun d ed => l'.uh _ _ (keep (.inr (by rw [ed]; rfl)) ed)
  · unfold bakU at z
    split at z
    · cases z
    · exact l'.ntb b ps z
end
theorem sls_dat [Fed] {K : PySem.W.Frag} {F : Hp} {μ μ' : List Addr} : ∀ {vs : List V} {ds : List PD}, SlRs K F μ vs (ds.map .dat) → SlRs K F μ' vs (ds.map .dat)
  | _, [], r => by
    cases r
    exact .nil
  | _, d :: ds, r => by
    rw [List.map_cons] at r ⊢
    cases r with
    | cons a b => exact .cons a (sls_dat b)
theorem spV_hid [Fed] {C : Cn} {m : Fm} {tb : List (List PD × PD)} (ht : TbOk m tb) {vs : List V} {H : Hp} {Q : VK} {E : XK} (s : spV C (mHid m tb) vs H Q E) : spV C m vs H Q E := by
  obtain ⟨F, U, μ, h, xs, l, r, o⟩ := s
  unfold mHid at o
  cases hd : datas xs with
  | none =>
    rw [hd] at o
    exact ⟨F, U, μ, h, xs, l, r, o⟩
  | some ds =>
    rw [hd] at o
    have ex := datas_map hd
    subst ex
    have okc : ∀ (d : PD) (h' : AH), m (ds.map .dat) [] = .ok (.dat d) h' → Out C F U μ E (rSl C.K) Q (.ok (.dat d) h) → spV C m vs H Q E := fun d h' e oo => by
      refine ⟨F, hidU μ U H, [], [], _, l.hid, sls_dat r, ?_⟩
      rw [e]
      intro b F' U' μ' H' g p l' rb
      obtain ⟨g2, l2⟩ := l.bak g l'
      exact oo b F' _ μ H' g2 (List.prefix_refl _) l2 rb
    cases hl : lookT ds tb with
    | some rr =>
      simp only [hl] at o
      obtain ⟨h', e⟩ := ht _ (lookT_ok hl)
      exact okc rr h' e o
    | none =>
      simp only [hl] at o
      unfold mRun at o
      cases e : m (ds.map .dat) [] with
      | no => rw [e] at o; exact o.elim
      | ok x h' =>
        rw [e] at o
        cases x with
        | dat d => exact okc d h' e o
        | _ => exact o.elim
      | exc c fs h' =>
        rw [e] at o
        refine ⟨F, hidU μ U H, [], [], _, l.hid, sls_dat r, ?_⟩
        rw [e]
        intro cls d F' U' μ' H' g p l' er
        obtain ⟨g2, l2⟩ := l.bak g l'
        exact o cls d F' _ μ H' g2 (List.prefix_refl _) l2 er
theorem FnV.hid [Fed] {P : Program} {w : World} {K : PySem.W.Frag} {mg : Str → Option Value} {base : Heap} {C : Cn} {k : Nat} {f : Addr} {fd : FuncData} {ps : List Str} {m : Fm} {tb : List (List PD × PD)} (V : FnV P w K mg base C k f fd ps m) (ht : TbOk m tb) : FnV P w K mg base C k f fd ps (mHid m tb) :=
  ⟨fun A outer s H args us vs Q E hr hg e0 hb hl r hs => V.run A outer s H args us vs Q E hr hg e0 hb hl r (spV_hid ht hs)⟩
end Pv

/-! QI: texts walked, range downwards. -/
namespace Pv
open PySem PySem.Spec PyProof.Rows L2
def chars (y : Str) : List PD := y.cps.toList.map fun c => .str ⟨#[c]⟩
def iSeqS (ta : Ex) : Ix := fun env h => (ta env h).bind fun x h1 => match x with
  | .dat (.list ds) => .ok ds h1
  | .dat (.tuple ds) => .ok ds h1
  | .dat (.str y) => .ok (chars y) h1
  | .scr ns => .ok (ns.map PyData.int) h1
  | _ => .no
theorem itR_str [Fed] {K : PySem.W.Frag} {F : Hp} {y : Str} : ItR K F (Its y) (chars y) := fun F' U' μ' H' h' g l i => by
  have hl : (chars y).length = y.cps.size := by unfold chars; simp
  refine ⟨fun d hd => ?_, fun e => by rw [hl] at e; exact Nat.le_of_eq e.symm⟩
  have hi : i < y.cps.size := by rw [← hl]; exact (List.getElem?_eq_some_iff.mp hd).1
  refine ⟨hi, fun x H2 z => ?_⟩
  obtain ⟨e, c, hc, rfl⟩ := z
  subst e
  refine ⟨F', U', Gr.refl, l, ?_⟩
  have : d = .str ⟨#[c]⟩ := by
    unfold chars at hd
    rw [List.getElem?_map, Array.getElem?_toList, hc] at hd
    exact (Option.some.inj hd).symm
  subst this
  exact .str _
theorem pi_seqS [Fed] {X : Cx} {tg e : Expr} {te : TE} (he : PE X e te) : PI X tg e (fun σ H R => te σ H fun x H1 => (∃ a, x = .ref a ∧ ((∃ xs, SqL X.K H1 a xs ∧ R (Itl X.K a) H1) ∨ ∃ xs, SqT X.K H1 a xs ∧ R (Itt X.K a) H1)) ∨ ∃ y, x = .str y ∧ R (Its y) H1) := by
  refine ⟨fun pins s σ H R I h => ?_⟩
  refine thn (he.run pins s σ H _ I h) fun v s1 ⟨x, H1, I1, r1, q1⟩ => ?_
  rcases q1 with ⟨a, e1, q1⟩ | ⟨y, e1, q⟩
  · subst e1
    obtain rfl : v = Value.ref a := r1
    rcases q1 with ⟨xs, hq, q⟩ | ⟨xs, hq, q⟩
    · obtain ⟨its, rv, p, hz⟩ := I1.list hq
      refine wpAny_pyIter_list p.isList ⟨s1.heap.objs.size, [s1.heap.objs.size], _, _, H1, rfl, I1.kept (t' := s1.toks) fun b o e => Heap.get?_push_of_some _ e, turn_list a _, ⟨_, Heap.get?_push_size _ rfl, rfl, rfl⟩, fun b hb => ?_, q⟩
      obtain rfl : b = s1.heap.objs.size := by simpa using hb
      exact I1.fpOk (Nat.le_refl _) (I1.hok.fresh (Nat.le_refl _))
    · obtain ⟨its, rv, p, hz⟩ := I1.tuple hq
      refine wpAny_pyIter_tuple (show s1.heap.IsTuple a its.toArray from p) ⟨s1.heap.objs.size, [s1.heap.objs.size], _, _, H1, rfl, I1.kept (t' := s1.toks) fun b o e => Heap.get?_push_of_some _ e, turn_tuple a _, ⟨_, Heap.get?_push_size _ rfl, rfl, rfl⟩, fun b hb => ?_, q⟩
      obtain rfl : b = s1.heap.objs.size := by simpa using hb
      exact I1.fpOk (Nat.le_refl _) (I1.hok.fresh (Nat.le_refl _))
  · subst e1
    obtain ⟨t, rfl⟩ := r1
    cases ha : y.cps.all (· < 128) with
    | false => exact wpAny_pyIter_wide ha (pi_one (tk := s1.toks) I1 _ (turn_str _ y t "str_iterator" (.inr rfl)) ⟨_, Heap.get?_push_size _ rfl, rfl, rfl⟩ q)
    | true => exact wpAny_pyIter_ascii ha (pi_one (tk := s1.toks) I1 _ (turn_str _ y t "str_ascii_iterator" (.inl rfl)) ⟨_, Heap.get?_push_size _ rfl, rfl, rfl⟩ q)
def dwnD (lo : Int) (n : Nat) : List PD := (List.range n).map fun i => .int (lo + (i : Nat) * (-1))
theorem itR_dwn [Fed] {K : PySem.W.Frag} {F : Hp} {lo : Int} {n : Nat} : ItR K F (Itc lo (-1) n) (dwnD lo n) := fun F' U' μ' H' h' g l i => by
  have hl : (dwnD lo n).length = n := by unfold dwnD; simp
  refine ⟨fun d hd => ?_, fun e => by rw [hl] at e; exact Nat.le_of_eq e.symm⟩
  have hi : i < n := by rw [← hl]; exact (List.getElem?_eq_some_iff.mp hd).1
  refine ⟨hi, fun x H2 y => ?_⟩
  obtain ⟨e, rfl⟩ := y
  subst e
  refine ⟨F', U', Gr.refl, l, ?_⟩
  have : d = .int (lo + (i : Nat) * (-1)) := by
    unfold dwnD at hd
    rw [List.getElem?_map, List.getElem?_range hi] at hd
    exact (Option.some.inj hd).symm
  subst this
  exact .int _
def iDown (ta : Ax) : Ix := fun env h => (ta env h).bind fun xs h1 => match xs with
  | [.dat (.int i), .dat (.int j), .dat (.int k)] => if rngOk i && (rngOk j && decide (k = -1)) then .ok (dwnD i (i - j).toNat) h1 else .no
  | _ => .no
section
variable {C : Cn} {Wx : XK} {X : Cx} {e e2 e3 tg : Expr} {ta tb : Ex} {tr : Ax} {pos p tpos : Pos}
theorem si_seqS [Fed] (ha : SE C Wx X e ta) (hK : X.K = C.K := by rfl) : SI C Wx X tg e (iSeqS ta) := ⟨pi_imp (pi_seqS ha.pe) fun σ H Q q => by
  obtain ⟨F, U, μ, env, h, l, ev, o⟩ := q
  refine rd_step l ev o fun x vx F1 U1 μ1 H1 h1 g1 p1 l1 r1 e1 o1 => ?_
  rw [hK]
  split at o1
  · cases r1 with
    | lst s d => exact .inl ⟨_, rfl, .inl ⟨_, .inl (.inl (l1.fh _ _ s)), o1.it l1 (itR_list (.inl (.inl s)) d)⟩⟩
  · cases r1 with
    | tup s d => exact .inl ⟨_, rfl, .inr ⟨_, sqT_mono l1.fh s, o1.it l1 (itR_tup s d)⟩⟩
  · cases r1
    exact .inr ⟨_, rfl, o1.it l1 itR_str⟩
  · obtain ⟨a, rfl, s⟩ := r1
    exact .inl ⟨a, rfl, .inl ⟨_, l1.fh.seq s, o1.it l1 (itR_list s (RDs.ints _))⟩⟩
  · exact o1.elim⟩
theorem slRs3 [Fed] {K : PySem.W.Frag} {F : Hp} {μ : List Addr} {vs : List V} {x y z : Sl} (r : SlRs K F μ vs [x, y, z]) : ∃ u v w, vs = [u, v, w] ∧ SlR K F μ u x ∧ SlR K F μ v y ∧ SlR K F μ w z := by
  cases r with
  | cons a b =>
    cases b with
    | cons b c =>
      cases c with
      | cons c d =>
        cases d
        exact ⟨_, _, _, rfl, a, b, c⟩
theorem si_down [Fed] (hg : Gl X "range") (hm : X.mg "range" = none) (ha : SA C Wx X [e, e2, e3] tr) (hs : starEach [e, e2, e3] X.env = (false, eval e X.env) :: starEach [e2, e3] X.env := by rfl) (hpl : (backTo pos (starEach [e2, e3] X.env)).any (·.1) = false := by rfl) :
    SI C Wx X tg (.Call (.Name "range" p) [e, e2, e3] [] pos) (iDown tr) := ⟨pi_imp (pi_range3 hg hm ha.pa hs hpl) fun σ H Q q => by
  obtain ⟨F, U, μ, env, h, l, ev, o⟩ := q
  refine rd_step l ev o fun x vx F1 U1 μ1 H1 h1 g1 p1 l1 r1 e1 o1 => ?_
  split at o1
  · obtain ⟨v, w, z, rfl, rv, rw', rz⟩ := slRs3 r1
    cases rv
    cases rw'
    cases rz
    split at o1
    · rename_i hz
      simp only [Bool.and_eq_true, decide_eq_true_eq] at hz
      obtain ⟨z1, z2, z3⟩ := hz
      have a1 := rngOk_iff z1
      have a2 := rngOk_iff z2
      subst z3
      exact ⟨_, _, _, _, rfl, RgC.neg a1.1 a1.2 a2.1 a2.2, o1.it l1 itR_dwn⟩
    · exact o1.elim
  · exact o1.elim⟩
end
end Pv

/-! QJ: xs.count(y) of data; defs called within an except suite; defs held by a name. -/
namespace Pv
open PySem PySem.Spec PyProof.Rows L2
/-! ### xs.count(y) -/
section
variable {X : Cx}
def rCntD (K : PySem.W.Frag) : V → List V → Hp → VK → Prop := fun x xs H Q => ∃ (a : Addr) (y : V) (d : PyData) (ds : List PyData), x = V.ref a ∧ xs = [y] ∧ Dp K H (V.ref a) (.list ds) ∧ Dp K H y d ∧ SeqAt.shaped (.list ds) = true ∧ SeqAt.shaped d = true ∧ Q (.int (ds.countP fun z => PyData.eqv z d : Nat)) H
theorem mt_cntD (hu : X.A.units + 65 < cLine) : MtR X "list.count" (rCntD X.K) := by
  intro pins s σ H x xs v us Q I rx rxs h
  obtain ⟨a, y, d, ds, rfl, rfl, hl, hy, sl, sd, q⟩ := h
  cases rx
  obtain ⟨uy, rfl, ry⟩ := rxs.one
  obtain ⟨bs, r1⟩ := Dp.reads I d y uy hy ry
  have lay : PyData.canLayAll0 ds = true := SeqAt.canLay_of_shaped sl
  cases hl with
  | lst hs ha =>
    obtain ⟨its, rv, ⟨⟨cls, dd, data, sls⟩, n, ho, hc, hdn, hdt⟩, hlen⟩ := I.list hs
    simp only at hc hdt
    subst hc hdt
    obtain ⟨as, h4⟩ := Dp.readsAll I ds _ its ha rv
    have hmap : its.map (SeqAt.readOf s.heap) = ds := SeqAt.readsAll_map ds its as lay h4
    refine call_meets PySem.F.slot_list_count ⟨_, ho, rfl⟩ PySem.F.entry_list_count (PySem.F.args_list_count_2 _ _)
      (SeqAt.list_countAt a its.toArray n dd sls uy (fun u => PyData.eqv (SeqAt.readOf s.heap u) d)) ⟨ho, SeqAt.items_eqAt (vs := its.toArray) (show ReadsAll s.heap its.toArray.toList ds as from h4) r1 lay (SeqAt.canLay_of_shaped sd) (room_in_shaped sd hu), ?_⟩
    have ec : its.toArray.toList.countP (fun u => PyData.eqv (SeqAt.readOf s.heap u) d) = ds.countP fun z => PyData.eqv z d := by
      rw [← hmap, List.countP_map]
      rfl
    refine ⟨.int ((ds.countP fun z => PyData.eqv z d : Nat)), H, I.tok _, ⟨s.toks, ?_⟩, q⟩
    show Value.int ((its.toArray.toList.countP (fun u => PyData.eqv (SeqAt.readOf s.heap u) d) : Nat) : Int) s.toks = _
    rw [ec]
end
def cntF (d : PD) : List PD → Nat
  | [] => 0
  | x :: xs => if eqvF x d then cntF d xs + 1 else cntF d xs
theorem cntF_eq (d : PD) : ∀ ds : List PD, cntF d ds = ds.countP fun z => PyData.eqv z d
  | [] => rfl
  | x :: xs => by
    unfold cntF
    rw [List.countP_cons, cntF_eq d xs, eqvF_eq]
    split <;> rfl
def cCntD (to : Ex) (ta : Ax) : Ex := fun env h => (to env h).bind fun x h1 => match vw x h1 with
  | some (.list _) => (ta env h1).bind fun xs h2 => match xs with
    | [y] => match vw x h2, vw y h2 with
      | some (.list ds), some d => if SeqAt.shaped (.list ds) && SeqAt.shaped d then .ok (.dat (.int (cntF d ds : Nat))) h2 else .no
      | _, _ => .no
    | _ => .no
  | _ => .no
section
variable {C : Cn} {Wx : XK} {X : Cx} {o e : Expr} {to te : Ex} {tr : Ax} {apos cpos : Pos}
theorem se_cntD [Fed] (hu : X.A.units + 65 < cLine) (ho : SE C Wx X o to) (ha : SA C Wx X [e] tr) (hK : X.K = C.K := by rfl)
    (hbase : attributeBase o "count" X.env (eval o X.env) = eval o X.env := by rfl)
    (hfew : ((backTo cpos (starEach [e] X.env)).all (fun x => !x.1) && (backToKw cpos (keywordEach [] X.env)).all (fun x => x.1.isSome)
      && decide (([e] : List Expr).length + ([] : List Keyword).length + (if ([] : List Keyword).isEmpty then 0 else 1) < 30)) = true := by rfl)
    (hline : (apos.endLine == cpos.line) = true := by rfl) (hs : starEach [e] X.env = (false, eval e X.env) :: starEach [] X.env := by rfl) (hplain : (backTo cpos (starEach [] X.env)).any (·.1) = false := by rfl) :
    SE C Wx X (.Call (.Attribute o "count" apos) [e] [] cpos) (cCntD to tr) := ⟨pe_imp (pe_bm PySem.F.plainAttrs_list PySem.F.slot_list_count rfl (mt_cntD hu) ho.pe ha.pa hbase hfew hline hs hplain) fun σ H Q q => by
  obtain ⟨F, U, μ, env, h, l, ev, o⟩ := q
  refine rd_step l ev o fun x vx F1 U1 μ1 H1 h1 g1 p1 l1 r1 e1 o1 => ?_
  split at o1
  · rename_i ds0 hv
    rw [hK]
    have hty : tyV C.K "list" vx H1 := by
      cases vw_ok l1 r1 hv with
      | lst s d => exact .inl ⟨rfl, _, s⟩
    refine ⟨hty, ?_⟩
    refine rd_step l1 e1 o1 fun ys vs F2 U2 μ2 H2 h2 g2 p2 l2 r2 e2 o2 => ?_
    split at o2
    · rename_i y
      obtain ⟨v, rfl, rv⟩ := slRs1 r2
      split at o2
      · rename_i ds d hc2 hd2
        split at o2
        · rename_i hsh
          rw [Bool.and_eq_true] at hsh
          have wd := vw_ok l2 rv hd2
          cases vw_ok l2 (r1.mono g2.f p2) hc2 with
          | lst s dd =>
            rw [cntF_eq] at o2
            exact ⟨_, v, d, ds, rfl, rfl, (VwR.lst s dd).dp l2.fh (SeqAt.canLay_of_shaped hsh.1), wd.dp l2.fh (SeqAt.canLay_of_shaped hsh.2), hsh.1, hsh.2, o2.here l2 (.int _)⟩
        · exact o2.elim
      · exact o2.elim
    · exact o2.elim
  · exact o1.elim⟩
end
/-! ### a def that is called while an error is handled -/
abbrev RoomH := L2H.RoomH
theorem roomH_mk {k : Nat} {A : Around} (r : Room k A) (b : Option Value) : RoomH k (A.mark b) := ⟨r.dp, r.un⟩
theorem ruH1 {k : Nat} {A : Around} (r : RoomH k A) : A.units + 1 < cLine := by have := r.un; omega
theorem ruH64 {k : Nat} {A : Around} (r : RoomH k A) : A.units + 64 < cLine := by have := r.un; omega
theorem ruH65 {k : Nat} {A : Around} (r : RoomH k A) : A.units + 65 < cLine := by have := r.un; omega
theorem ruH66 {k : Nat} {A : Around} (r : RoomH k A) : A.units + 66 < cLine := by have := r.un; omega
/-- the context of such a def's body -/
def cxW (CX : CXT) (P : Program) (w : World) (K : PySem.W.Frag) (mg : Str → Option Value) (base : Heap) (N : List Str) (qual : Str) (scope : Scope) (f : Addr) (cd : Value) (A : Around) (outer : List Env) (s : Shared) (H : Hp) (E : XK) : Cx :=
  { cxOf CX P w K mg base N qual scope f cd A outer s H E with calm := false }
structure FnH [Fed] (P : Program) (w : World) (K : PySem.W.Frag) (mg : Str → Option Value) (base : Heap) (C : Cn) (k : Nat) (f : Addr) (fd : FuncData) (ps : List Str) (m : Fm) : Prop where
  run : ∀ (A : Around) (outer : List Env) (s : Shared) (H : Hp) (args : Args) (us : List Value) (vs : List V) (Q : VK) (E : XK), RoomH k A → A.guards = some [] → Env0 P w K mg base A outer s H → BindsTo s fd args (ps.zip us) → us.length = ps.length → Vals vs us → spV C m vs H Q E →
    codeAny (model P w) A (.call (.ref f) args) (CR (CX P w) outer P w H s Q E) s
section
variable {P : Program} {w : World} {K : PySem.W.Frag} {mg : Str → Option Value} {base : Heap} {C : Cn}
theorem inv_startW {CX : CXT} {N ps : List Str} {qual : Str} {scope : Scope} {f : Addr} {cd : Value} {A : Around} {outer : List Env} {s s1 : Shared} {H : Hp} {E : XK} {us : List Value} {vs : List V}
    (S : FnScope N ps scope) (e0 : Env0 P w K mg base A outer s H) (hl : vs.length = ps.length) (r : Vals vs us)
    (x : InCallC s s.heap.objs.size (bindL (envOfC qual scope s.heap.objs.size f cd).kindOf (ps.zip us) fun _ => none) (cellsFrom (s.heap.objs.size + 1) scope.names []) (bindC (envOfC qual scope s.heap.objs.size f cd).kindOf (ps.zip us) fun _ => none) s1) :
    L2.Inv (cxW CX P w K mg base N qual scope f cd A outer s H E) [] (L2.start N vs) H s1 := by
  have e1 : Env0 P w K mg base { A with handled := none } outer s H := { frames := e0.frames, mod := e0.mod, bs := e0.bs, bsz := e0.bsz, funs := e0.funs, frf := e0.frf, hok := e0.hok, bare := e0.bare }
  have I := inv_start (CX := CX) (E := E) (A := { A with handled := none }) S rfl e1 hl r x
  have ok := I.ok
  have okc : Cx.Ok (cxW CX P w K mg base N qual scope f cd A outer s H E) := ⟨ok.mod, ok.kind, ok.glob, ok.blt, ok.above, ok.inj, ok.has, ok.cab, fun z => Bool.noConfusion (show false = true from z), Around.frames_deeper e0.frames, ok.stk, ok.exf, ok.bs, ok.bsz, ok.noex, ok.exfs, ok.funs, ok.frf⟩
  exact ⟨okc, I.os, I.bare, I.base, I.loc, I.cell, I.free, I.freeC, I.pin, I.hok, I.len⟩
theorem FnH.of [Fed] {x qual : Str} {params : Arguments} {body : List Stmt} {scope : Scope} {dvs : List V} {kws : List (Str × V)} {f : Addr} {fd : FuncData} {N ps : List Str} {k : Nat} {t : Sx} {c : Bool} (F : FunD K x qual params body scope dvs kws f fd) (S : FnScope N ps scope)
    (hbody : ∀ (cdv : Value) (A : Around) (outer : List Env) (s : Shared) (H : Hp) (E : XK), RoomH k (A.deeper (envOfC qual scope s.heap.objs.size f cdv)) → (A.deeper (envOfC qual scope s.heap.objs.size f cdv)).guards = some [] →
      SB C E (cxW (CX P w) P w K mg base N qual scope f cdv A outer s H E) body t) : FnH P w K mg base C (k + 1) f fd ps (mFn c (N.length - ps.length) t) := by
  obtain ⟨oc, od, dV, kV, doc, pm, an, cdv, ct, osl, rfl, lk, hcd, _, _⟩ := F.ex
  refine ⟨fun A outer s H args us vs Q E hr hg e0 hb hul r hsp => ?_⟩
  obtain ⟨F0, U0, μ, h, xs, l, rx, o⟩ := hsp
  have hl : vs.length = ps.length := r.length.trans hul
  have KX : K.In s.heap := e0.mod.kin.keeps fun b o e => (e0.bs b o e).1
  have lim : s.heap.NoLimit := e0.mod.nolimit.keeps fun b o e => (e0.bs b o e).1
  refine codeAny_call_function hr.depth (KX _ _ lk) rfl S.co S.gen rfl (PySem.W.codeRec_of KX hcd) (hb _ _ _ _ (wpAny_newFunctionEnv_cells S.kind (fun ⟨n, v⟩ hy => (S.par n (List.of_mem_zip hy).1).imp id fun q => ⟨q, PySem.W.cellsFrom_some _ _ _ (.inl q)⟩) fun env he s1 x => ?_))
  subst he
  refine ⟨lim.keeps x.toInCall.keep, codeAny_func ?_⟩
  have I := inv_startW (CX := CX P w) (E := E) S e0 hl r x
  have ht := hbody cdv A outer s H E (hr.deeper _) (by rw [show (A.deeper (envOfC qual scope s.heap.objs.size f cdv)).guards = A.guards from rfl]; exact hg)
  have q : rdS C E t { nx := fun _ H' => Q .non H', rt := Q } (L2.start N vs) H := by
    unfold mFn at o
    rw [pre_eq, show N.length - ps.length = N.length - xs.length by rw [← rx.len, hl]] at o
    refine ⟨F0, U0, μ, _, h, l, evR_start rx, o.bind0 fun fl b F1 U1 μ1 H1 h1 g1 p1 l1 r1 o1 => ?_⟩
    obtain ⟨μ2, hp, _, l2⟩ := Lk.cutO c l p1 l1
    cases fl with
    | nx env' =>
      cases b with
      | nx σ' =>
        have o2 : Out C F0 U0 μ E (rSl C.K) Q (nxO c h h1) := o1
        rw [nxO_eq] at o2
        exact o2 .non F1 U1 μ2 H1 g1 hp l2 RD.non
      | _ => exact r1.elim
    | rt x =>
      cases b with
      | rt v =>
        have o2 : Out C F0 U0 μ E (rSl C.K) Q (retO c x h h1) := o1
        have r2 : SlR C.K F1 μ1 v x := r1
        cases c with
        | false => exact o2 v F1 U1 μ1 H1 g1 p1 l1 r2
        | true =>
          cases x with
          | obj k =>
            obtain ⟨a, ha, rfl⟩ := r2
            exact o2 _ F1 U1 _ H1 g1 p1 l1 ⟨a, ha, rfl⟩
          | dat d => exact o2 v F1 U1 μ2 H1 g1 hp l2 r2
          | scr ns => exact o2 v F1 U1 μ2 H1 g1 hp l2 r2
          | rep d => exact o2 v F1 U1 μ2 H1 g1 hp l2 r2
          | exv _ _ => exact o2 v F1 U1 μ2 H1 g1 hp l2 r2
          | fnv _ => exact o2 v F1 U1 μ2 H1 g1 hp l2 r2
          | tpn _ => exact o2 v F1 U1 μ2 H1 g1 hp l2 r2
          | dcn _ => exact o2 v F1 U1 μ2 H1 g1 hp l2 r2
          | unk => exact o2 v F1 U1 μ2 H1 g1 hp l2 r2
          | anyI _ => exact o2 v F1 U1 μ2 H1 g1 hp l2 r2
      | _ => exact r1.elim
    | bk env' => exact (show False from o1).elim
    | ct env' => exact (show False from o1).elim
  show wpAny (model P w) (A.deeper (envOfC qual scope s.heap.objs.size f cdv)) (execs body (envOfC qual scope s.heap.objs.size f cdv)) _ _ _
  refine wpAny_mono (ht.pss.run [] s1 (L2.start N vs) H _ I q) (fun fl s' hs => ?_) fun e s' hs => hs
  cases fl with
  | ret u =>
    obtain ⟨v, σ', H', J, rv, q⟩ := hs
    exact ⟨v, H', J.os, J.bare, J.base, J.hok, rv, q⟩
  | next =>
    obtain ⟨σ', H', J, q⟩ := hs
    exact ⟨.non, H', J.os, J.bare, J.base, J.hok, rfl, q⟩
  | brk =>
    obtain ⟨_, _, _, z⟩ := hs
    exact False.elim z
  | cont =>
    obtain ⟨_, _, _, z⟩ := hs
    exact False.elim z
end
section
variable {X : Cx} {C : Cn} {Wx : XK} {k n : Nat} {f : Addr} {fd : FuncData} {ps : List Str} {m : Fm} {x : Str} {p pos : Pos} {e : Expr} {es : List Expr} {tr : Ax}
/-- f(e, ..) within an except suite; all parameters are written by position -/
theorem se_callH [Fed] (Fv : FnH X.prog X.w X.K X.mg X.base C k f fd ps m) (hr : RoomH k X.A) (hg : X.A.guards = some []) (hx : Passes (CX X.prog X.w) X Wx) (hgl : Gl X x) (hm : X.mg x = some (.ref f)) (hk : PySem.W.keepIn X.K (.ref f) = true) (hb : Binds X.K fd ps []) (hn : ps.length = n)
    (ha : SA C Wx X (e :: es) tr) (hdb : (x == ("__debug__" : Str)) = false := by decide) (he : starEach (e :: es) X.env = (false, eval e X.env) :: starEach es X.env := by rfl) (hpl : (backTo pos (starEach es X.env)).any (·.1) = false := by rfl) :
    SE C Wx X (.Call (.Name x p) (e :: es) [] pos) (cCallP m n tr) := by
  refine ⟨⟨fun pins s σ H Q I q => ?_⟩⟩
  obtain ⟨F, U, μ, env, h, l, ev, o⟩ := q
  refine wpAny_Call_Name_kw (ld_glob I hgl hm ?_ hdb)
  refine PySem.W.callWith_K (h₀ := X.base) I.ok.mod.kin hk (thn (ha.pa.run pos pins s σ H (fun vs H1 => ∃ F1 U1 μ1 xs h1, Lk C.K F1 U1 μ1 H1 h1 ∧ SlRs C.K F1 μ1 vs xs ∧ xs.length = n ∧ Out C F1 U1 μ1 Wx (rSl C.K) Q (m xs h1)) I ?_) fun us s1 ⟨vs, H1, I1, r, F1, U1, μ1, xs, h1, l1, rx, hxn, o1⟩ => ⟨I1.kIn, ?_⟩) he hpl
  · refine rd_step l ev o fun xs vs F1 U1 μ1 H1 h1 g1 p1 l1 r1 e1 o1 => ?_
    have o2 : Out C F1 U1 μ1 Wx (rSl C.K) Q (if Nat.beq xs.length n = true then m xs h1 else .no) := o1
    split at o2
    · rename_i hc
      exact ⟨F1, U1, μ1, xs, h1, l1, r1, Nat.eq_of_beq_eq_true hc, o2⟩
    · exact o2.elim
  · have hlen : us.length = ps.length := by rw [← r.length, rx.len, hxn, hn]
    have hbb := hb s1 us I1.kIn (by rw [List.append_nil]; exact hlen)
    rw [List.append_nil] at hbb
    refine wpAny_call (codeAny_mono (Fv.run X.A X.stack s1 H1 ⟨us, []⟩ us vs Q Wx hr hg I1.env0 hbb hlen r ⟨F1, U1, μ1, h1, xs, l1, rx, o1⟩) fun r' s' hq => ?_)
    cases r' with
    | error e => exact hx pins σ H1 s1 e s' I1 hq
    | ok fl =>
      cases fl with
      | ret u => exact I1.after hq
      | _ => exact False.elim hq
/-- a def as a value -/
def cFnv (i : Nat) : Ex := fun _ h => .ok (.fnv i) h
theorem se_fnv [Fed] (i : Nat) {A : Addr} (hA : Fed.fa C.K i = A) (hgl : Gl X x) (hm : X.mg x = some (.ref A)) (hd : (x == ("__debug__" : Str)) = false := by decide) : SE C Wx X (.Name x pos) (cFnv i) := ⟨pe_imp (pe_glob (v := .ref A) hgl hm rfl hd) fun σ H Q q => by
  obtain ⟨F, U, μ, env, h, l, ev, o⟩ := q
  exact o.here l (show V.ref A = .ref (Fed.fa C.K i) by rw [hA])⟩
end
/-! ### a def held by a name is called -/
def cCallV (i : Nat) (tb : List (Option Fm)) (n : Nat) (tr : Ax) : Ex := fun env h => match nth env i with
  | some (some x) => (match x with
    | .fnv j => (match nthA tb j with
      | some (some m) => (tr env h).bind fun xs h1 => if Nat.beq xs.length n then m xs h1 else .no
      | _ => .no)
    | _ => .no)
  | _ => .no
structure OneV [Fed] (X : Cx) (C : Cn) (k n : Nat) (j : Nat) (m : Fm) : Prop where
  ex : ∃ (fd : FuncData) (ps : List Str), FnV X.prog X.w X.K X.mg X.base C k (Fed.fa C.K j) fd ps m ∧ PySem.W.keepIn X.K (.ref (Fed.fa C.K j)) = true ∧ Binds X.K fd ps [] ∧ ps.length = n
def TabV [Fed] (X : Cx) (C : Cn) (k n : Nat) (tb : List (Option Fm)) : Prop := ∀ j m, nthA tb j = some (some m) → OneV X C k n j m
theorem tv_of [Fed] {X : Cx} {C : Cn} {k n : Nat} : ∀ {tb : List (Option Fm)} {j0 : Nat}, (∀ j m, nthA tb j = some (some m) → OneV X C k n (j0 + j) m) → j0 = 0 → TabV X C k n tb := fun h e j m q => by
  have := h j m q
  rw [e, Nat.zero_add] at this
  exact this
theorem tv_nil [Fed] {X : Cx} {C : Cn} {k n : Nat} (j0 : Nat) : ∀ j m, nthA ([] : List (Option Fm)) j = some (some m) → OneV X C k n (j0 + j) m := fun j m h => by cases j <;> cases h
theorem tv_skip [Fed] {X : Cx} {C : Cn} {k n j0 : Nat} {tb : List (Option Fm)} (h : ∀ j m, nthA tb j = some (some m) → OneV X C k n (j0 + 1 + j) m) : ∀ j m, nthA (none :: tb) j = some (some m) → OneV X C k n (j0 + j) m := fun j m q => by
  cases j with
  | zero => cases q
  | succ j =>
    have := h j m q
    rwa [show j0 + 1 + j = j0 + (j + 1) by omega] at this
theorem tv_cons [Fed] {X : Cx} {C : Cn} {k n j0 : Nat} {tb : List (Option Fm)} {f : Addr} {fd : FuncData} {ps : List Str} {m0 : Fm} (hA : Fed.fa C.K j0 = f) (V : FnV X.prog X.w X.K X.mg X.base C k f fd ps m0) (hk : PySem.W.keepIn X.K (.ref f) = true) (hb : Binds X.K fd ps []) (hn : ps.length = n)
    (h : ∀ j m, nthA tb j = some (some m) → OneV X C k n (j0 + 1 + j) m) : ∀ j m, nthA (some m0 :: tb) j = some (some m) → OneV X C k n (j0 + j) m := fun j m q => by
  cases j with
  | zero =>
    cases q
    subst hA
    exact ⟨fd, ps, V, hk, hb, hn⟩
  | succ j =>
    have := h j m q
    rwa [show j0 + 1 + j = j0 + (j + 1) by omega] at this
theorem FnV.mono [Fed] {P : Program} {w : World} {K : PySem.W.Frag} {mg : Str → Option Value} {base : Heap} {C : Cn} {j k : Nat} {f : Addr} {fd : FuncData} {ps : List Str} {m : Fm} (V : FnV P w K mg base C j f fd ps m) (h : j ≤ k) : FnV P w K mg base C k f fd ps m :=
  ⟨fun A outer s H args us vs Q E hr => V.run A outer s H args us vs Q E (hr.mono h)⟩
section
variable {X : Cx} {C : Cn} {Wx : XK} {k n : Nat} {x : Str} {p pos : Pos} {e : Expr} {es : List Expr} {tr : Ax} {tb : List (Option Fm)}
theorem se_callV [Fed] (i : Nat) (T : TabV X C k n tb) (hr : Room k X.A) (hg : X.A.guards = some []) (hx : Passes (CX X.prog X.w) X Wx) (ha : SA C Wx X (e :: es) tr) (hN : X.N[i]? = some x := by rfl) (hv : Vis X.env.scope x := by first | exact Or.inl rfl | exact Or.inr (Or.inl rfl) | exact Or.inr (Or.inr rfl)) (hd : (x == ("__debug__" : Str)) = false := by decide)
    (hcd : (x == ("__classdict__" : Str)) = false := by decide) (he : starEach (e :: es) X.env = (false, eval e X.env) :: starEach es X.env := by rfl) (hpl : (backTo pos (starEach es X.env)).any (·.1) = false := by rfl) :
    SE C Wx X (.Call (.Name x p) (e :: es) [] pos) (cCallV i tb n tr) := by
  refine ⟨⟨fun pins s σ H Q I q => ?_⟩⟩
  obtain ⟨F, U, μ, env, h, l, ev, o⟩ := q
  unfold cCallV at o
  rw [nth_eq] at o
  split at o
  · rename_i x0 hx0
    obtain ⟨v0, hs, hv0⟩ := ev.2 i x0 hx0
    split at o
    · rename_i j
      have hv0 : v0 = .ref (Fed.fa C.K j) := hv0
      subst hv0
      split at o
      · rename_i m hm
        obtain ⟨fd, ps, Fv, hk, hb, hn⟩ := (T j m hm).ex
        refine wpAny_Call_Name_kw (thn ((pe_var (pos := p) (i := i) hN hv hd hcd).run pins s σ H (fun v H1 => v = .ref (Fed.fa C.K j) ∧ H1 = H) I ⟨_, hs, rfl, rfl⟩) fun u s1 ⟨v, H1, I1, r1, e1, e2⟩ => ?_)
        subst e1 e2
        obtain rfl : u = Value.ref (Fed.fa C.K j) := r1
        refine PySem.W.callWith_K (h₀ := X.base) I1.ok.mod.kin hk (thn (ha.pa.run pos pins s1 σ H1 (fun vs H2 => ∃ F1 U1 μ1 xs h1, Lk C.K F1 U1 μ1 H2 h1 ∧ SlRs C.K F1 μ1 vs xs ∧ xs.length = n ∧ Out C F1 U1 μ1 Wx (rSl C.K) Q (m xs h1)) I1 ?_) fun us s2 ⟨vs, H2, I2, r, F1, U1, μ1, xs, h1, l1, rx, hxn, o1⟩ => ⟨I2.kIn, ?_⟩) he hpl
        · refine rd_step l ev o fun xs vs F1 U1 μ1 H1 h1 g1 p1 l1 r1 e1 o1 => ?_
          have o2 : Out C F1 U1 μ1 Wx (rSl C.K) Q (if Nat.beq xs.length n = true then m xs h1 else .no) := o1
          split at o2
          · rename_i hc
            exact ⟨F1, U1, μ1, xs, h1, l1, r1, Nat.eq_of_beq_eq_true hc, o2⟩
          · exact o2.elim
        · have hlen : us.length = ps.length := by rw [← r.length, rx.len, hxn, hn]
          have hbb := hb s2 us I2.kIn (by rw [List.append_nil]; exact hlen)
          rw [List.append_nil] at hbb
          refine wpAny_call (codeAny_mono (Fv.run X.A X.stack s2 H2 ⟨us, []⟩ us vs Q Wx hr hg I2.env0 hbb hlen r ⟨F1, U1, μ1, h1, xs, l1, rx, o1⟩) fun r' s' hq => ?_)
          cases r' with
          | error e => exact hx pins σ H2 s2 e s' I2 hq
          | ok fl =>
            cases fl with
            | ret u => exact I2.after hq
            | _ => exact False.elim hq
      · exact o.elim
    · exact o.elim
  · exact o.elim
end
end Pv

/-! QK: sum of a tuple. -/
namespace Pv
open PySem PySem.Spec PyProof.Rows L2
def rSumA (K : PySem.W.Frag) : List V → Hp → VK → Prop := fun vs H Q => ∃ (a : Addr) (ns : List Int), vs = [V.ref a] ∧ (SqL K H a (ns.map V.int) ∨ SqT K H a (ns.map V.int)) ∧ Q (.int ns.sum) H
theorem cr_sumA {X : Cx} (hc : X.calm = true) : CallR X (.builtin "sum") (rSumA X.K) := by
  intro pins s σ H vs us Q I r h
  obtain ⟨a, ns, rfl, hs, q⟩ := h
  rw [Vals.ref1 r]
  rcases hs with hs | hs
  · obtain ⟨its, rv, hl, _⟩ := I.list hs
    exact sum_raw (I.ok.hd hc) hl.isList rv.ints fun h' tk t' hk => ⟨.int _, H, I.kept hk, ⟨_, rfl⟩, q⟩
  · obtain ⟨its, rv, ⟨⟨cls, dd, data, sls⟩, ho, hcl, nn, hd⟩, _⟩ := I.tuple hs
    simp only at hcl hd
    subst hcl hd
    have hi : IntsAre its ns := rv.ints
    have hl : s.heap.IsTuple a its.toArray := ⟨_, ho, rfl, nn, rfl⟩
    obtain ⟨xs, hx⟩ := hi.allInts.items
    have hn : numsOf its.toArray.toList = ns := by rw [show its.toArray.toList = its from rfl, hi.numsOf]
    rw [hx] at hl hn
    rw [nums_intItems] at hn
    refine PySem.W.ktm_sumG (I.ok.hd hc) hl fun h' tk t' hk => ?_
    rw [preSum_eq, List.take_of_length_le (by simp), hn]
    exact ⟨.int _, H, I.kept hk, ⟨_, rfl⟩, q⟩
def gSumA : GC
  | [x], h => match vw x h with
    | some (.list ds) => match intsOf ds with
      | some bs => .ok (.dat (.int bs.sum)) h
      | none => .no
    | some (.tuple ds) => match intsOf ds with
      | some bs => .ok (.dat (.int bs.sum)) h
      | none => .no
    | _ => .no
  | _, _ => .no
theorem cd_sumA [Fed] {K : PySem.W.Frag} : CallD K (rSumA K) gSumA := by
  intro C hC F U μ H h W vs xs Q l r o
  subst hC
  unfold gSumA at o
  split at o
  · obtain ⟨v, rfl, rv⟩ := slRs1 r
    split at o
    · rename_i ds e
      split at o
      · rename_i bs eb
        cases vw_ok l rv e with
        | lst s d =>
          rw [ints_ok d eb] at s
          exact ⟨_, bs, rfl, .inl s, o.here l (.int _)⟩
      · exact o.elim
    · rename_i ds e
      split at o
      · rename_i bs eb
        cases vw_ok l rv e with
        | tup s d =>
          rw [ints_ok d eb] at s
          exact ⟨_, bs, rfl, .inr s, o.here l (.int _)⟩
      · exact o.elim
    · exact o.elim
  · exact o.elim
end Pv

/-! QL: x, y = a, b where a name is read by an inner scope. -/
namespace Pv
open PySem PySem.Spec PyProof.Rows L2
section
variable {C : Cn} {Wx : XK} {X : Cx} {tr : Ax} {pos : Pos}
theorem ss_parC [Fed] (i j : Nat) {x y : Str} {a b : Expr} {px py pt : Pos} {kt k2 pt2} (ha : SA C Wx X [a, b] tr) (hg : PG X (.Tuple [.Name x px, .Name y py] kt pt) ((Tgt.tup [.nm i, .nm j]).rd X.K))
    (hK : X.K = C.K := by rfl) (hs : swapsWithSole [.Tuple [.Name x px, .Name y py] kt pt] (.Tuple [a, b] k2 pt2) pos.line X.env = pure false := by rfl) (hw : swappedStores [.Tuple [.Name x px, .Name y py] kt pt] (.Tuple [a, b] k2 pt2) X.env = pure none := by rfl)
    (h1 : (assignEach [.Tuple [.Name x px, .Name y py] kt pt] X.env).map (·.2) = [assign (.Tuple [.Name x px, .Name y py] kt pt) X.env] := by rfl) :
    SS C Wx X (.Assign [.Tuple [.Name x px, .Name y py] kt pt] (.Tuple [a, b] k2 pt2) pos) (sPar i j tr) := ⟨ps_imp (ps_asg (pe_tup ha.pa) hg hs hw h1) fun D σ H q => by
  obtain ⟨F, U, μ, env, h, l, ev, o⟩ := q
  refine rd_step l ev o fun xs vs F1 U1 μ1 H1 h1 g1 p1 l1 r1 e1 o1 => ?_
  split at o1
  · obtain ⟨v, w, rfl, rv, rw'⟩ := slRs2 r1
    refine ⟨by show 2 ≤ _; decide, fun p hp => ?_⟩
    obtain ⟨g2, l2⟩ := l1.new (o := .tup [v, w]) hp
    refine .inl ⟨p, [v, w], rfl, .inl (.inl upd_same), rfl, ⟨_, _, rfl, ⟨_, _, rfl, ⟨rfl, ?_⟩⟩⟩⟩
    have o2 := o1.mono g2 (List.prefix_refl _)
    exact o2.nxt l2 (((e1.mono g2.f (List.prefix_refl _)).set (rv.mono g2.f (List.prefix_refl _))).set (rw'.mono g2.f (List.prefix_refl _)))
  · exact o1.elim⟩
end
end Pv

/-! QM: f-strings of texts and ints. -/
namespace Pv
open PySem PySem.Spec PyProof.Rows L2
def cFmt (te : Ex) : Ex := fun env h => (te env h).bind fun x h1 => match x with
  | .dat (.str y) => if y.length ≤ sizeLine then .ok (.dat (.str y)) h1 else .no
  | .dat (.int i) => if i.natAbs.log2 < 1920 then .ok (.dat (.str (toString i))) h1 else .no
  | _ => .no
def cJs : List Ex → Str → Ex
  | [], acc => fun _ h => .ok (.dat (.str acc)) h
  | t :: ts, acc => fun env h => (t env h).bind fun x h1 => match x with
    | .dat (.str y) => if (acc ++ y).length ≤ sizeLine then cJs ts (acc ++ y) env h1 else .no
    | _ => .no
section
variable {C : Cn} {Wx : XK} {X : Cx} {e : Expr} {te : Ex} {pos : Pos}
theorem se_fmt [Fed] (he : SE C Wx X e te) : SE C Wx X (.FormattedValue e (-1) none pos) (cFmt te) := ⟨pe_imp (pe_fmt he.pe) fun σ H Q q => by
  obtain ⟨F, U, μ, env, h, l, ev, o⟩ := q
  refine rd_step l ev o fun x vx F1 U1 μ1 H1 h1 g1 p1 l1 r1 e1 o1 => ?_
  split at o1
  · rename_i y
    cases r1
    split at o1
    · rename_i hz
      exact .inl ⟨y, rfl, hz, o1.here l1 (.str _)⟩
    · exact o1.elim
  · rename_i i
    cases r1
    split at o1
    · rename_i hz
      exact .inr ⟨i, rfl, hz, o1.here l1 (.str _)⟩
    · exact o1.elim
  · exact o1.elim⟩
structure SJ [Fed] (C : Cn) (Wx : XK) (X : Cx) (es : List Expr) (ts : List Ex) : Prop where
  pj : PJ X es (ts.map (rdE C Wx))
theorem sj_nil [Fed] : SJ C Wx X [] [] := ⟨.nil⟩
theorem sj_cons [Fed] {es : List Expr} {ts : List Ex} (h : SE C Wx X e te) (r : SJ C Wx X es ts) : SJ C Wx X (e :: es) (te :: ts) := ⟨.cons h.pe r.pj⟩
theorem js_ok [Fed] : ∀ (ts : List Ex) (acc : Str) (σ : L2.St) (H : Hp) (Q : VK), rdE C Wx (cJs ts acc) σ H Q → tJs (ts.map (rdE C Wx)) acc σ H fun out H1 => Q (.str out) H1
  | [], acc, σ, H, Q, q => by
    obtain ⟨F, U, μ, env, h, l, ev, o⟩ := q
    exact o.here l (.str _)
  | t :: ts, acc, σ, H, Q, q => by
    obtain ⟨F, U, μ, env, h, l, ev, o⟩ := q
    refine rd_step l ev o fun x vx F1 U1 μ1 H1 h1 g1 p1 l1 r1 e1 o1 => ?_
    split at o1
    · rename_i y
      cases r1
      split at o1
      · rename_i hz
        exact ⟨y, rfl, hz, js_ok ts _ σ H1 Q ⟨F1, U1, μ1, env, h1, l1, e1, o1⟩⟩
      · exact o1.elim
    · exact o1.elim
theorem se_joined [Fed] {v1 v2 : Expr} {rest : List Expr} {ts : List Ex} (h : SJ C Wx X (v1 :: v2 :: rest) ts) : SE C Wx X (.JoinedStr (v1 :: v2 :: rest) pos) (cJs ts Str.empty) := ⟨pe_imp (pe_joined h.pj) fun σ H Q q => js_ok ts _ σ H Q q⟩
theorem se_joined1 [Fed] (he : SE C Wx X e te) : SE C Wx X (.JoinedStr [e] pos) te := ⟨pe_joined1 he.pe⟩
end
end Pv

/-! QN: a text times an int. -/
namespace Pv
open PySem PySem.Spec PyProof.Rows L2
def rMulS : R2 := fun x y H Q => ∃ (a : Str) (k : Int), x = .str a ∧ y = .int k ∧ a.length ≤ 16 ∧ -(2 ^ 62) ≤ k ∧ k ≤ 1048576 ∧ Q (.str (Txt.mul a k)) H
theorem op_mulS {X : Cx} : OpR X (binaryOp .Mult) rMulS := by
  intro pins s σ H x y v u Q I rx ry h
  obtain ⟨a, k, rfl, rfl, h1, h2, h3, q⟩ := h
  obtain ⟨t, rfl⟩ := rx
  obtain ⟨t', rfl⟩ := ry
  exact PySem.W.KXi.mul rfl h1 (by omega) (by omega) fun t' k' _ _ => ⟨.str _, H, I.tok _, ⟨_, rfl⟩, q⟩
def gMulS : G2
  | .dat (.str a), .dat (.int k), h => if a.length ≤ 16 ∧ -(2 ^ 62) ≤ k ∧ k ≤ 1048576 then .ok (.dat (.str (Txt.mul a k))) h else .no
  | _, _, _ => .no
theorem od_mulS [Fed] {K : PySem.W.Frag} : OpD K rMulS gMulS := by
  intro C hC F U μ H h W x y a b Q l ra rb o
  subst hC
  unfold gMulS at o
  split at o
  · split at o
    · rename_i hz
      cases ra
      cases rb
      exact ⟨_, _, rfl, rfl, hz.1, hz.2.1, hz.2.2, o.here l (.str _)⟩
    · exact o.elim
  · exact o.elim
def gMulB (ob : Bool) : G2 := fun a b h => match a with
  | .dat (.str s) => gMulS (.dat (.str s)) b h
  | a => gMul ob a b h
def rMulB (K : PySem.W.Frag) : R2 := fun x y H Q => rMulS x y H Q ∨ rMul3 K x y H Q
theorem or_mulB [Fed] {X : Cx} : OpR X (binaryOp .Mult) (rMulB X.K) := OpR.or op_mulS or_mul
theorem od_mulB [Fed] {K : PySem.W.Frag} {ob : Bool} : OpD K (rMulB K) (gMulB ob) := by
  intro C hC F U μ H h W x y a b Q l ra rb o
  unfold gMulB at o
  split at o
  · exact .inl (od_mulS C hC F U μ H h W x y _ b Q l ra rb o)
  · exact .inr (od_mul C hC F U μ H h W x y _ b Q l ra rb o)
end Pv

/-! QO: texts cut, indexed; a sign in a text. -/
namespace Pv
open PySem PySem.Spec PyProof.Rows L2
/-! ### z[lo:hi] -/
def cSlT (ta : Ex) (tl th : Px) : Ex := fun env h => (ta env h).bind fun x h1 => (tl env h1).bind fun lo h2 => (th env h2).bind fun hi h3 => match x with
  | .dat (.str z) => if z.length ≤ sizeLine then .ok (.dat (.str (cutS z lo hi))) h3 else .no
  | _ => .no
def cSlA (ob : Bool) (ta : Ex) (tl th : Px) : Ex := fun env h => match ta env h with
  | .ok (.dat (.str _)) _ => cSlT ta tl th env h
  | _ => cSl ob ta tl th env h
section
variable {C : Cn} {Wx : XK} {X : Cx} {a b : Expr} {lo hi : Option Expr} {ta tb : Ex} {tl th : Px} {pos p2 : Pos}
theorem se_slT [Fed] (ha : SE C Wx X a ta) (hl : SO C Wx X lo tl) (hh : SO C Wx X hi th) : SE C Wx X (.Subscript a (.Slice lo hi none p2) pos) (cSlT ta tl th) :=
  ⟨pe_imp (pe_slice sl_str ha.pe hl.po hh.po) fun σ H Q q => by
    obtain ⟨F, U, μ, env, h, l, e, o⟩ := q
    refine rd_step l e o fun x vx F1 U1 μ1 H1 h1 g1 p1 l1 r1 e1 o1 => rd_step l1 e1 o1 fun lo lo' F2 U2 μ2 H2 h2 g2 p2 l2 r2 e2 o2 => rd_step l2 e2 o2 fun hi hi' F3 U3 μ3 H3 h3 g3 p3 l3 r3 e3 o3 => ?_
    cases r2
    cases r3
    split at o3
    · cases r1
      split at o3
      · rename_i hz
        exact ⟨_, rfl, hz, o3.here l3 (.str _)⟩
      · exact o3.elim
    · exact o3.elim⟩
theorem se_slA [Fed] (ob : Bool) (ha : SE C Wx X a ta) (hl : SO C Wx X lo tl) (hh : SO C Wx X hi th) (hK : X.K = C.K := by rfl) : SE C Wx X (.Subscript a (.Slice lo hi none p2) pos) (cSlA ob ta tl th) :=
  ⟨pe_either (se_slT ha hl hh).pe (se_sl ob ha hl hh hK).pe fun σ H Q q => by
    obtain ⟨F, U, μ, env, h, l, ev, o⟩ := q
    unfold cSlA at o
    split at o
    · exact .inl ⟨F, U, μ, env, h, l, ev, o⟩
    · exact .inr ⟨F, U, μ, env, h, l, ev, o⟩⟩
/-! ### z[i] -/
def gIxS : G2
  | .dat (.str z), .dat (.int i), h => if z.length ≤ sizeLine then (match atI z.cps.toList i with
    | some c => .ok (.dat (.str ⟨#[c]⟩)) h
    | none => .no) else .no
  | _, _, _ => .no
theorem od_ixS [Fed] {K : PySem.W.Frag} : OpD K rIxS gIxS := by
  intro C hC F U μ H h W x y a b Q l ra rb o
  subst hC
  unfold gIxS at o
  split at o
  · cases ra
    cases rb
    split at o
    · rename_i hz
      split at o
      · rename_i c hc
        exact ⟨_, _, c, rfl, rfl, hz, hc, o.here l (.str _)⟩
      · exact o.elim
    · exact o.elim
  · exact o.elim
def gIxB : G2 := fun a b h => match a with
  | .dat (.str z) => gIxS (.dat (.str z)) b h
  | a => gIx a b h
def rIxB (K : PySem.W.Frag) : R2 := fun x y H Q => rIxS x y H Q ∨ rIx2 K x y H Q
theorem od_ixB [Fed] {K : PySem.W.Frag} : OpD K (rIxB K) gIxB := by
  intro C hC F U μ H h W x y a b Q l ra rb o
  unfold gIxB at o
  split at o
  · exact .inl (od_ixS C hC F U μ H h W x y _ b Q l ra rb o)
  · exact .inr (od_ix C hC F U μ H h W x y _ b Q l ra rb o)
theorem se_ixB [Fed] (ha : SE C Wx X a ta) (hb : SE C Wx X b tb) (hK : X.K = C.K := by rfl) (hs : PlainIx b := by exact fun _ _ => rfl) : SE C Wx X (.Subscript a b pos) (cBin gIxB ta tb) :=
  ⟨pe_imp (pe_ix (IxR.or ix_str (IxR.or ix_list ix_tup)) ha.pe hb.pe hs) fun _ _ _ q => by rw [hK]; exact rd_bin od_ixB q⟩
end
/-! ### a sign in a text -/
def rInG (neg : Bool) : R2 := fun x y H Q => ∃ (c : Nat) (z : Str), x = .str ⟨#[c]⟩ ∧ y = .str z ∧ Q (.bl (neg ^^ decide (c ∈ z.cps.toList))) H
def gInG (neg : Bool) : G2
  | .dat (.str x), .dat (.str z), h => match x.cps.toList with
    | [c] => .ok (.dat (.bool (neg ^^ z.cps.toList.any (Nat.beq c)))) h
    | _ => .no
  | _, _, _ => .no
theorem op_inG {X : Cx} : OpR X (compareOp .In) (rInG false) := by
  intro pins s σ H x y v u Q I rx ry h
  obtain ⟨c, z, e1, e2, q⟩ := h
  exact op_in_sign pins s σ H x y v u Q I rx ry ⟨c, z, e1, e2, by simpa using q⟩
theorem op_notInG {X : Cx} : OpR X (compareOp .NotIn) (rInG true) := by
  intro pins s σ H x y v u Q I rx ry h
  obtain ⟨c, z, e1, e2, q⟩ := h
  exact op_notIn_sign pins s σ H x y v u Q I rx ry ⟨c, z, e1, e2, by simpa using q⟩
theorem any_beq (c : Nat) : ∀ l : List Nat, l.any (Nat.beq c) = decide (c ∈ l)
  | [] => by simp
  | x :: l => by
    rw [List.any_cons, any_beq c l]
    by_cases h : c = x
    · subst h
      simp [Nat.beq_refl]
    · have hb : Nat.beq c x = false := by
        cases z : Nat.beq c x with
        | false => rfl
        | true => exact absurd (Nat.eq_of_beq_eq_true z) h
      simp [hb, h]
theorem od_inG [Fed] {K : PySem.W.Frag} {neg : Bool} : OpD K (rInG neg) (gInG neg) := by
  intro C hC F U μ H h W x y a b Q l ra rb o
  subst hC
  unfold gInG at o
  split at o
  · rename_i x z
    cases ra
    cases rb
    split at o
    · rename_i c hc
      rw [any_beq] at o
      have ex : x = ⟨#[c]⟩ := by
        cases x
        rename_i cps
        have : cps = #[c] := by
          apply Array.toList_inj.mp
          simpa using hc
        rw [this]
      subst ex
      exact ⟨c, z, rfl, rfl, o.here l (.bl _)⟩
    · exact o.elim
  · exact o.elim
def gInB (neg : Bool) : G2 := fun a b h => match b with
  | .dat (.str z) => gInG neg a (.dat (.str z)) h
  | b => gIn neg a b h
def rInB2 (K : PySem.W.Frag) (neg : Bool) : R2 := fun x y H Q => rInG neg x y H Q ∨ rInS K neg x y H Q
theorem od_inB [Fed] {K : PySem.W.Frag} {neg : Bool} : OpD K (rInB2 K neg) (gInB neg) := by
  intro C hC F U μ H h W x y a b Q l ra rb o
  unfold gInB at o
  split at o
  · exact .inl (od_inG C hC F U μ H h W x y a _ Q l ra rb o)
  · exact .inr (od_in C hC F U μ H h W x y a _ Q l ra rb o)
theorem or_inB [Fed] {X : Cx} (hu : X.A.units + 65 < cLine) : OpR X (compareOp .In) (rInB2 X.K false) := OpR.or op_inG (or_in hu)
theorem or_notInB [Fed] {X : Cx} (hu : X.A.units + 65 < cLine) : OpR X (compareOp .NotIn) (rInB2 X.K true) := OpR.or op_notInG (or_notIn hu)
end Pv

/-! QP: a def that is never reached (the end of a recursion). -/
namespace Pv
open PySem PySem.Spec PyProof.Rows L2
def mNo : Fm := fun _ _ => .no
theorem FnV.none [Fed] {P : Program} {w : World} {K : PySem.W.Frag} {mg : Str → Option Value} {base : Heap} {C : Cn} {k : Nat} {f : Addr} {fd : FuncData} {ps : List Str} : FnV P w K mg base C k f fd ps mNo :=
  ⟨fun A outer s H args us vs Q E hr hg e0 hb hl r hs => by
    obtain ⟨F, U, μ, h, xs, l, rx, o⟩ := hs
    exact o.elim⟩
end Pv

/-! QQ: a list comprehension whose list is changed later; xs[i] = v. -/
namespace Pv
open PySem PySem.Spec PyProof.Rows L2
def lcLO (k : Nat) (tg : Tgt) (tt : Tx) (te : Ex) (vs : List Nat) : List PD → Ev → AH → Res Sl
  | [], _, h => .ok (.obj k) h
  | d :: ds, env, h => match tg.asg d (wipeE env vs) with
    | none => .no
    | some env1 => (strict (tt env1 h)).bind fun b h1 => if b then (strict (te env1 h1)).bind fun x h2 => match x, h2[k]? with
        | .dat y, some (.lst acc) => if acc.length < sizeLine then lcLO k tg tt te vs ds env (h2.set k (.lst (acc ++ [y]))) else .no
        | _, _ => .no
      else lcLO k tg tt te vs ds env h1
def cLcO (it : Ix) (tg : Tgt) (tt : Tx) (te : Ex) (vs : List Nat) : Ex := fun env h => (it env h).bind fun ds h1 => lcLO h1.length tg tt te vs ds env (h1 ++ [.lst []])
section
variable {C : Cn} {Wx : XK} {X : Cx} {elt tg iter : Expr} {ifs : List Expr} {scope : Scope} {own : List (Str × Nat)} {pos spos py : Pos} {it : Ix} {t : Tgt} {tt : Tx} {te : Ex}
def lcInvO [Fed] (C : Cn) (Wx : XK) (F0 U0 : Hp) (μ0 : List Addr) (D : Addr) (Q : VK) (t : Tgt) (tt : Tx) (te : Ex) (vs : List Nat) (env : Ev) (ds : List PD) (i : Nat) (H : Hp) : Prop :=
  ∃ F U μ h, Gr F0 U0 F U ∧ (μ0 ++ [D]) <+: μ ∧ Lk C.K F U μ H h ∧ Out C F0 U0 μ0 Wx (rSl C.K) Q (lcLO μ0.length t tt te vs (ds.drop i) env h)
theorem pre_at {μ0 μ : List Addr} {D : Addr} (p : (μ0 ++ [D]) <+: μ) : μ[μ0.length]? = some D := by
  obtain ⟨r, rfl⟩ := p
  simp
theorem pre_pre {μ0 μ : List Addr} {D : Addr} (p : (μ0 ++ [D]) <+: μ) : μ0 <+: μ := (List.prefix_append _ _).trans p
theorem rd_lcO [Fed] {W1 : XK} {vs : List Nat} (hsl : slotsIn t vs = true) {wi : TI} (hw : ∀ σ H Q, rdG C Wx (rIt C.K) it σ H Q → wi σ H Q) {K : PySem.W.Frag} (hK : K = C.K) {σ : L2.St} {H : Hp} {Q : VK} (q : rdE C Wx (cLcO it t tt te vs) σ H Q) :
    tLc wi (t.rd K) (rdT C W1 tt) (rdE C W1 te) vs σ H Q := by
  obtain ⟨F, U, μ, env, h, l, ev, o⟩ := q
  refine hw _ _ _ (rd_step l ev o fun ds J F0 U0 μ0 H1 h1 g1 p1 l1 r1 e1 o1 => ?_)
  intro D hD
  have l2 := l1.newO (o := .lst []) (a' := .lst []) hD ⟨same_none l1.uh hD, [], upd_same, .nil⟩
  rw [← l1.len] at o1
  refine ⟨fun i m H => m = ds.length - i ∧ i ≤ ds.length ∧ lcInvO C Wx F0 U0 μ0 D Q t tt te vs env ds i H, ⟨_, rfl, Nat.zero_le _, F0, U0, _, _, Gr.refl, List.prefix_refl _, l2, o1⟩, ?_⟩
  rintro i m H ⟨rfl, hi, F2, U2, μ2, h2, mg, mp, ml, o2⟩
  by_cases hlt : i < ds.length
  · obtain ⟨hgo, hy⟩ := (r1 F2 U2 μ2 H h2 mg.f ml i).1 ds[i] (by rw [List.getElem?_eq_getElem hlt])
    rw [drop_at hlt] at o2
    unfold lcLO at o2
    split at o2
    · exact o2.elim
    · rename_i env3 ea
      refine .inr ⟨hgo, lcInvO C Wx F0 U0 μ0 D Q t tt te vs env ds (i + 1), fun H' n => ⟨ds.length - (i + 1), by omega, rfl, hlt, n⟩, fun x H' y => ?_⟩
      obtain ⟨F3, U3, g3, l3, d3⟩ := hy x H' y
      have mg3 := mg.trans g3
      obtain ⟨σ3, e3, w3, q3⟩ := Tgt.rd_ok t l3.fh ((e1.mono mg3.f (pre_pre mp)).wipe vs) d3 ea
      rw [hK]
      refine q3 _ ⟨(w3 vs (slotsIn_iff hsl)).trans (wipe_wipe σ vs vs fun _ z => z), ?_⟩
      refine ⟨F3, U3, μ2, env3, h2, l3, e3, o2.strict fun b b' F4 U4 μ4 H4 h4 g4 p4 l4 rb o4 => ?_⟩
      cases rb
      have mg4 := mg3.trans g4
      have mp4 := mp.trans p4
      cases b with
      | false =>
        rw [if_neg Bool.false_ne_true]
        rw [if_neg Bool.false_ne_true] at o4
        exact ⟨F4, U4, μ4, h4, mg4, mp4, l4, o4⟩
      | true =>
        rw [if_pos rfl]
        rw [if_pos rfl] at o4
        refine ⟨F4, U4, μ4, env3, h4, l4, e3.mono g4.f p4, o4.strict fun x xv F5 U5 μ5 H5 h5 g5 p5 l5 rx o5 => ?_⟩
        have mg5 := mg4.trans g5
        have mp5 := mp4.trans p5
        split at o5
        · rename_i y acc ek
          split at o5
          · rename_i hz
            obtain ⟨hU, ws, hH, hd⟩ := l5.obj _ D _ (pre_at mp5) ek
            exact ⟨ws, hH, by rw [hd.len]; exact hz, F5, U5, μ5, _, mg5, mp5, l5.put (x' := .lst (acc ++ [y])) (pre_at mp5) ek hU ⟨hU, _, upd_same, hd.app (.cons rx .nil)⟩, o5⟩
          · exact o5.elim
        · exact o5.elim
  · have e : i = ds.length := by omega
    subst e
    rw [List.drop_length] at o2
    exact .inl ⟨(r1 F2 U2 μ2 H h2 mg.f ml _).2 rfl, o2 (.ref D) F2 U2 μ2 H mg (pre_pre mp) ml ⟨D, pre_at mp, rfl⟩⟩
theorem se_lcO [Fed] (hN : X.N.Nodup) (hi : SI C Wx X tg iter it) (ok : blkC X.N X.env.scope scope own = true)
    (hg : ∀ (s : Shared) (H : Hp) (C : Addr) (cl : List (Str × Addr)) (fp : List Addr), PG (X.blk s H scope (compEnvC scope cl C X.env) fp) tg (t.rd X.K)) (ht : ∀ (s : Shared) (H : Hp) (A : Addr) (cl : List (Str × Addr)) (fp : List Addr), STs C (fun _ _ _ => False) (X.blk s H scope (compEnvC scope cl A X.env) fp) ifs tt)
    (he : ∀ (s : Shared) (H : Hp) (A : Addr) (cl : List (Str × Addr)) (fp : List Addr), SE C (fun _ _ _ => False) (X.blk s H scope (compEnvC scope cl A X.env) fp) elt te) (hsl : slotsIn t (own.map (·.2)) = true := by rfl) (hc : X.calm = true := by rfl) (hK : X.K = C.K := by rfl) (hs : ∀ x, foldedSetIterable iter X.env x = pure x := by intro _; rfl) :
    SE C Wx X (.ListComp elt [⟨tg, iter, ifs, 0⟩] scope pos) (cLcO it t tt te (own.map (·.2))) :=
  ⟨pe_imp (pe_lc hc hN hi.pi (blkOk_by ok) hg (fun s H A cl fp => (ht s H A cl fp).pts) (fun s H A cl fp => (he s H A cl fp).pe) hs) fun σ H Q q => rd_lcO hsl (fun _ _ _ z => z) hK q⟩
theorem ss_setLcO [Fed] (i : Nat) {y : Str} (hN : X.N.Nodup) (hi : SI C Wx X tg iter it) (ok : blkC X.N X.env.scope scope own = true)
    (hg : ∀ (s : Shared) (H : Hp) (C : Addr) (cl : List (Str × Addr)) (fp : List Addr), PG (X.blk s H scope (compEnvC scope cl C X.env) fp) tg (t.rd X.K)) (ht : ∀ (s : Shared) (H : Hp) (A : Addr) (cl : List (Str × Addr)) (fp : List Addr), STs C (fun _ _ _ => False) (X.blk s H scope (compEnvC scope cl A X.env) fp) ifs tt)
    (he : ∀ (s : Shared) (H : Hp) (A : Addr) (cl : List (Str × Addr)) (fp : List Addr), SE C (fun _ _ _ => False) (X.blk s H scope (compEnvC scope cl A X.env) fp) elt te)
    (hy : X.N[i]? = some y := by rfl) (hyl : X.env.scope.names.lookup y = some .local := by rfl) (hsw : swapsWith (.ListComp elt [⟨tg, iter, ifs, 0⟩] scope pos) (some (.Name y py)) spos.line X.env = pure true := by rfl)
    (hsl : slotsIn t (own.map (·.2)) = true := by rfl) (hc : X.calm = true := by rfl) (hK : X.K = C.K := by rfl) (hs : ∀ x, foldedSetIterable iter X.env x = pure x := by intro _; rfl) :
    SS C Wx X (.Assign [.Name y py] (.ListComp elt [⟨tg, iter, ifs, 0⟩] scope pos) spos) (sSet i (cLcO it t tt te (own.map (·.2)))) :=
  ⟨ps_imp (ps_setLc hc hN hy hyl hsw hi.pi (blkOk_by ok) hg (fun s H A cl fp => (ht s H A cl fp).pts) (fun s H A cl fp => (he s H A cl fp).pe) hs) fun D σ H q => by
    obtain ⟨F, U, μ, env, h, l, ev, o⟩ := q
    refine rd_lcO hsl (fun _ _ _ z => z) hK ?_
    exact rd_step l ev o fun x vx F1 U1 μ1 H1 h1 g1 p1 l1 r1 e1 o1 => o1.nxt l1 (e1.set r1)⟩
end
/-! ### xs[i] = v -/
def setAt (ds : List PD) (i : Int) (d : PD) : Option (List PD) := match ixN ds.length i with
  | some j => some (ds.set j d)
  | none => none
def sPutL (td ty tv : Ex) : Sx := fun env h => (tv env h).bind fun v h1 => (td env h1).bind fun x h2 => (ty env h2).bind fun y h3 => match x, y, v with
  | .obj i, .dat (.int k), .dat d => match h3[i]? with
    | some (.lst ds) => match setAt ds k d with
      | some ds' => .ok (.nx env) (h3.set i (.lst ds'))
      | none => .no
    | _ => .no
  | _, _, _ => .no
theorem RDs.setD [Fed] {K : PySem.W.Frag} {F : Hp} : ∀ {vs : List V} {ds : List PD} {v : V} {d : PD} (j : Nat), RDs K F vs ds → RD K F v d → RDs K F (vs.set j v) (ds.set j d)
  | _, _, _, _, _, .nil, _ => .nil
  | _, _, _, _, 0, .cons _ r, rv => .cons rv r
  | _, _, _, _, j + 1, .cons a r, rv => .cons a (RDs.setD j r rv)
section
variable {C : Cn} {Wx : XK} {X : Cx} {o i value : Expr} {td ty tv : Ex} {pos pos' : Pos}
theorem ss_putL [Fed] (ho : SE C Wx X o td) (hi : SE C Wx X i ty) (hv : SE C Wx X value tv)
    (hs : swapsWithSole [.Subscript o i pos'] value pos.line X.env = pure false := by rfl) (hw : swappedStores [.Subscript o i pos'] value X.env = pure none := by rfl)
    (h1 : (assignEach [.Subscript o i pos'] X.env).map (·.2) = [assign (.Subscript o i pos') X.env] := by rfl)
    (ha : ∀ v, assign (.Subscript o i pos') X.env v = (do
      let ov ← holding [v] (eval o X.env)
      let iv ← holding [v, ov] (eval i X.env)
      standAt pos'
      holding [v, ov, iv] (setItem ov iv v)
      release [v, ov, iv] []) := by intro _; rfl) : SS C Wx X (.Assign [.Subscript o i pos'] value pos) (sPutL td ty tv) :=
  ⟨ps_imp (ps_asg hv.pe (pg_sub ho.pe hi.pe set_list ha) hs hw h1) fun D σ H q => by
    obtain ⟨F, U, μ, env, h, l, ev, o⟩ := q
    refine rd_step l ev o fun v vv F1 U1 μ1 H1 h1 g1 p1 l1 r1 e1 o1 => ?_
    refine rd_step l1 e1 o1 fun x vx F2 U2 μ2 H2 h2 g2 p2 l2 r2 e2 o2 => ?_
    refine rd_step l2 e2 o2 fun y vy F3 U3 μ3 H3 h3 g3 p3 l3 r3 e3 o3 => ?_
    split at o3
    · rename_i i k d
      split at o3
      · rename_i ds eh
        split at o3
        · rename_i ds' es
          obtain ⟨a, ha, rfl⟩ := r2.mono g3.f p3
          obtain ⟨hU, vs, hH, hr⟩ := l3.obj _ a _ ha eh
          cases r3
          have rd : RD C.K F3 vv d := RD.mono g3.f (RD.mono g2.f r1)
          unfold setAt at es
          split at es
          · rename_i j hj
            cases es
            refine ⟨a, vs, k, j, rfl, rfl, hH, by rw [hr.len]; exact hj, ?_⟩
            exact o3.nxt (l3.put ha eh hU ⟨hU, _, upd_same, hr.setD j rd⟩) e3
          · cases es
        · exact o3.elim
      · exact o3.elim
    · exact o3.elim⟩
end
end Pv

/-! QR: tuples that are known to have no dict: t.index(x). -/
namespace Pv
open PySem PySem.Spec PyProof.Rows L2
section
variable {X : Cx} {o e : Expr} {es : List Expr} {to : TE} {t : TA} {name : Str} {apos cpos pos : Pos} {T id : String} {r : V → List V → Hp → VK → Prop}
def tTupN (t : TA) : TE := fun σ H Q => t σ H fun xs H1 => xs.length ≤ sizeLine ∧ ∀ p oe, H1 p = none → oe.dict = none → Q (.ref p) (upd H1 p (.frz oe (.tup xs)))
theorem pe_tupN {x1} (h : PA X es t) : PE X (.Tuple es x1 pos) (tTupN t) := by
  refine ⟨fun pins s σ H Q I hq => ?_⟩
  refine wpAny_Tuple_spliced (thn (h.run pos pins s σ H _ I hq) fun us s1 ⟨xs, H1, I1, r, z, q⟩ => ⟨by rw [← r.length]; exact z, ?_⟩)
  have hf : H1 s1.heap.objs.size = none := I1.hok.fresh (Nat.le_refl _)
  refine ⟨.ref s1.heap.objs.size, upd H1 s1.heap.objs.size (.frz { cls := Value.type "tuple", data := Data.seq us.toArray } (.tup xs)), I1.laid (t' := s1.toks) (fun b u e => Heap.get?_push_of_some _ e) (Nat.le_refl _) ?_, rfl, q _ { cls := Value.type "tuple", data := Data.seq us.toArray } hf rfl⟩
  exact ⟨Heap.get?_push_size _ rfl, z, us, r, ⟨_, Heap.get?_push_size _ rfl, rfl, _, rfl⟩⟩
def tyNd (x : V) (H : Hp) : Prop := ∃ p oe vs, x = .ref p ∧ H p = some (.frz oe (.tup vs)) ∧ oe.dict = none
theorem tyNd_is {pins : List (Addr × Obj)} {σ : L2.St} {H : Hp} {s : Shared} {x : V} {v : Value} (I : Inv X pins σ H s) (r : RelV x v) (ty : tyNd x H) :
    s.TypeIs v "tuple" ∧ ∀ a, v = .ref a → ∃ ob, s.heap.get? a = some ob ∧ ob.dict = none := by
  obtain ⟨p, oe, vs, rfl, hp, hd⟩ := ty
  cases r
  obtain ⟨e, _, its, _, o2, e2, hc, _⟩ := I.hok p _ hp
  rw [e] at e2
  cases e2
  refine ⟨⟨oe, e, hc⟩, fun a z => ?_⟩
  cases z
  exact ⟨oe, e, hd⟩
def tBMN (r : V → List V → Hp → VK → Prop) (to : TE) (t : TA) : TE := fun σ H Q => to σ H fun x H1 => tyNd x H1 ∧ t σ H1 fun xs H2 => r x xs H2 Q
theorem pe_bmN (slot : Slot "tuple" name id) (hty : typeOf (.builtin id) = pure (.type "method_descriptor")) (hm : MtR X id r) (ho : PE X o to) (ha : PA X (e :: es) t)
    (hbase : attributeBase o name X.env (eval o X.env) = eval o X.env := by rfl)
    (hfew : ((backTo cpos (starEach (e :: es) X.env)).all (fun x => !x.1) && (backToKw cpos (keywordEach [] X.env)).all (fun x => x.1.isSome)
      && decide ((e :: es).length + ([] : List Keyword).length + (if ([] : List Keyword).isEmpty then 0 else 1) < 30)) = true := by rfl)
    (hline : (apos.endLine == cpos.line) = true := by rfl) (hs : starEach (e :: es) X.env = (false, eval e X.env) :: starEach es X.env := by rfl) (hplain : (backTo cpos (starEach es X.env)).any (·.1) = false := by rfl) :
    PE X (.Call (.Attribute o name apos) (e :: es) [] cpos) (tBMN r to t) := by
  refine ⟨fun pins s σ H Q I h => ?_⟩
  refine wpAny_Call_method_late hbase hfew hline rfl (thn (ho.run pins s σ H _ I h) fun v s1 ⟨x, H1, I1, r1, ty, q1⟩ => ?_)
  obtain ⟨h1, h2⟩ := tyNd_is I1 r1 ty
  refine ⟨"tuple", id, PySem.F.plainAttrs_tuple, slot, hty, h1, h2, ?_⟩
  have hA := ha.run cpos pins s1 σ H1 _ I1 q1
  rw [hs] at hA ⊢
  refine Calls.callWith_builtin (by show (false || (backTo cpos (starEach es X.env)).any (·.1)) = false; rw [hplain] <;> rfl) (Calls.evalArgs_plain ?_)
  exact thn hA fun us s2 ⟨vs, H2, I2, r2, q2⟩ => hm pins s2 σ H2 x vs v us Q I2 r1 r2 q2
end
def cTupN (ta : Ax) : Ex := fun env h => (ta env h).bind fun xs h1 => match dats xs with
  | some ds => if ds.length ≤ sizeLine then .ok (.tpn ds) h1 else .no
  | none => .no
/-- as data -/
def cUnN (ta : Ex) : Ex := fun env h => (ta env h).bind fun x h1 => match x with
  | .tpn ds => .ok (.dat (.tuple ds)) h1
  | x => .ok x h1
def cIxT (to : Ex) (ta : Ax) : Ex := fun env h => (to env h).bind fun x h1 => match x with
  | .tpn ds => (ta env h1).bind fun xs h2 => match xs with
    | [y] => match vw y h2 with
      | some d => if SeqAt.shaped (.tuple ds) && SeqAt.shaped d then (match ixOf d ds 0 with
          | some j => .ok (.dat (.int (j : Nat))) h2
          | none => .no) else .no
      | _ => .no
    | _ => .no
  | _ => .no
section
variable {C : Cn} {Wx : XK} {X : Cx} {o e : Expr} {es : List Expr} {to te : Ex} {ta tr : Ax} {apos cpos pos : Pos}
theorem se_tupN [Fed] {x1} (ha : SA C Wx X es ta) : SE C Wx X (.Tuple es x1 pos) (cTupN ta) := ⟨pe_imp (pe_tupN ha.pa) fun σ H Q q => by
  obtain ⟨F, U, μ, env, h, l, e, o⟩ := q
  refine rd_step l e o fun x vx F1 U1 μ1 H1 h1 g1 p1 l1 r1 e1 o1 => ?_
  split at o1
  · rename_i ds ed
    have hd := dats_ok r1 ed
    split at o1
    · rename_i hz
      refine ⟨by rw [hd.len]; exact hz, fun p oe hp hn => ?_⟩
      obtain ⟨g, l'⟩ := l1.new (o := .frz oe (.tup vx)) hp
      exact o1 _ _ _ μ1 _ g (List.prefix_refl _) l' ⟨p, oe, vx, rfl, upd_same, hn, hd.mono g.f⟩
    · exact o1.elim
  · exact o1.elim⟩
theorem se_unN [Fed] (ha : SE C Wx X e te) : SE C Wx X e (cUnN te) := ⟨pe_imp ha.pe fun σ H Q q => by
  obtain ⟨F, U, μ, env, h, l, ev, o⟩ := q
  refine rd_step l ev o fun x vx F1 U1 μ1 H1 h1 g1 p1 l1 r1 e1 o1 => ?_
  split at o1
  · obtain ⟨a, oe, vs, rfl, h2, _, h4⟩ := r1
    exact o1.here l1 (RD.tup (.inl (.inr ⟨oe, h2⟩)) h4)
  · exact o1.here l1 r1⟩
theorem se_ixT [Fed] (hu : X.A.units + 65 < cLine) (ho : SE C Wx X o to) (ha : SA C Wx X [e] tr) (hK : X.K = C.K := by rfl)
    (hbase : attributeBase o "index" X.env (eval o X.env) = eval o X.env := by rfl)
    (hfew : ((backTo cpos (starEach [e] X.env)).all (fun x => !x.1) && (backToKw cpos (keywordEach [] X.env)).all (fun x => x.1.isSome)
      && decide (([e] : List Expr).length + ([] : List Keyword).length + (if ([] : List Keyword).isEmpty then 0 else 1) < 30)) = true := by rfl)
    (hline : (apos.endLine == cpos.line) = true := by rfl) (hs : starEach [e] X.env = (false, eval e X.env) :: starEach [] X.env := by rfl) (hplain : (backTo cpos (starEach [] X.env)).any (·.1) = false := by rfl) :
    SE C Wx X (.Call (.Attribute o "index" apos) [e] [] cpos) (cIxT to tr) := ⟨pe_imp (pe_bmN PySem.F.slot_tuple_index PySem.F.type_tuple_index (mt_tupIx hu) ho.pe ha.pa hbase hfew hline hs hplain) fun σ H Q q => by
  obtain ⟨F, U, μ, env, h, l, ev, o⟩ := q
  refine rd_step l ev o fun x vx F1 U1 μ1 H1 h1 g1 p1 l1 r1 e1 o1 => ?_
  split at o1
  · rename_i ds
    obtain ⟨a, oe, us, rfl, h2, h3, h4⟩ := r1
    rw [hK]
    refine ⟨⟨a, oe, us, rfl, l1.fh _ _ h2, h3⟩, ?_⟩
    refine rd_step l1 e1 o1 fun ys vs F2 U2 μ2 H2 h2' g2 p2 l2 r2 e2 o2 => ?_
    split at o2
    · rename_i y
      obtain ⟨v, rfl, rv⟩ := slRs1 r2
      split at o2
      · rename_i d hd2
        split at o2
        · rename_i hsh
          rw [Bool.and_eq_true] at hsh
          split at o2
          · rename_i j hj
            obtain ⟨z, _, z2, z3, z4⟩ := ixOf_ok hj
            have wd := vw_ok l2 rv hd2
            exact ⟨_, v, d, ds, j, z, rfl, rfl, (VwR.tup (.inl (.inr ⟨oe, l2.fh _ _ (g2.f _ _ h2)⟩)) (h4.mono g2.f)).dp l2.fh (SeqAt.canLay_of_shaped hsh.1), wd.dp l2.fh (SeqAt.canLay_of_shaped hsh.2), hsh.1, hsh.2, by simpa using z2, z3, fun m z' hm => z4 m z' (by simpa using hm), o2.here l2 (.int _)⟩
          · exact o2.elim
        · exact o2.elim
      · exact o2.elim
    · exact o2.elim
  · exact o1.elim⟩
end
end Pv

/-! QS: dicts whose keys are tuples of ints, at any depth. -/
namespace Pv
open PySem PySem.Spec PyProof.Rows L2
mutual
theorem nkey_hash (w w' : World) : ∀ (d : PD) {k : NestedKey}, nkey d = some k → k.hash w = k.hash w'
  | .int i, k, h => by simp only [nkey, Option.some.injEq] at h; subst h; rfl
  | .tuple ds, k, h => by
    unfold nkey at h
    split at h
    · rename_i ks e
      cases h
      simp only [NestedKey.hash]
      rw [nkeys_hash w w' ds e]
    · cases h
  | .none, k, h => by simp [nkey] at h
  | .bool _, k, h => by simp [nkey] at h
  | .str _, k, h => by simp [nkey] at h
  | .list _, k, h => by simp [nkey] at h
  | .dict _, k, h => by simp [nkey] at h
theorem nkeys_hash (w w' : World) : ∀ (ds : List PD) {ks : List NestedKey}, nkeys ds = some ks → NestedKey.hashes w ks = NestedKey.hashes w' ks
  | [], ks, h => by simp only [nkeys, Option.some.injEq] at h; subst h; rfl
  | d :: ds, ks, h => by
    unfold nkeys at h
    split at h
    · rename_i k r e1 e2
      cases h
      simp only [NestedKey.hashes]
      rw [nkey_hash w w' d e1, nkeys_hash w w' ds e2]
    · cases h
end
section
variable [Fed] {X : Cx} {pins : List (Addr × Obj)} {σ : L2.St} {F H : Hp} {s : Shared}
mutual
theorem rd_nested (I : Inv X pins σ H s) (e : Same F H) : ∀ (d : PD) {k : NestedKey} {v : V} {u : Value}, nkey d = some k → RD X.K F v d → RelV v u → NestedIs s.heap k u
  | .int i, k, v, u, h, r, ru => by
    simp only [nkey, Option.some.injEq] at h
    subst h
    cases r
    obtain ⟨t, rfl⟩ := ru
    exact .int _ _
  | .tuple ds, k, v, u, h, r, ru => by
    unfold nkey at h
    split at h
    · rename_i ks ek
      cases h
      cases r with
      | tup hq hr =>
        cases ru
        obtain ⟨its, rv, ⟨o, h1, h2, n, h3⟩, _⟩ := I.tuple (sqT_mono e hq)
        exact .tup h1 h2 h3 (by simpa using rds_nested I e ds ek hr rv)
    · cases h
  | .none, k, _, _, h, _, _ => by simp [nkey] at h
  | .bool _, k, _, _, h, _, _ => by simp [nkey] at h
  | .str _, k, _, _, h, _, _ => by simp [nkey] at h
  | .list _, k, _, _, h, _, _ => by simp [nkey] at h
  | .dict _, k, _, _, h, _, _ => by simp [nkey] at h
theorem rds_nested (I : Inv X pins σ H s) (e : Same F H) : ∀ (ds : List PD) {ks : List NestedKey} {vs : List V} {us : List Value}, nkeys ds = some ks → RDs X.K F vs ds → Vals vs us → NestedAll s.heap ks us
  | [], ks, vs, us, h, r, ru => by
    simp only [nkeys, Option.some.injEq] at h
    subst h
    cases r
    cases ru
    exact .nil
  | d :: ds, ks, vs, us, h, r, ru => by
    unfold nkeys at h
    split at h
    · rename_i k r' e1 e2
      cases h
      cases r with
      | cons a b =>
        cases ru with
        | cons c t => exact .cons (rd_nested I e d e1 a c) (rds_nested I e ds e2 b t)
    · cases h
end
end
/-- entries beside the values that they stand for -/
abbrev ReN (L : List (NestedKey × Addr × V)) (xs : List (NestedKey × Addr × Value)) : Prop := Paired (fun (p : NestedKey × Addr × V) (q : NestedKey × Addr × Value) => p.1 = q.1 ∧ p.2.1 = q.2.1 ∧ RelV p.2.2 q.2.2) L xs
theorem reN_keys : ∀ {L : List (NestedKey × Addr × V)} {xs : List (NestedKey × Addr × Value)}, ReN L xs → L.map (·.1) = xs.map (·.1)
  | _, _, .nil => rfl
  | _, _, .cons a b => by rw [List.map_cons, List.map_cons, a.1, reN_keys b]
theorem reN_len : ∀ {L : List (NestedKey × Addr × V)} {xs : List (NestedKey × Addr × Value)}, ReN L xs → L.length = xs.length
  | _, _, .nil => rfl
  | _, _, .cons _ b => congrArg Nat.succ (reN_len b)
theorem RN.len {K : PySem.W.Frag} {F : Hp} : ∀ {L : List (NestedKey × Addr × V)} {kvs : List (PD × PD)}, RN K F L kvs → L.length = kvs.length
  | _, _, .nil => rfl
  | _, _, .cons _ _ _ _ r => congrArg Nat.succ r.len
def hasN (k : NestedKey) : List (PD × PD) → Bool
  | [] => false
  | p :: t => match nkey p.1 with
    | some k' => if NestedKey.beq k' k then true else hasN k t
    | none => hasN k t
def lookN (k : NestedKey) : List (PD × PD) → Option PD
  | [] => none
  | p :: t => match nkey p.1 with
    | some k' => if NestedKey.beq k' k then some p.2 else lookN k t
    | none => lookN k t
def mapN (k : NestedKey) (d : PD) : List (PD × PD) → List (PD × PD)
  | [] => []
  | p :: t => (match nkey p.1 with
    | some k' => if NestedKey.beq k' k then (p.1, d) else p
    | none => p) :: mapN k d t
def putN (kvs : List (PD × PD)) (dk : PD) (k : NestedKey) (d : PD) : List (PD × PD) := if hasN k kvs then mapN k d kvs else kvs ++ [(dk, d)]
def storeL (L : List (NestedKey × Addr × V)) (k : NestedKey) (a : Addr) (v : V) : List (NestedKey × Addr × V) :=
  if (L.any fun p => decide (p.1 = k)) then L.map (fun p => if p.1 = k then (p.1, p.2.1, v) else p) else L ++ [(k, a, v)]
theorem beq_dec (a b : NestedKey) : NestedKey.beq a b = decide (a = b) := (NestedKey.decide_eq a b).symm
section
variable {K : PySem.W.Frag} {F : Hp} {L : List (NestedKey × Addr × V)} {xs : List (NestedKey × Addr × Value)} {kvs : List (PD × PD)} {k : NestedKey}
theorem hasN_ok (r : RN K F L kvs) : hasN k kvs = L.any fun p => decide (p.1 = k) := by
  induction r with
  | nil => rfl
  | cons e _ _ _ _ ih =>
    unfold hasN
    simp only [e, beq_dec, List.any_cons, ih]
    split <;> simp_all
theorem any_at (r : ReN L xs) : (L.any fun p => decide (p.1 = k)) = (atKey xs k).isSome := by
  induction r with
  | nil => rfl
  | @cons p q ps qs a b ih =>
    unfold atKey at ih ⊢
    rw [List.any_cons, ih, a.1]
    by_cases e : q.1 = k
    · rw [List.find?_cons_of_pos (by exact decide_eq_true e)]; simp [e]
    · rw [List.find?_cons_of_neg (by simpa using e)]; simp [e]
theorem lookN_ok (r : RN K F L kvs) (p : ReN L xs) : (lookN k kvs = none ∧ (atKey xs k).map (·.2) = none) ∨ ∃ d v u, lookN k kvs = some d ∧ (atKey xs k).map (·.2) = some u ∧ RelV v u ∧ RD K F v d := by
  induction r generalizing xs with
  | nil => cases p; exact .inl ⟨rfl, rfl⟩
  | @cons k' a v dk d L kvs e _ _ hd _ ih =>
    cases p with
    | @cons _ q _ qs h t =>
      have ih := ih t
      unfold lookN
      unfold atKey at ih ⊢
      simp only [e, beq_dec]
      obtain ⟨h1, h2, h3⟩ := h
      simp only at h1 h2 h3
      by_cases c : k' = k
      · rw [List.find?_cons_of_pos (by rw [← h1]; exact decide_eq_true c)]
        exact .inr ⟨d, v, q.2.2, by simp [c], rfl, h3, hd⟩
      · rw [List.find?_cons_of_neg (by rw [← h1]; simpa using c)]
        simpa [c] using ih
theorem RN.mapN (r : RN K F L kvs) {v : V} {d : PD} (rd : RD K F v d) : RN K F (L.map fun p => if p.1 = k then (p.1, p.2.1, v) else p) (Pv.mapN k d kvs) := by
  induction r with
  | nil => exact .nil
  | @cons k' a v' dk d' L kvs e1 e2 e3 e4 _ ih =>
    unfold Pv.mapN
    simp only [e1, beq_dec, List.map_cons]
    by_cases c : k' = k
    · simp only [c, decide_true, if_true]
      exact .cons (by rw [e1, c]) (by rw [← c]; exact e2) e3 rd ih
    · simp only [c, decide_false, if_false, Bool.false_eq_true]
      exact .cons e1 e2 e3 e4 ih
theorem RN.snoc (r : RN K F L kvs) {a : Addr} {v : V} {dk d : PD} (e1 : nkey dk = some k) (e2 : k.depth ≤ 8) (e3 : RD K F (.ref a) dk) (e4 : RD K F v d) : RN K F (L ++ [(k, a, v)]) (kvs ++ [(dk, d)]) := by
  induction r with
  | nil => exact .cons e1 e2 e3 e4 .nil
  | cons a b c d _ ih => exact .cons a b c d ih
theorem RN.put (r : RN K F L kvs) {a : Addr} {v : V} {dk d : PD} (e1 : nkey dk = some k) (e2 : k.depth ≤ 8) (e3 : RD K F (.ref a) dk) (e4 : RD K F v d) : RN K F (storeL L k a v) (putN kvs dk k d) := by
  unfold storeL putN
  rw [hasN_ok r]
  split
  · exact r.mapN e4
  · exact r.snoc e1 e2 e3 e4
theorem reN_map (p : ReN L xs) {v : V} {u : Value} (ru : RelV v u) : ReN (L.map fun p => if p.1 = k then (p.1, p.2.1, v) else p) (xs.map (putAt k u)) := by
  induction p with
  | nil => exact .nil
  | cons h _ ih =>
    obtain ⟨h1, h2, h3⟩ := h
    rw [List.map_cons, List.map_cons]
    refine .cons ?_ ih
    unfold putAt
    rw [← h1, ← h2]
    split
    · exact ⟨rfl, rfl, ru⟩
    · exact ⟨h1, h2, h3⟩
theorem reN_snoc (p : ReN L xs) {a : Addr} {v : V} {u : Value} (ru : RelV v u) : ReN (L ++ [(k, a, v)]) (xs ++ [(k, a, u)]) := by
  induction p with
  | nil => exact .cons ⟨rfl, rfl, ru⟩ .nil
  | cons h _ ih => exact .cons h ih
theorem reN_store (p : ReN L xs) {a : Addr} {v : V} {u : Value} (ru : RelV v u) : ReN (storeL L k a v) (storedH xs k a u) := by
  unfold storeL storedH
  rw [any_at p]
  split
  · exact reN_map p ru
  · exact reN_snoc p ru
theorem storeL_len (L : List (NestedKey × Addr × V)) (k : NestedKey) (a : Addr) (v : V) : (storeL L k a v).length ≤ L.length + 1 := by
  unfold storeL
  split <;> simp
theorem putN_len (kvs : List (PD × PD)) (dk : PD) (k : NestedKey) (d : PD) : True := trivial
end
section
variable [Fed] {X : Cx} {pins : List (Addr × Obj)} {σ : L2.St} {F H : Hp} {s : Shared} {E : Value → Shared → Prop} {a D : Addr} {L : List (NestedKey × Addr × V)} {kvs : List (PD × PD)}
theorem rn_is (I : Inv X pins σ H s) (e : Same F H) (r : RN X.K F L kvs) : ∀ {xs : List (NestedKey × Addr × Value)}, ReN L xs → ∀ x ∈ xs, NestedIs s.heap x.1 (.ref x.2.1) ∧ x.1.depth ≤ 8 := by
  induction r with
  | nil => intro xs p x hx; cases p; cases hx
  | cons e1 e2 e3 e4 _ ih =>
    intro xs p x hx
    cases p with
    | cons h t =>
      rcases List.mem_cons.mp hx with z | z
      · subst z
        obtain ⟨h1, h2, h3⟩ := h
        rw [← h1, ← h2]
        exact ⟨rd_nested I e _ e1 e3 rfl, e2⟩
      · exact ih t x z
theorem rn_hash (w : World) (w' : World) (r : RN X.K F L kvs) : ∀ {xs : List (NestedKey × Addr × Value)}, ReN L xs → ∀ x ∈ xs, x.1.hash w = x.1.hash w' := by
  induction r with
  | nil => intro xs p x hx; cases p; cases hx
  | cons e1 e2 e3 e4 _ ih =>
    intro xs p x hx
    cases p with
    | cons h t =>
      rcases List.mem_cons.mp hx with z | z
      · subst z
        obtain ⟨h1, h2, h3⟩ := h
        rw [← h1]
        exact nkey_hash w w' _ e1
      · exact ih t x z
theorem dn_dict (I : Inv X pins σ H s) (e : Same F H) (hd : DN a L s.heap) (r : RN X.K F L kvs) : L.length ≤ sizeLine ∧ (a == sysModules) = false ∧ ∃ xs, ReN L xs ∧ s.heap.DictOfH (nestedKind X.prog X.w) a xs := by
  obtain ⟨h1, h2, h3, xs, o, es, ep, p, g, ex, da, he⟩ := hd
  exact ⟨h1, h2, xs, p, o, es, ep, g, ex, da, he X.w, fun x hx => rn_is I e r p x hx, by rw [← reN_keys p]; exact h3⟩
theorem dn_of {h' : Heap} {xs : List (NestedKey × Addr × Value)} {prog : Program} {w : World} (hz : L.length ≤ sizeLine) (ha : (a == sysModules) = false) (p : ReN L xs) (hh : ∀ w', ∀ x ∈ xs, x.1.hash w = x.1.hash w') (dd : h'.DictOfH (nestedKind prog w) a xs) : DN a L h' := by
  obtain ⟨o, es, ep, g, ex, da, he, _, nd⟩ := dd
  refine ⟨hz, ha, by rw [reN_keys p]; exact nd, xs, o, es, ep, p, g, ex, da, fun w' => ?_⟩
  rw [he]
  refine List.map_congr_left fun x hx => ?_
  show (⟨x.1.hash w, _, _⟩ : DictEntry) = _
  rw [hh w' x hx]
theorem dn_ok {P : Program} {w : World} {H' : Hp} {h' : Heap} (hd : DN a L h') : ObjOk P w H' h' a (dnO a L) := by
  refine ⟨hd, ?_, fun h1 h2 q k => ?_⟩
  · obtain ⟨_, _, _, _, o, _, _, _, g, _⟩ := hd
    exact ⟨o, g⟩
  · obtain ⟨h1', h2', h3, xs, o, es, ep, p, g, ex, da, he⟩ := q
    exact ⟨h1', h2', h3, xs, o, es, ep, p, k o g, ex, da, he⟩
theorem dn_new {P : Program} {w : World} (h : Heap) (big : sysModules < h.objs.size) : ObjOk P w H (h.push { cls := .type "dict", data := .dict #[] }) h.objs.size (dnO h.objs.size []) := by
  refine dn_ok ⟨Nat.zero_le _, beq_eq_false_iff_ne.mpr (Ne.symm (Nat.ne_of_lt big)), List.nodup_nil, [], _, #[], 0, .nil, Heap.get?_push_size _ rfl, ⟨rfl, rfl, rfl⟩, rfl, fun w => rfl⟩
theorem d_dictSetN {dk d : PD} {k : NestedKey} {b : Addr} {v : V} {u : Value} {Q : Unit → Shared → Prop} (I : Inv X pins σ H s) (e : Same F H) (hu : X.A.units + 8 < cLine) (hD : H D = some (dnO D L)) (r : RN X.K F L kvs) (hz : L.length < sizeLine)
    (e1 : nkey dk = some k) (e2 : k.depth ≤ 8) (e3 : RD X.K F (.ref b) dk) (ru : RelV v u) (h : ∀ s', Inv X pins σ (upd H D (dnO D (storeL L k b v))) s' → Q () s') : wpAny (model X.prog X.w) X.A (dictSet D (.ref b) u) Q E s := by
  obtain ⟨_, ha, xs, p, dd⟩ := dn_dict I e (I.hok D _ hD).1 r
  refine wpAny_dictSet_heap (knd := nestedKind X.prog X.w) (k := k) hu ⟨rd_nested I e dk e1 e3 rfl, e2⟩ dd (fun h' dd' hs => h _ ?_) (hsz := by rw [← reN_len p]; omega)
  have he : ∃ q, h'.get? D = some q := let ⟨q, _, _, hq, _⟩ := dd'; ⟨q, hq⟩
  refine d_write I (by rw [hD]; exact True.intro) hs he (dn_ok (dn_of (prog := X.prog) (w := X.w) (by have := storeL_len L k b v; omega) ha (reN_store p ru) (fun w' x hx => ?_) dd'))
  have ek : x.1 = k ∨ ∃ y ∈ xs, y.1 = x.1 := by
    unfold storedH at hx
    split at hx
    · obtain ⟨y, hy, rfl⟩ := List.mem_map.mp hx
      refine .inr ⟨y, hy, ?_⟩
      unfold putAt
      split <;> rfl
    · rcases List.mem_append.mp hx with hx | hx
      · exact .inr ⟨x, hx, rfl⟩
      · obtain rfl := List.mem_singleton.mp hx
        exact .inl rfl
  rcases ek with z | ⟨y, hy, z⟩
  · rw [z]; exact nkey_hash _ _ _ e1
  · rw [← z]; exact rn_hash _ _ r p y hy
end
end Pv

/-! QT: {k: v for ..}, d.get(k, x), the keys tuples of ints. -/
namespace Pv
open PySem PySem.Spec PyProof.Rows L2
section
variable [Fed] {X : Cx}
/-- one turn's end: what is stored -/
def keepN (K : PySem.W.Frag) (D : Addr) (y z : V) (H5 : Hp) (Nx : Hp → Prop) : Prop := ∃ (F : Hp) (L : List (NestedKey × Addr × V)) (kvs : List (PD × PD)) (b : Addr) (k : NestedKey) (dk : PD), y = .ref b ∧ Same F H5 ∧ H5 D = some (dnO D L) ∧ RN K F L kvs ∧ L.length < sizeLine ∧
  nkey dk = some k ∧ k.depth ≤ 8 ∧ RD K F (.ref b) dk ∧ Nx (upd H5 D (dnO D (storeL L k b z)))
def tDn (K : PySem.W.Frag) (wi : TI) (g : TG) (tt : TT) (tk tv : TE) (vs : List Nat) : TE := fun σ H Q => wi σ H fun J H1 => ∀ D, H1 D = none → ∃ W : Nat → Nat → Hp → Prop, (∃ m, W 0 m (upd H1 D (dnO D []))) ∧ ∀ i m H, W i m H →
  (J.stop i H ∧ Q (.ref D) H) ∨ (J.go i H ∧ ∃ Nx : Hp → Prop, (∀ H', Nx H' → ∃ m', m' < m ∧ W (i + 1) m' H') ∧ ∀ x H', J.yld i H x H' → g x (wipe σ vs) H' fun σ2 H2 => wipe σ2 vs = wipe σ vs ∧ tt σ2 H2 fun b H3 =>
    if b = true then tk σ2 H3 fun y H4 => tv σ2 H4 fun z H5 => keepN K D y z H5 Nx else Nx H3)
section
variable {kx vx tg iter : Expr} {ifs : List Expr} {scope : Scope} {own : List (Str × Nat)} {pos : Pos} {wi : TI} {g : TG} {tt : TT} {tk tv : TE}
/-- the block's loop, from its start on -/
theorem dn_loop {fp : List Addr} {tn : Nat → Heap → Prop} {J : It} {it : Addr} {σ : L2.St} {s3 s4 : Shared} {H3 : Hp} {ce : Env} {D : Addr} {R : Result → Shared → Prop} {W : Nat → Nat → Hp → Prop} {m0 : Nat} {Qd : Hp → Prop}
    (hc : X.calm = true) (hu : X.A.units + 8 < cLine) (T : Turn X.prog X.w X.K tg J fp it tn) (hce : ce.locals = s3.heap.objs.size)
    (pg : PG (X.blk s3 H3 scope ce fp) tg g) (pt : PTs (X.blk s3 H3 scope ce fp) ifs tt) (pk : PE (X.blk s3 H3 scope ce fp) kx tk) (pe : PE (X.blk s3 H3 scope ce fp) vx tv)
    (I4 : Inv (X.blk s3 H3 scope ce fp) [] (wipe σ (own.map (·.2))) H3 s4) (st4 : tn 0 s4.heap) (nfp : ∀ b ∈ fp, H3 b = none) (w0 : W 0 m0 H3)
    (turn : ∀ i m H, W i m H → (J.stop i H ∧ Qd H) ∨ (J.go i H ∧ ∃ Nx : Hp → Prop, (∀ H', Nx H' → ∃ m', m' < m ∧ W (i + 1) m' H') ∧ ∀ x H', J.yld i H x H' → g x (wipe σ (own.map (·.2))) H' fun σ2 H2 => wipe σ2 (own.map (·.2)) = wipe σ (own.map (·.2)) ∧ tt σ2 H2 fun b H3 =>
      if b = true then tk σ2 H3 fun y H4 => tv σ2 H4 fun z H5 => keepN X.K D y z H5 Nx else Nx H3))
    (out : ∀ (s6 : Shared) (H5 : Hp), Inv (X.blk s3 H3 scope ce fp) [] (wipe σ (own.map (·.2))) H5 s6 → Qd H5 → R (.ok .next) s6) :
    codeAny (model X.prog X.w) X.A (.compLoop (.DictComp kx vx [⟨tg, iter, ifs, 0⟩] scope pos) 0 (.ref it) (.ref D) ce) R s4 := by
  have still : ∀ {σ' : L2.St} {H' : Hp} {s' : Shared}, Inv (X.blk s3 H3 scope ce fp) [] σ' H' s' → (∀ b ∈ fp, H' b = none) → ∀ b ∈ fp, FpOk (X.blk s3 H3 scope ce fp) [] H' b := fun {σ' H' s'} I' hn b hb =>
    ⟨hn b hb, (I'.ok.exf b hb).1, I'.ok.exfs b hb, .inl hb, fun x c e => (I'.ok.exf b hb).2 x c e, fun p hp => absurd (show p ∈ ([] : List (Addr × Obj)) ++ [] from hp) (by simp)⟩
  refine compLoop_anyD (fun n s' => ∃ i H', Inv (X.blk s3 H3 scope ce fp) [] (wipe σ (own.map (·.2))) H' s' ∧ tn i s'.heap ∧ (∀ b ∈ fp, H' b = none) ∧ W i n H') ?_ m0 ⟨0, H3, I4, st4, nfp, w0⟩
  rintro n s5 ⟨i, H5, I5, st5, n5, w5⟩
  rcases turn i n H5 w5 with ⟨stop, qq⟩ | ⟨go, Nx, hNx, step⟩
  · refine thnF (T.done (X.blk s3 H3 scope ce fp) rfl rfl rfl hc i [] s5 _ H5 (fun _ _ => False) I5 (still I5 n5) st5 stop) fun r s6 ⟨hr, I6⟩ => ?_
    subst hr
    exact out s6 H5 I6 qq
  · refine thnF (T.item (X.blk s3 H3 scope ce fp) rfl rfl rfl hc i [] s5 _ H5 (fun _ _ => False) I5 (still I5 n5) st5 go) fun r s6 ⟨u, hr, h6⟩ => ?_
    subst hr
    refine thnF h6 fun _ s7 ⟨x, H7, I7, r7, y7, st7, n7⟩ => ?_
    refine thnF (pg.run _ s7 _ H7 x u _ (I7.pinned (still I7 n7) (T.obj _ _ st7)) r7 (step x H7 y7)) fun _ s8 ⟨σ8, H8, I8, hw8, q8⟩ => ?_
    refine thnF (pt.run _ s8 σ8 H8 _ I8 q8) fun b s9 ⟨H9, I9, q9⟩ => ?_
    have fin : ∀ {s' : Shared} {H' : Hp}, Inv (X.blk s3 H3 scope ce fp) ([] ++ pinsAt fp s7.heap) σ8 H' s' → Nx H' → ∃ m, m < n ∧ ∃ i H', Inv (X.blk s3 H3 scope ce fp) [] (wipe σ (own.map (·.2))) H' s' ∧ tn i s'.heap ∧ (∀ b ∈ fp, H' b = none) ∧ W i m H' := fun {s' H'} I' nx => by
      obtain ⟨m', hm, w'⟩ := hNx H' nx
      have pin' : ∀ b ∈ fp, ∀ o, s7.heap.get? b = some o → s'.heap.get? b = some o ∧ H' b = none := fun b hb o e =>
        let z := I'.pin (b, o) (List.mem_append_right _ (List.mem_append_right _ (mem_pinsAt hb e)))
        ⟨z.1, z.2.1⟩
      refine ⟨m', hm, i + 1, H', (I'.unpinned (pins := [])).weak (by rw [← hw8, wipe_length]) (fun j v e => ?_), T.keep _ _ _ st7 fun b hb o e => (pin' b hb o e).1, fun b hb => ?_, w'⟩
      · rw [← hw8] at e
        exact (wipe_some e).1
      · obtain ⟨o, e, _⟩ := T.obj _ _ st7 b hb
        exact (pin' b hb o e).2
    cases b with
    | false =>
      simp only [Bool.false_eq_true, if_false] at q9 ⊢
      exact fin I9 q9
    | true =>
      simp only [if_true] at q9 ⊢
      refine thnF (pk.run _ s9 σ8 H9 _ I9 q9) fun z s10 ⟨yk, H10, I10, r10, q10⟩ => ?_
      refine thnF (pe.run _ s10 σ8 H10 _ I10 q10) fun z2 s11 ⟨yv, H11, I11, r11, F, L, kvs, b, k, dk, ek, sF, hD11, rn, hz11, n1, n2, n3, nx⟩ => ?_
      subst ek
      cases r10
      exact d_dictSetN (X := X.blk s3 H3 scope ce fp) (d := .none) I11 sF hu hD11 rn hz11 n1 n2 n3 r11 fun s12 I12 => fin I12 nx
theorem dn_core {pins : List (Addr × Obj)} {s : Shared} {σ : L2.St} {H : Hp} {Q : VK} {pos' : Pos} {use : Option (Value → Sem Unit)} {Qf : Value → Shared → Prop} (hc : X.calm = true) (hu : X.A.units + 8 < cLine) (hN : X.N.Nodup) (hi : PI X tg iter wi) (ok : BlkOk X.N X.env.scope scope own)
    (hg : ∀ (s : Shared) (H : Hp) (C : Addr) (cl : List (Str × Addr)) (fp : List Addr), PG (X.blk s H scope (compEnvC scope cl C X.env) fp) tg g) (ht : ∀ (s : Shared) (H : Hp) (C : Addr) (cl : List (Str × Addr)) (fp : List Addr), PTs (X.blk s H scope (compEnvC scope cl C X.env) fp) ifs tt)
    (hk : ∀ (s : Shared) (H : Hp) (C : Addr) (cl : List (Str × Addr)) (fp : List Addr), PE (X.blk s H scope (compEnvC scope cl C X.env) fp) kx tk)
    (he : ∀ (s : Shared) (H : Hp) (C : Addr) (cl : List (Str × Addr)) (fp : List Addr), PE (X.blk s H scope (compEnvC scope cl C X.env) fp) vx tv) (hs : ∀ x, foldedSetIterable iter X.env x = pure x) (I : Inv X pins σ H s)
    (h : tDn X.K wi g tt tk tv (own.map (·.2)) σ H Q) (hRR : ∀ D C s' m H', Inv X pins σ H' s' → Q (.ref D) H' → s'.heap.Ns C m → FpOk X pins H' C → compPost (model X.prog X.w) X.A X.xe use Qf (.ref D) C (.ok .next) s') :
    wpAny (model X.prog X.w) X.A (comprehension (.DictComp kx vx [⟨tg, iter, ifs, 0⟩] scope pos) scope X.env pos' newDict false (eval iter X.env) use) Qf X.xe s := by
  have hfree : ∀ y ∈ scope.names, y.2 = .free → ∃ c, X.env.cells.lookup y.1 = some c := fun y hy e => (ok.free y hy e).elim (fun k => I.ok.has _ (.inl k)) fun k => I.ok.has _ (.inr k)
  refine wpAny_comprehension_free (use := use) rfl hs (closure_ok hfree) ok.kind (fun y hy e => by rw [ok.uniq y hy, e]) (thn (hi.run pins s σ H _ I h) fun xv s1 hx => thn hx fun itv s2 h2 => ?_)
  obtain ⟨it, fp, tn, J, H2, e, I2, T, st2, f2, q⟩ := h2
  subst e
  refine wpAny_newObj_type (newEnv_comp ?_)
  generalize hD : s2.heap.objs.size = D
  obtain ⟨W, ⟨m0, w0⟩, turn⟩ := q D (I2.hok.fresh (Nat.le_of_eq hD))
  generalize hs3 : ({ s2 with heap := s2.heap.push { cls := .type "dict", data := .dict #[] } } : Shared) = s3
  have h3 : s3.heap = s2.heap.push { cls := .type "dict", data := .dict #[] } := by rw [← hs3]
  have I3 : Inv X pins σ (upd H2 D (dnO D [])) s3 := by
    rw [← hs3]
    refine I2.laid (t' := s2.toks) (fun b o e => Heap.get?_push_of_some _ e) (Nat.le_of_eq hD) ?_
    rw [← hD]
    exact dn_new s2.heap I2.big
  have f3 : ∀ b ∈ fp, FpOk X pins (upd H2 D (dnO D [])) b ∧ b < s3.heap.objs.size := fun b hb => by
    obtain ⟨o, e, _⟩ := T.obj _ _ st2 b hb
    have hlt := Heap.lt_size e
    refine ⟨⟨?_, (f2 b hb).2⟩, by rw [h3, Heap.size_push]; exact Nat.lt_succ_of_lt hlt⟩
    rw [upd_ne (by rw [← hD]; exact Nat.ne_of_lt hlt)]
    exact (f2 b hb).1
  have st3 : tn 0 s3.heap := T.keep _ _ _ st2 fun b _ o e => by rw [h3]; exact Heap.get?_push_of_some _ e
  have I4 := block_start I3 ok hN f3
  have pg := hg s3 (upd H2 D (dnO D [])) s3.heap.objs.size (cellsFrom (s3.heap.objs.size + 1) scope.names (cloFrom X.env.cells scope.names [])) fp
  have pt := ht s3 (upd H2 D (dnO D [])) s3.heap.objs.size (cellsFrom (s3.heap.objs.size + 1) scope.names (cloFrom X.env.cells scope.names [])) fp
  have pk := hk s3 (upd H2 D (dnO D [])) s3.heap.objs.size (cellsFrom (s3.heap.objs.size + 1) scope.names (cloFrom X.env.cells scope.names [])) fp
  have pe := he s3 (upd H2 D (dnO D [])) s3.heap.objs.size (cellsFrom (s3.heap.objs.size + 1) scope.names (cloFrom X.env.cells scope.names [])) fp
  have cL : (compEnvC scope (cellsFrom (s3.heap.objs.size + 1) scope.names (cloFrom X.env.cells scope.names [])) s3.heap.objs.size X.env).locals = s3.heap.objs.size := rfl
  show codeAny _ _ (.compStart (.DictComp kx vx [⟨tg, iter, ifs, 0⟩] scope pos) 0 (.ref it) (.ref D) (compEnvC scope (cellsFrom (s3.heap.objs.size + 1) scope.names (cloFrom X.env.cells scope.names [])) s3.heap.objs.size X.env)) (compPost (model X.prog X.w) X.A X.xe use Qf (.ref D) s3.heap.objs.size) { s3 with heap := pushCells (s3.heap.push { cls := .type "dict", data := .dict #[] }) scope.names }
  generalize compEnvC scope (cellsFrom (s3.heap.objs.size + 1) scope.names (cloFrom X.env.cells scope.names [])) s3.heap.objs.size X.env = ce at I4 pg pt pk pe cL ⊢
  have kp4 : ∀ b o, s3.heap.get? b = some o → (pushCells (s3.heap.push { cls := .type "dict", data := .dict #[] }) scope.names).get? b = some o := fun b o e => pushCells_keeps _ _ _ _ (Heap.get?_push_of_some _ e)
  generalize hs4 : ({ s3 with heap := pushCells (s3.heap.push { cls := .type "dict", data := .dict #[] }) scope.names } : Shared) = s4 at I4 ⊢
  have st4 : tn 0 s4.heap := T.keep _ _ _ st3 fun b _ o e => by rw [← hs4]; exact kp4 b o e
  have loop := dn_loop (iter := iter) (pos := pos) (kx := kx) (vx := vx) (own := own) (Qd := fun H => Q (.ref D) H) (R := compPost (model X.prog X.w) X.A X.xe use Qf (.ref D) s3.heap.objs.size) hc hu T cL pg pt pk pe I4 st4 (fun b hb => (f3 b hb).1.1) w0 turn fun s6 H5 I6 qq => by
    have I7 : Inv X pins σ H5 s6 := I3.call' (ch := fp) I6.os I6.base I6.hok I6.bare fun b hb => ⟨(f3 b hb).1.2.2.2.1, (f3 b hb).1.2.1, (f3 b hb).1.2.2.2.2.1, (f3 b hb).1.2.2.2.2.2⟩
    have nC : H5 ce.locals = none := I6.free
    obtain ⟨m, hn, _⟩ := I6.loc
    have hn : s6.heap.Ns ce.locals m := hn
    rw [cL] at hn nC
    exact hRR D s3.heap.objs.size s6 m H5 I7 qq hn (I3.fpOk (Nat.le_refl _) nC)
  exact codeAny_compStart_dict loop (T.self X.A 0 _ _ _ st4 loop)
theorem pe_dn (hc : X.calm = true) (hu : X.A.units + 8 < cLine) (hN : X.N.Nodup) (hi : PI X tg iter wi) (ok : BlkOk X.N X.env.scope scope own)
    (hg : ∀ (s : Shared) (H : Hp) (C : Addr) (cl : List (Str × Addr)) (fp : List Addr), PG (X.blk s H scope (compEnvC scope cl C X.env) fp) tg g) (ht : ∀ (s : Shared) (H : Hp) (C : Addr) (cl : List (Str × Addr)) (fp : List Addr), PTs (X.blk s H scope (compEnvC scope cl C X.env) fp) ifs tt)
    (hk : ∀ (s : Shared) (H : Hp) (C : Addr) (cl : List (Str × Addr)) (fp : List Addr), PE (X.blk s H scope (compEnvC scope cl C X.env) fp) kx tk)
    (he : ∀ (s : Shared) (H : Hp) (C : Addr) (cl : List (Str × Addr)) (fp : List Addr), PE (X.blk s H scope (compEnvC scope cl C X.env) fp) vx tv) (hs : ∀ x, foldedSetIterable iter X.env x = pure x := by intro _; rfl) :
    PE X (.DictComp kx vx [⟨tg, iter, ifs, 0⟩] scope pos) (tDn X.K wi g tt tk tv (own.map (·.2))) := by
  refine ⟨fun pins s σ H Q I h => ?_⟩
  rw [arm_eval_DictComp]
  refine dn_core hc hu hN hi ok hg ht hk he hs I h fun D C s' m H' I' q hn f => ⟨m, hn, fun h'' sb => ?_⟩
  obtain ⟨f0, f1, f2, f3, f4, f5⟩ := f
  exact ⟨.ref D, H', I'.turned (t' := s'.toks) (fun b o hb e => (sb.2 b hb).trans e) f0 f1 f3 f4 f5, rfl, q⟩
theorem ps_setDn {i : Nat} {y : Str} {py spos : Pos} (hc : X.calm = true) (hu : X.A.units + 8 < cLine) (hN : X.N.Nodup) (hy : X.N[i]? = some y) (hyl : X.env.scope.names.lookup y = some .local)
    (hsw : swapsWith (.DictComp kx vx [⟨tg, iter, ifs, 0⟩] scope pos) (some (.Name y py)) spos.line X.env = pure true) (hi : PI X tg iter wi) (ok : BlkOk X.N X.env.scope scope own)
    (hg : ∀ (s : Shared) (H : Hp) (C : Addr) (cl : List (Str × Addr)) (fp : List Addr), PG (X.blk s H scope (compEnvC scope cl C X.env) fp) tg g) (ht : ∀ (s : Shared) (H : Hp) (C : Addr) (cl : List (Str × Addr)) (fp : List Addr), PTs (X.blk s H scope (compEnvC scope cl C X.env) fp) ifs tt)
    (hk : ∀ (s : Shared) (H : Hp) (C : Addr) (cl : List (Str × Addr)) (fp : List Addr), PE (X.blk s H scope (compEnvC scope cl C X.env) fp) kx tk)
    (he : ∀ (s : Shared) (H : Hp) (C : Addr) (cl : List (Str × Addr)) (fp : List Addr), PE (X.blk s H scope (compEnvC scope cl C X.env) fp) vx tv) (hs : ∀ x, foldedSetIterable iter X.env x = pure x := by intro _; rfl) :
    PS X (.Assign [.Name y py] (.DictComp kx vx [⟨tg, iter, ifs, 0⟩] scope pos) spos) (tAsg (tDn X.K wi g tt tk tv (own.map (·.2))) (gName i)) := by
  refine ⟨fun pins s σ H D I h => ?_⟩
  rw [exec_Assign_Name_used _ _ _ _ hsw]
  refine wpAny_bind (wpAny_standAt (wpAny_bind ?_))
  show wpAny _ X.A (do let _ ← comprehension (.DictComp kx vx [⟨tg, iter, ifs, 0⟩] scope pos) scope X.env (firstIterPos [⟨tg, iter, ifs, 0⟩] pos) newDict false (eval iter X.env) (some (assign (.Name y py) X.env))) _ _ s
  have h : tDn X.K wi g tt tk tv (own.map (·.2)) σ H (fun x H1 => gName i x σ H1 D.nx) := h
  refine wpAny_bind (thn (dn_core (Qf := fun _ s' => SP X pins D .next s') hc hu hN hi ok hg ht hk he hs I h fun L C s' m H' I' q hn f => ?_) fun _ s' hq => wpAny_pure (wpAny_pure hq))
  show wpAny _ _ (assign (.Name y py) X.env (.ref L)) _ _ _
  refine wpAny_assign_Name (store_ok2 (v := V.ref L) I' hN hy (.inl hyl) rfl (fun s2 I2 ⟨a, sb, ha⟩ => ?_) (.inr hyl))
  obtain ⟨f0, f1, f2, f3, f4, f5⟩ := f
  have haC : C ≠ a := ha.elim (fun z => by rw [z]; exact f1) fun z e => f4 y a z e.symm
  exact ⟨m, hn.sameBut sb haC, fun h3 sb3 => ⟨_, H', I2.turned (t' := s2.toks) (fun b o hb e => (sb3.2 b hb).trans e) f0 f1 f3 f4 f5, q⟩⟩
end
end
/-! ### the evaluator -/
structure MkN [Fed] (C : Cn) (F0 U0 : Hp) (μ0 : List Addr) (D : Addr) (F U : Hp) (μ : List Addr) (H : Hp) (h : AH) (acc : List (PD × PD)) : Prop where
  g : Gr F0 U0 F U
  p : μ0 <+: μ
  l : Lk C.K F U μ H h
  fD : F D = none
  at_ : ∃ L, U D = some (dnO D L) ∧ RN C.K F L acc
theorem dnO_x (D : Addr) (L : List (NestedKey × Addr × V)) : NoX (dnO D L) := by
  refine ⟨fun _ z => (nomatch z), fun c q z => ?_, fun _ z => (nomatch z)⟩
  have e := HO.ext.inj z
  have w : DN D L { objs := Array.replicate (c + 1) { cls := .none, data := .fields #[.none, .str q 0] } } := by
    rw [e]
    refine ⟨{ cls := .none, data := .fields #[.none, .str q 0] }, #[.none, .str q 0], 0, ?_, rfl, rfl⟩
    simp [Heap.get?]
  obtain ⟨_, _, _, xs, o, es, ep, _, g, _, da, _⟩ := w
  unfold Heap.get? at g
  split at g
  · cases g
  · rename_i hh
    have := hh
    simp [Array.getElem?_replicate] at g
    obtain ⟨_, rfl⟩ := g
    cases da
section
variable {C : Cn} {F0 U0 F U : Hp} {μ0 μ : List Addr} {H : Hp} {h : AH} {acc : List (PD × PD)} {D : Addr}
theorem MkN.step [Fed] {F' U' : Hp} {μ' : List Addr} {H' : Hp} {h' : AH} (m : MkN C F0 U0 μ0 D F U μ H h acc) (g : Gr F U F' U') (p : μ <+: μ') (l : Lk C.K F' U' μ' H' h') : MkN C F0 U0 μ0 D F' U' μ' H' h' acc := by
  obtain ⟨L, hU, r⟩ := m.at_
  obtain ⟨h1, h2, h3⟩ := l.keptU g hU m.fD
  exact ⟨m.g.trans g, m.p.trans p, l, h2, L, h1, r.mono g.f⟩
theorem MkN.new [Fed] (l : Lk C.K F U μ H h) (hp : H D = none) : MkN C F U μ D F (upd U D (dnO D [])) μ (upd H D (dnO D [])) h [] := by
  obtain ⟨l', g⟩ := l.newU (o := dnO D []) hp
  exact ⟨g, List.prefix_refl _, l', same_none l.fh hp, [], upd_same, .nil⟩
theorem MkN.done [Fed] {W : XK} {Q : VK} (m : MkN C F0 U0 μ0 D F U μ H h acc) (h0 : U0 D = none) (o : Out C F0 U0 μ0 W (rSl C.K) Q (.ok (.dcn acc) h)) : Q (.ref D) H := by
  obtain ⟨L, hU, r⟩ := m.at_
  refine o (.ref D) (upd F D (dnO D L)) U μ H ⟨m.g.f.trans (same_new m.fD), m.g.u, fun a x e1 e2 => ?_⟩ m.p (m.l.endU hU m.fD) ⟨D, L, rfl, upd_same, r.mono (same_new m.fD)⟩
  rw [upd_ne (ne_of_none e1 h0)] at e2
  exact m.g.n a x e1 e2
end
def dnL (tg : Tgt) (tt : Tx) (tk tv : Ex) (vs : List Nat) : List PD → List (PD × PD) → Ev → AH → Res Sl
  | [], acc, _, h => .ok (.dcn acc) h
  | d :: ds, acc, env, h => match tg.asg d (wipeE env vs) with
    | none => .no
    | some env1 => (strict (tt env1 h)).bind fun b h1 => if b then (strict (tk env1 h1)).bind fun x h2 => (strict (tv env1 h2)).bind fun y h3 => match x, y with
        | .dat (.tuple k), .dat v => match nkey (.tuple k) with
          | some k' => if acc.length < sizeLine ∧ k'.depth ≤ 8 then dnL tg tt tk tv vs ds (putN acc (.tuple k) k' v) env h3 else .no
          | none => .no
        | _, _ => .no
      else dnL tg tt tk tv vs ds acc env h1
def cDn (it : Ix) (tg : Tgt) (tt : Tx) (tk tv : Ex) (vs : List Nat) : Ex := fun env h => (it env h).bind fun ds h1 => dnL tg tt tk tv vs ds [] env h1
section
variable {C : Cn} {Wx : XK} {X : Cx} {kx vx tg iter : Expr} {ifs : List Expr} {scope : Scope} {own : List (Str × Nat)} {pos spos py : Pos} {it : Ix} {t : Tgt} {tt : Tx} {tk tv : Ex}
def dnInv [Fed] (C : Cn) (Wx : XK) (F0 U0 : Hp) (μ0 : List Addr) (D : Addr) (Q : VK) (t : Tgt) (tt : Tx) (tk tv : Ex) (vs : List Nat) (env : Ev) (ds : List PD) (i : Nat) (H : Hp) : Prop :=
  ∃ F U μ h acc, MkN C F0 U0 μ0 D F U μ H h acc ∧ Out C F0 U0 μ0 Wx (rSl C.K) Q (dnL t tt tk tv vs (ds.drop i) acc env h)
theorem rd_dn [Fed] {W1 : XK} {vs : List Nat} (hsl : slotsIn t vs = true) {K : PySem.W.Frag} (hK : K = C.K) {σ : L2.St} {H : Hp} {Q : VK} (q : rdE C Wx (cDn it t tt tk tv vs) σ H Q) :
    tDn K (rdG C Wx (rIt C.K) it) (t.rd K) (rdT C W1 tt) (rdE C W1 tk) (rdE C W1 tv) vs σ H Q := by
  subst hK
  obtain ⟨F, U, μ, env, h, l, ev, o⟩ := q
  refine rd_step l ev o fun ds J F0 U0 μ0 H1 h1 g1 p1 l1 r1 e1 o1 => ?_
  intro D hD
  have h0 : U0 D = none := same_none l1.uh hD
  refine ⟨fun i m H => m = ds.length - i ∧ i ≤ ds.length ∧ dnInv C Wx F0 U0 μ0 D Q t tt tk tv vs env ds i H, ⟨_, rfl, Nat.zero_le _, _, _, _, _, _, MkN.new l1 hD, o1⟩, ?_⟩
  rintro i m H ⟨rfl, hi, F2, U2, μ2, h2, acc, mk, o2⟩
  by_cases hlt : i < ds.length
  · obtain ⟨hgo, hy⟩ := (r1 F2 U2 μ2 H h2 mk.g.f mk.l i).1 ds[i] (by rw [List.getElem?_eq_getElem hlt])
    rw [drop_at hlt] at o2
    unfold dnL at o2
    split at o2
    · exact o2.elim
    · rename_i env3 ea
      refine .inr ⟨hgo, dnInv C Wx F0 U0 μ0 D Q t tt tk tv vs env ds (i + 1), fun H' n => ⟨ds.length - (i + 1), by omega, rfl, hlt, n⟩, fun x H' y => ?_⟩
      obtain ⟨F3, U3, g3, l3, d3⟩ := hy x H' y
      have mk3 := mk.step g3 (List.prefix_refl _) l3
      obtain ⟨σ3, e3, w3, q3⟩ := Tgt.rd_ok t l3.fh ((e1.mono mk3.g.f mk3.p).wipe vs) d3 ea
      refine q3 _ ⟨(w3 vs (slotsIn_iff hsl)).trans (wipe_wipe σ vs vs fun _ z => z), ?_⟩
      refine ⟨F3, U3, μ2, env3, h2, l3, e3, o2.strict fun b b' F4 U4 μ4 H4 h4 g4 p4 l4 rb o4 => ?_⟩
      cases rb
      have mk4 := mk3.step g4 p4 l4
      cases b with
      | false =>
        rw [if_neg Bool.false_ne_true]
        rw [if_neg Bool.false_ne_true] at o4
        exact ⟨F4, U4, μ4, h4, acc, mk4, o4⟩
      | true =>
        rw [if_pos rfl]
        rw [if_pos rfl] at o4
        have e4 := e3.mono g4.f p4
        refine ⟨F4, U4, μ4, env3, h4, l4, e4, o4.strict fun x xv F5 U5 μ5 H5 h5 g5 p5 l5 rx o5 => ?_⟩
        have mk5 := mk4.step g5 p5 l5
        refine ⟨F5, U5, μ5, env3, h5, l5, e4.mono g5.f p5, o5.strict fun y yv F6 U6 μ6 H6 h6 g6 p6 l6 ry o6 => ?_⟩
        have mk6 := mk5.step g6 p6 l6
        split at o6
        · rename_i kd vd
          split at o6
          · rename_i k' ek
            split at o6
            · rename_i hz
              obtain ⟨L, hU, rn⟩ := mk6.at_
              have rx6 : RD C.K F6 xv (.tuple kd) := RD.mono g6.f rx
              have hb : ∃ b, xv = .ref b := by cases rx6 with | tup _ _ => exact ⟨_, rfl⟩
              obtain ⟨b, rfl⟩ := hb
              refine ⟨F6, L, acc, b, k', .tuple kd, rfl, l6.fh, l6.uh _ _ hU, rn, by rw [rn.len]; exact hz.1, ek, hz.2, rx6, F6, upd U6 D (dnO D (storeL L k' b yv)), μ6, h6, putN acc (.tuple kd) k' vd, ⟨⟨mk6.g.f, fun z x e => ?_, fun a x e1 e2 => mk6.g.n a x e1 e2⟩, mk6.p, l6.putU hU mk6.fD (dnO_x _ _) (dnO_x _ _), mk6.fD, _, upd_same, rn.put ek hz.2 rx6 ry⟩, o6⟩
              rw [upd_ne (ne_of_none e h0)]
              exact mk6.g.u _ _ e
            · exact o6.elim
          · exact o6.elim
        · exact o6.elim
  · have e : i = ds.length := by omega
    subst e
    rw [List.drop_length] at o2
    exact .inl ⟨(r1 F2 U2 μ2 H h2 mk.g.f mk.l _).2 rfl, mk.done h0 o2⟩
theorem se_dn [Fed] (hu : X.A.units + 64 < cLine) (hN : X.N.Nodup) (hi : SI C Wx X tg iter it) (ok : blkC X.N X.env.scope scope own = true)
    (hg : ∀ (s : Shared) (H : Hp) (C : Addr) (cl : List (Str × Addr)) (fp : List Addr), PG (X.blk s H scope (compEnvC scope cl C X.env) fp) tg (t.rd X.K)) (ht : ∀ (s : Shared) (H : Hp) (A : Addr) (cl : List (Str × Addr)) (fp : List Addr), STs C (fun _ _ _ => False) (X.blk s H scope (compEnvC scope cl A X.env) fp) ifs tt)
    (hk : ∀ (s : Shared) (H : Hp) (A : Addr) (cl : List (Str × Addr)) (fp : List Addr), SE C (fun _ _ _ => False) (X.blk s H scope (compEnvC scope cl A X.env) fp) kx tk)
    (he : ∀ (s : Shared) (H : Hp) (A : Addr) (cl : List (Str × Addr)) (fp : List Addr), SE C (fun _ _ _ => False) (X.blk s H scope (compEnvC scope cl A X.env) fp) vx tv) (hsl : slotsIn t (own.map (·.2)) = true := by rfl) (hc : X.calm = true := by rfl) (hK : X.K = C.K := by rfl) (hs : ∀ x, foldedSetIterable iter X.env x = pure x := by intro _; rfl) :
    SE C Wx X (.DictComp kx vx [⟨tg, iter, ifs, 0⟩] scope pos) (cDn it t tt tk tv (own.map (·.2))) :=
  ⟨pe_imp (pe_dn hc (by omega) hN hi.pi (blkOk_by ok) hg (fun s H A cl fp => (ht s H A cl fp).pts) (fun s H A cl fp => (hk s H A cl fp).pe) (fun s H A cl fp => (he s H A cl fp).pe) hs) fun σ H Q q => rd_dn hsl hK q⟩
theorem ss_setDn [Fed] (i : Nat) {y : Str} (hu : X.A.units + 64 < cLine) (hN : X.N.Nodup) (hi : SI C Wx X tg iter it) (ok : blkC X.N X.env.scope scope own = true)
    (hg : ∀ (s : Shared) (H : Hp) (C : Addr) (cl : List (Str × Addr)) (fp : List Addr), PG (X.blk s H scope (compEnvC scope cl C X.env) fp) tg (t.rd X.K)) (ht : ∀ (s : Shared) (H : Hp) (A : Addr) (cl : List (Str × Addr)) (fp : List Addr), STs C (fun _ _ _ => False) (X.blk s H scope (compEnvC scope cl A X.env) fp) ifs tt)
    (hk : ∀ (s : Shared) (H : Hp) (A : Addr) (cl : List (Str × Addr)) (fp : List Addr), SE C (fun _ _ _ => False) (X.blk s H scope (compEnvC scope cl A X.env) fp) kx tk)
    (he : ∀ (s : Shared) (H : Hp) (A : Addr) (cl : List (Str × Addr)) (fp : List Addr), SE C (fun _ _ _ => False) (X.blk s H scope (compEnvC scope cl A X.env) fp) vx tv)
    (hy : X.N[i]? = some y := by rfl) (hyl : X.env.scope.names.lookup y = some .local := by rfl) (hsw : swapsWith (.DictComp kx vx [⟨tg, iter, ifs, 0⟩] scope pos) (some (.Name y py)) spos.line X.env = pure true := by rfl)
    (hsl : slotsIn t (own.map (·.2)) = true := by rfl) (hc : X.calm = true := by rfl) (hK : X.K = C.K := by rfl) (hs : ∀ x, foldedSetIterable iter X.env x = pure x := by intro _; rfl) :
    SS C Wx X (.Assign [.Name y py] (.DictComp kx vx [⟨tg, iter, ifs, 0⟩] scope pos) spos) (sSet i (cDn it t tt tk tv (own.map (·.2)))) :=
  ⟨ps_imp (ps_setDn hc (by omega) hN hy hyl hsw hi.pi (blkOk_by ok) hg (fun s H A cl fp => (ht s H A cl fp).pts) (fun s H A cl fp => (hk s H A cl fp).pe) (fun s H A cl fp => (he s H A cl fp).pe) hs) fun D σ H q => by
    obtain ⟨F, U, μ, env, h, l, ev, o⟩ := q
    refine rd_dn hsl hK ?_
    exact rd_step l ev o fun x vx F1 U1 μ1 H1 h1 g1 p1 l1 r1 e1 o1 => o1.nxt l1 (e1.set r1)⟩
end
/-! ### either of two -/
def cAlt (t u : Ex) : Ex := fun env h => match t env h with
  | .no => u env h
  | r => r
theorem se_alt [Fed] {C : Cn} {Wx : XK} {X : Cx} {e : Expr} {t u : Ex} (h1 : SE C Wx X e t) (h2 : SE C Wx X e u) : SE C Wx X e (cAlt t u) := ⟨pe_either h1.pe h2.pe fun σ H Q q => by
  obtain ⟨F, U, μ, env, h, l, ev, o⟩ := q
  unfold cAlt at o
  split at o
  · exact .inr ⟨F, U, μ, env, h, l, ev, o⟩
  · exact .inl ⟨F, U, μ, env, h, l, ev, o⟩⟩
/-! ### d.get(k, x) -/
def cGetN (td ty tx : Ex) : Ex := fun env h => (td env h).bind fun x h1 => match x with
  | .dcn kvs => (ty env h1).bind fun y h2 => (tx env h2).bind fun z h3 => match y, z with
    | .dat (.tuple k), .dat dz => match nkey (.tuple k) with
      | some k' => if k'.depth ≤ 8 then (match lookN k' kvs with
          | some d => .ok (.dat d) h3
          | none => .ok (.dat dz) h3) else .no
      | none => .no
    | _, _ => .no
  | _ => .no
section
variable [Fed] {X : Cx} {o e f : Expr} {to te tf : TE} {apos cpos : Pos}
theorem pe_getN (hu : X.A.units + 64 < cLine) (ho : PE X o to) (he : PE X e te) (hf : PE X f tf) (m : M2 X o "get" apos e f cpos) : PE X (.Call (.Attribute o "get" apos) [e, f] [] cpos) (fun σ H Q => to σ H fun x H1 => ∃ (a : Addr) (L : List (NestedKey × Addr × V)) (kvs : List (PD × PD)), x = .ref a ∧ H1 a = some (dnO a L) ∧
    te σ H1 fun y H2 => tf σ H2 fun z H3 => ∃ (F : Hp) (b : Addr) (k : NestedKey) (dk : PD), y = .ref b ∧ Same F H3 ∧ H3 a = some (dnO a L) ∧ RN X.K F L kvs ∧ nkey dk = some k ∧ k.depth ≤ 8 ∧ RD X.K F (.ref b) dk ∧
      ((lookN k kvs = none → Q z H3) ∧ ∀ d v, lookN k kvs = some d → RD X.K F v d → Q v H3)) := by
  refine ⟨fun pins s σ H Q I h => ?_⟩
  refine wpAny_Call_method m.base m.few m.line PySem.F.plainAttrs_dict PySem.F.slot_dict_get PySem.F.type_dict_get (thn (ho.run pins s σ H _ I h) fun u s1 ⟨x, H1, I1, rx, a, L, kvs, ex, hH, q1⟩ => ?_)
  subst ex
  obtain rfl : u = Value.ref a := rx
  obtain ⟨_, ha, _, xs, ob, es, ep, _, g, gx, gd, _⟩ := show DN a L s1.heap from (I1.hok a _ hH).1
  refine ⟨⟨ob, g, gx.1⟩, fun b z => ?_, ?_⟩
  · cases z
    exact ⟨ob, g, gx.2.1⟩
  rw [m.trees]
  refine Calls.callWith_builtin rfl (Calls.evalArgs_plain (Calls.spliced_cons (thn (he.run pins s1 σ H1 _ I1 q1) fun iv s2 ⟨y, H2, I2, ry, q2⟩ =>
    Calls.spliced_cons (thn (hf.run pins s2 σ H2 _ I2 q2) fun fv s3 ⟨z, H3, I3, rz, F, b, k, dk, ey, sF, h3, rn, n1, n2, n3, q3, q4⟩ => Calls.spliced_nil ?_))))
  subst ey
  obtain rfl : iv = Value.ref b := ry
  obtain ⟨_, _, xs, p, dd⟩ := dn_dict I3 sF (I3.hok a _ h3).1 rn
  refine call_meetsIn PySem.F.slot_dict_get dd.typeIs PySem.F.entry_dict_get (PySem.F.args_dict_get_3 _ _ _) (meetsH_dict_get_default (nestedKind X.prog X.w) a b ha fv)
    ⟨show X.A.in1.units + 8 < cLine by (have e1 : X.A.in1.units = X.A.units + 1 := rfl; omega), k, xs, ⟨rd_nested I3 sF dk n1 n3 rfl, n2⟩, dd, ?_⟩
  rcases lookN_ok (k := k) rn p with ⟨l1, l2⟩ | ⟨d, v, u, l1, l2, l3, l4⟩
  · rw [l2]
    exact ⟨z, H3, I3.tok _, rz, q3 l1⟩
  · rw [l2]
    exact ⟨v, H3, I3.tok _, l3, q4 d v l1 l4⟩
end
section
variable {C : Cn} {Wx : XK} {X : Cx} {o e f : Expr} {td ty tx : Ex} {apos cpos : Pos}
theorem se_getN [Fed] (hu : X.A.units + 64 < cLine) (ho : SE C Wx X o td) (he : SE C Wx X e ty) (hf : SE C Wx X f tx) (hK : X.K = C.K := by rfl) (m : M2 X o "get" apos e f cpos := by exact ⟨by rfl, by rfl, by rfl, by rfl⟩) : SE C Wx X (.Call (.Attribute o "get" apos) [e, f] [] cpos) (cGetN td ty tx) :=
  ⟨pe_imp (pe_getN hu ho.pe he.pe hf.pe m) fun σ H Q q => by
    obtain ⟨F, U, μ, env, h, l, ev, o⟩ := q
    refine rd_step l ev o fun x vx F1 U1 μ1 H1 h1 g1 p1 l1 r1 e1 o1 => ?_
    split at o1
    · rename_i kvs
      obtain ⟨a, L, rfl, hF, rn⟩ := r1
      refine ⟨a, L, kvs, rfl, l1.fh _ _ hF, ?_⟩
      refine rd_step l1 e1 o1 fun y vy F2 U2 μ2 H2 h2 g2 p2 l2 r2 e2 o2 => ?_
      refine rd_step l2 e2 o2 fun z vz F3 U3 μ3 H3 h3 g3 p3 l3 r3 e3 o3 => ?_
      split at o3
      · rename_i kd dz
        split at o3
        · rename_i k' ek
          split at o3
          · rename_i hd8
            have ry : RD C.K F3 vy (.tuple kd) := RD.mono g3.f r2
            have hb : ∃ b, vy = .ref b := by cases ry with | tup _ _ => exact ⟨_, rfl⟩
            obtain ⟨b, rfl⟩ := hb
            have gg := g2.f.trans g3.f
            refine ⟨F3, b, k', .tuple kd, rfl, l3.fh, l3.fh _ _ (gg _ _ hF), by rw [hK]; exact rn.mono gg, ek, hd8, by rw [hK]; exact ry, fun hn => ?_, fun d v hn rv => ?_⟩
            · rw [hn] at o3
              exact o3.here l3 r3
            · rw [hn] at o3
              rw [hK] at rv
              exact o3.here l3 rv
          · exact o3.elim
        · exact o3.elim
      · exact o3.elim
    · exact o1.elim⟩
end
end Pv

/-! QU: for x in xs[i:] + xs[:i], i not known: each turn passes alone. -/
namespace Pv
open PySem PySem.Spec PyProof.Rows L2
def envEq : Ev → Ev → Bool
  | [], [] => true
  | none :: a, none :: b => envEq a b
  | some (.dat x) :: a, some (.dat y) :: b => pdEq x y && envEq a b
  | _, _ => false
theorem envEq_ok [Fed] : ∀ {a b : Ev}, envEq a b = true → a = b ∧ ∀ (j : Nat) (x : Sl), b[j]? = some (some x) → ∃ d, x = .dat d
  | [], [], _ => ⟨rfl, fun j x h => by simp at h⟩
  | none :: a, none :: b, h => by
    obtain ⟨e, k⟩ := envEq_ok (show envEq a b = true from h)
    refine ⟨by rw [e], fun j x hj => ?_⟩
    cases j with
    | zero => simp at hj
    | succ j => exact k j x (by simpa using hj)
  | some (.dat x) :: a, some (.dat y) :: b, h => by
    have h : (pdEq x y && envEq a b) = true := h
    rw [Bool.and_eq_true] at h
    obtain ⟨e, k⟩ := envEq_ok h.2
    refine ⟨by rw [e, pdEq_ok h.1], fun j z hj => ?_⟩
    cases j with
    | zero => simp at hj; exact ⟨y, hj.symm⟩
    | succ j => exact k j z (by simpa using hj)
def aoEq : AO → AO → Bool
  | .fed [] a, .fed [] b => decide (a = b)
  | .dead, .dead => true
  | _, _ => false
theorem aoEq_ok : ∀ {a b : AO}, aoEq a b = true → a = b := by
  intro a b h
  unfold aoEq at h
  split at h
  · rw [of_decide_eq_true h]
  · rfl
  · cases h
def ahEq : AH → AH → Bool
  | [], [] => true
  | a :: as, b :: bs => aoEq a b && ahEq as bs
  | _, _ => false
theorem ahEq_ok : ∀ {a b : AH}, ahEq a b = true → a = b
  | [], [], _ => rfl
  | a :: as, b :: bs, h => by
    have h : (aoEq a b && ahEq as bs) = true := h
    rw [Bool.and_eq_true] at h
    rw [aoEq_ok h.1, ahEq_ok h.2]
  | [], _ :: _, h => by cases h
  | _ :: _, [], h => by cases h
def turnOk (tg : Tgt) (b : Sx) (fs : List Nat) (env0 : Ev) (h : AH) (d : PD) : Bool := match tg.asg d env0 with
  | some env1 => (match b env1 h with
    | .ok (.nx env2) h2 => envEq (wipeE env2 fs) env0 && ahEq (h2.take h.length) h
    | _ => false)
  | none => false
def sForR (a s : Nat) (fs : List Nat) (tg : Tgt) (b : Sx) : Sx := fun env h => match nth env a, nth env s with
  | some (some (.dat (.list ds))), some (some (.anyI _)) => if ds.length + ds.length ≤ sizeLine then (if ds.all (turnOk tg b fs (wipeE env fs) h) then .ok (.nx (wipeE env fs)) h else .no) else .no
  | _, _ => .no
def rotD (ds : List PD) (i : Int) : List PD := cutD ds (some i) none ++ cutD ds none (some i)
theorem cut_sub {ds : List PD} {lo hi : Option Int} : (∀ d ∈ cutD ds lo hi, d ∈ ds) ∧ (cutD ds lo hi).length ≤ ds.length := by
  unfold cutD
  refine ⟨fun d h => List.mem_of_mem_drop (List.mem_of_mem_take h), ?_⟩
  rw [List.length_take, List.length_drop]
  omega
theorem rot_sub {ds : List PD} {i : Int} : ∀ d ∈ rotD ds i, d ∈ ds := fun d h => by
  rcases List.mem_append.mp h with h | h
  · exact cut_sub.1 d h
  · exact cut_sub.1 d h
theorem EvR.forget [Fed] {K : PySem.W.Frag} {F : Hp} {μ : List Addr} {σ : L2.St} {env : Ev} (e : EvR K F μ σ env) : ∀ fs : List Nat, EvR K F μ σ (wipeE env fs)
  | [] => e
  | v :: vs => by
    have ih := EvR.forget e vs
    refine ⟨by show _ = (List.set _ _ _).length; rw [List.length_set]; exact ih.1, fun j x hj => ?_⟩
    have hj : ((wipeE env vs).set v none)[j]? = some (some x) := hj
    by_cases c : j = v
    · subst c
      have hl := (List.getElem?_eq_some_iff.mp hj).1
      rw [List.length_set] at hl
      rw [List.getElem?_set_self hl] at hj
      cases hj
    · rw [List.getElem?_set_ne (Ne.symm c)] at hj
      exact ih.2 j x hj
theorem pre_take {α : Type} {a b : List α} (p : a <+: b) : b.take a.length = a := by
  obtain ⟨t, rfl⟩ := p
  rw [List.take_append_of_le_length (Nat.le_refl _), List.take_length]
section
variable {C : Cn} {Wx : XK} {X : Cx} {tg iter : Expr} {body : List Stmt} {t : Tgt} {tb : Sx} {pos : Pos}
abbrev iRot (a s : Nat) : Ix := iSeqS (cBin (gAdd false) (cSlA false (cVar a) (pSome (cVar s)) pNone) (cSlA false (cVar a) pNone (pSome (cVar s))))
theorem iRot_eq {a s : Nat} {env : Ev} {h : AH} {ds : List PD} {i : Int} (ea : nth env a = some (some (.dat (.list ds)))) (es : nth env s = some (some (.dat (.int i)))) (hz : ds.length + ds.length ≤ sizeLine) : iRot a s env h = .ok (rotD ds i) h := by
  have va : cVar a env h = .ok (.dat (.list ds)) h := by unfold cVar; rw [ea]
  have vs : cVar s env h = .ok (.dat (.int i)) h := by unfold cVar; rw [es]
  have h1 : cSlA false (cVar a) (pSome (cVar s)) pNone env h = .ok (.dat (.list (cutD ds (some i) none))) h := by
    unfold cSlA
    rw [va]
    simp [cSl, va, pSome, vs, pNone, Res.bind, vw]
  have h2 : cSlA false (cVar a) pNone (pSome (cVar s)) env h = .ok (.dat (.list (cutD ds none (some i)))) h := by
    unfold cSlA
    rw [va]
    simp [cSl, va, pSome, vs, pNone, Res.bind, vw]
  have hl : (cutD ds (some i) none).length + (cutD ds none (some i)).length ≤ sizeLine := by
    have a1 := (cut_sub (ds := ds) (lo := some i) (hi := none)).2
    have a2 := (cut_sub (ds := ds) (lo := none) (hi := some i)).2
    omega
  unfold iRot iSeqS cBin
  rw [h1]
  simp [Res.bind, h2, gAdd, isI, isT, isS, gAddL, vwL, hl, rotD]
theorem ss_forR [Fed] (a s : Nat) (fs : List Nat) (hp : PassesOwn (model X.prog X.w) X.A X.env X.xe) (hi : SI C Wx X tg iter (iRot a s)) (hg : PG X tg (t.rd X.K)) (hb : SB C Wx X body tb) (hc : X.calm = true := by rfl) (hK : X.K = C.K := by rfl)
    (hs : ∀ x, foldedSetIterable iter X.env x = pure x := by intro _; rfl) : SS C Wx X (.For tg iter body [] pos) (sForR a s fs t tb) := ⟨ps_imp (ps_for hp hc hi.pi hg hb.pss hs) fun D σ H q => by
  obtain ⟨F, U, μ, env, h, l, ev, o⟩ := q
  unfold sForR at o
  split at o
  · rename_i ds n ea es
    split at o
    · rename_i hz
      split at o
      · rename_i hall
        have es' := es
        rw [nth_eq] at es'
        obtain ⟨v, hv, i, rfl, hi0, hin⟩ := ev.2 s _ es'
        have hls := (List.getElem?_eq_some_iff.mp es').1
        have evi : EvR C.K F μ σ (env.set s (some (.dat (.int i)))) := by
          refine ⟨by rw [List.length_set]; exact ev.1, fun j x hj => ?_⟩
          by_cases c : j = s
          · subst c
            rw [List.getElem?_set_self hls] at hj
            cases hj
            exact ⟨_, hv, RD.int i⟩
          · rw [List.getElem?_set_ne (Ne.symm c)] at hj
            exact ev.2 j x hj
        have hne : a ≠ s := fun z => by rw [z, es] at ea; cases ea
        have iti := iRot_eq (a := a) (s := s) (h := h) (env := env.set s (some (.dat (.int i)))) (ds := ds) (i := i) (by rw [nth_eq, List.getElem?_set_ne (Ne.symm hne), ← nth_eq]; exact ea) (by rw [nth_eq, List.getElem?_set_self hls]) hz
        generalize hL : rotD ds i = L at iti
        have sub : ∀ d ∈ L, turnOk t tb fs (wipeE env fs) h d = true := fun d hd => List.all_eq_true.mp hall d (rot_sub d (by rw [hL]; exact hd))
        refine ⟨F, U, μ, _, h, l, evi, ?_⟩
        rw [iti]
        intro J F1 U1 μ1 H1 g1 p1 l1 r1
        have o1 : Out C F1 U1 μ1 Wx (rFl C.K) (qD D) (.ok (.nx (wipeE env fs)) h) := o.mono g1 p1
        have e0 : EvR C.K F1 μ1 σ (wipeE env fs) := (ev.mono g1.f p1).forget fs
        generalize wipeE env fs = env0 at o1 e0 sub
        refine ⟨fun i m σ H => m = L.length - i ∧ i ≤ L.length ∧ ∃ F U, Gr F1 U1 F U ∧ Lk C.K F U μ1 H h ∧ EvR C.K F μ1 σ env0, ⟨_, rfl, Nat.zero_le _, F1, U1, Gr.refl, l1, e0⟩, ?_⟩
        rintro i m σ H ⟨rfl, hi, F2, U2, g2, l2, e2⟩
        by_cases hlt : i < L.length
        · obtain ⟨hgo, hy⟩ := (r1 F2 U2 μ1 H h g2.f l2 i).1 L[i] (by rw [List.getElem?_eq_getElem hlt])
          have tk := sub L[i] (List.getElem_mem hlt)
          unfold turnOk at tk
          split at tk
          · rename_i env1 ea1
            split at tk
            · rename_i env2 h2 eb
              rw [Bool.and_eq_true] at tk
              obtain ⟨ee, ed⟩ := envEq_ok tk.1
              have eh := ahEq_ok tk.2
              refine .inr ⟨hgo, fun σ' H' => ∃ F U, Gr F1 U1 F U ∧ Lk C.K F U μ1 H' h ∧ EvR C.K F μ1 σ' env0, fun σ' H' n => ⟨L.length - (i + 1), by omega, rfl, hlt, n⟩, fun x H' y => ?_⟩
              obtain ⟨F3, U3, g3, l3, d3⟩ := hy x H' y
              obtain ⟨σ3, e3, _, q3⟩ := Tgt.rd_ok t l3.fh (e2.mono g3.f (List.prefix_refl _)) d3 ea1
              rw [hK]
              refine q3 _ ⟨F3, U3, μ1, env1, h, l3, e3, ?_⟩
              rw [eb]
              intro fb F4 U4 μ4 H4 g4 p4 l4 r4
              cases fb with
              | nx σ4 =>
                have r4 : EvR C.K F4 μ4 σ4 env2 := r4
                have l5 := l4.cut h.length
                rw [eh, show h.length = μ1.length from l1.len.symm, pre_take p4] at l5
                have r5 := r4.forget fs
                rw [ee] at r5
                refine ⟨F4, U4, (g2.trans g3).trans g4, l5, r5.1, fun j x hj => ?_⟩
                obtain ⟨v, hv, rv⟩ := r5.2 j x hj
                obtain ⟨d, rfl⟩ := ed j x hj
                exact ⟨v, hv, rv⟩
              | _ => exact r4.elim
            · cases tk
          · cases tk
        · have e : i = L.length := by omega
          subst e
          exact .inl ⟨(r1 F2 U2 μ1 H h g2.f l2 _).2 rfl, Out.nxt (o1.mono g2 (List.prefix_refl _)) l2 e2⟩
      · exact o.elim
    · exact o.elim
  · exact o.elim⟩
end
end Pv

/-! QV: instances of plain classes whose attributes are data: made, attributes read and set, properties. -/
namespace Pv
open PySem PySem.Spec PyProof.Rows L2
/-- an object that nothing here tells of -/
theorem Lk.extH [Fed] {K : PySem.W.Frag} {F U H : Hp} {μ : List Addr} {h : AH} {p : Addr} {o : HO} (l : Lk K F U μ H h) (hp : H p = none) : Lk K F U μ (upd H p o) h := by
  refine ⟨l.fu, l.uh.trans (same_new hp), l.nod, l.len, fun a ha => ?_, fun k a x h1 h2 => ?_, l.tab.ext (same_new hp), l.ntb⟩
  · obtain ⟨x, e, en⟩ := l.trk a ha
    exact ⟨x, by rw [upd_ne (ne_of_none e hp)]; exact e, en⟩
  · obtain ⟨y, e, _⟩ := l.trk a (List.mem_of_getElem? h1)
    exact (l.obj k a x h1 h2).mono (Same.refl _) id (fun _ => upd_ne (ne_of_none e hp)) fun d e => by rw [upd_ne (ne_of_none e hp)]; exact e
theorem Lk.newIns [Fed] {K : PySem.W.Frag} {F U H : Hp} {μ : List Addr} {h : AH} {x dx : Addr} {c : Nat} (l : Lk K F U μ H h) (hx : H x = none) (hdx : H dx = none) (hne : dx ≠ x) :
    Lk K F U (μ ++ [x]) (upd (upd H dx (.own x)) x (.ins (Fed.kc K c) dx [])) (h ++ [.ins c []]) := by
  have l1 := l.extH (o := .own x) hdx
  have hx1 : (upd H dx (.own x)) x = none := by rw [upd_ne (Ne.symm hne)]; exact hx
  refine l1.newO (o := .ins (Fed.kc K c) dx []) (a' := .ins c []) hx1 ⟨same_none l1.uh hx1, dx, [], by rw [upd_same]; rfl, ?_, .nil⟩
  rw [upd_ne hne, upd_same]
def putA (f : Str) (d : PD) : List (Str × PD) → List (Str × PD)
  | [] => [(f, d)]
  | (g, x) :: r => if strEq g f then (g, d) :: r else (g, x) :: putA f d r
def lookA (f : Str) : List (Str × PD) → Option PD
  | [] => none
  | (g, x) :: r => if strEq g f then some x else lookA f r
theorem strEq_dec (a b : Str) : strEq a b = decide (a = b) := by
  rw [Bool.eq_iff_iff, strEq_iff, decide_eq_true_iff]
theorem putA_ok [Fed] {K : PySem.W.Frag} {F : Hp} {f : Str} {v : V} {d : PD} (r : RD K F v d) : ∀ {fs : List (Str × PD)} {vs : List V}, RDs K F vs (fs.map (·.2)) →
    ∃ vs', putF f v ((fs.map (·.1)).zip vs) = ((putA f d fs).map (·.1)).zip vs' ∧ RDs K F vs' ((putA f d fs).map (·.2))
  | [], vs, h => by
    cases h
    exact ⟨[v], rfl, .cons r .nil⟩
  | (g, x) :: fs, vs, h => by
    cases h with
    | @cons w ws _ _ a b =>
      unfold putA
      rw [strEq_dec]
      by_cases e : g = f
      · rw [decide_eq_true e, if_pos rfl]
        refine ⟨v :: ws, ?_, .cons r b⟩
        show putF f v ((g, w) :: _) = _
        unfold putF
        rw [if_pos e]
        rfl
      · rw [decide_eq_false e, if_neg Bool.false_ne_true]
        obtain ⟨vs', e1, e2⟩ := putA_ok r b
        refine ⟨w :: vs', ?_, .cons a e2⟩
        show putF f v ((g, w) :: (fs.map (·.1)).zip ws) = _
        unfold putF
        rw [if_neg e, e1]
        rfl
theorem lookA_ok [Fed] {K : PySem.W.Frag} {F : Hp} {f : Str} {d : PD} : ∀ {fs : List (Str × PD)} {vs : List V}, RDs K F vs (fs.map (·.2)) → lookA f fs = some d → ∃ v, ((fs.map (·.1)).zip vs).lookup f = some v ∧ RD K F v d
  | [], vs, h, e => by cases e
  | (g, x) :: fs, vs, h, e => by
    cases h with
    | @cons w ws _ _ a b =>
      unfold lookA at e
      rw [strEq_dec] at e
      by_cases c : g = f
      · rw [decide_eq_true c, if_pos rfl] at e
        cases e
        refine ⟨w, ?_, a⟩
        show List.lookup f ((g, w) :: _) = _
        rw [c, List.lookup_cons_self]
      · rw [decide_eq_false c, if_neg Bool.false_ne_true] at e
        obtain ⟨v, e1, e2⟩ := lookA_ok b e
        refine ⟨v, ?_, e2⟩
        show List.lookup f ((g, w) :: _) = _
        rw [List.lookup_cons, show (f == g) = false from beq_eq_false_iff_ne.mpr (Ne.symm c)]
        exact e1
/-- in which classes f is an attribute of the instance alone -/
structure TabN [Fed] (K : PySem.W.Frag) (f : Str) (tab : List Bool) : Prop where
  at_ : ∀ c, nthA tab c = some true → Cls K (Fed.kc K c) ∧ NoAttr K (Fed.kc K c) f
theorem tabn_nil [Fed] {K : PySem.W.Frag} {f : Str} (j0 : Nat) : ∀ c, nthA ([] : List Bool) c = some true → Cls K (Fed.kc K (j0 + c)) ∧ NoAttr K (Fed.kc K (j0 + c)) f := fun c h => by cases c <;> cases h
theorem tabn_skip [Fed] {K : PySem.W.Frag} {f : Str} {tab : List Bool} {j0 : Nat} (h : ∀ c, nthA tab c = some true → Cls K (Fed.kc K (j0 + 1 + c)) ∧ NoAttr K (Fed.kc K (j0 + 1 + c)) f) : ∀ c, nthA (false :: tab) c = some true → Cls K (Fed.kc K (j0 + c)) ∧ NoAttr K (Fed.kc K (j0 + c)) f := fun c q => by
  cases c with
  | zero => cases q
  | succ c =>
    have := h c q
    rwa [show j0 + 1 + c = j0 + (c + 1) by omega] at this
theorem tabn_cons [Fed] {K : PySem.W.Frag} {f : Str} {tab : List Bool} {j0 : Nat} {A : Addr} (e : Fed.kc K j0 = A) (h1 : Cls K A) (h2 : NoAttr K A f) (h : ∀ c, nthA tab c = some true → Cls K (Fed.kc K (j0 + 1 + c)) ∧ NoAttr K (Fed.kc K (j0 + 1 + c)) f) : ∀ c, nthA (true :: tab) c = some true → Cls K (Fed.kc K (j0 + c)) ∧ NoAttr K (Fed.kc K (j0 + c)) f := fun c q => by
  cases c with
  | zero =>
    subst e
    exact ⟨h1, h2⟩
  | succ c =>
    have := h c q
    rwa [show j0 + 1 + c = j0 + (c + 1) by omega] at this
theorem tabn_of [Fed] {K : PySem.W.Frag} {f : Str} {tab : List Bool} (h : ∀ c, nthA tab c = some true → Cls K (Fed.kc K (0 + c)) ∧ NoAttr K (Fed.kc K (0 + c)) f) : TabN K f tab := ⟨fun c q => by
  have := h c q
  rwa [Nat.zero_add] at this⟩
def cAttr (tab : List Bool) (f : Str) (to : Ex) : Ex := fun env h => (to env h).bind fun x h1 => match x with
  | .obj k => match h1[k]? with
    | some (.ins c fs) => (match nthA tab c with
      | some true => (match lookA f fs with
        | some d => .ok (.dat d) h1
        | none => .no)
      | _ => .no)
    | _ => .no
  | _ => .no
def sAttr (tab : List Bool) (f : Str) (to tv : Ex) : Sx := fun env h => (tv env h).bind fun y h1 => (to env h1).bind fun x h2 => match x, y with
  | .obj k, .dat d => match h2[k]? with
    | some (.ins c fs) => (match nthA tab c with
      | some true => if fs.length < 900 then .ok (.nx env) (h2.set k (.ins c (putA f d fs))) else .no
      | _ => .no)
    | _ => .no
  | _, _ => .no
section
variable {C : Cn} {Wx : XK} {X : Cx} {o value : Expr} {to tv : Ex} {f : Str} {tab : List Bool} {pos pos' : Pos}
theorem se_attr [Fed] (T : TabN C.K f tab) (ho : SE C Wx X o to) (hK : X.K = C.K := by rfl) (hb : attributeBase o f X.env (eval o X.env) = eval o X.env := by rfl) : SE C Wx X (.Attribute o f pos) (cAttr tab f to) := ⟨pe_imp (pe_fld ho.pe hb) fun σ H Q q => by
  obtain ⟨F, U, μ, env, h, l, ev, o⟩ := q
  refine rd_step l ev o fun x vx F1 U1 μ1 H1 h1 g1 p1 l1 r1 e1 o1 => ?_
  split at o1
  · rename_i k
    obtain ⟨a, ha, rfl⟩ := r1
    split at o1
    · rename_i c fs hk
      split at o1
      · rename_i hc
        split at o1
        · rename_i d hd
          obtain ⟨hU, dx, vs, hH, hO, rs⟩ := l1.obj k a _ ha hk
          obtain ⟨v, e1', rv⟩ := lookA_ok rs hd
          obtain ⟨c1, c2⟩ := T.at_ c hc
          rw [hK]
          exact ⟨a, _, dx, _, v, rfl, hH, c1, c2, e1', o1.here l1 rv⟩
        · exact o1.elim
      · exact o1.elim
    · exact o1.elim
  · exact o1.elim⟩
theorem ss_attr [Fed] (T : TabN C.K f tab) (ho : SE C Wx X o to) (hv : SE C Wx X value tv) (hK : X.K = C.K := by rfl) (hs : swapsWith value (some (.Attribute o f pos')) pos.line X.env = pure false := by rfl) : SS C Wx X (.Assign [.Attribute o f pos'] value pos) (sAttr tab f to tv) :=
  ⟨ps_imp (ps_fld ho.pe hv.pe hs) fun D σ H q => by
    obtain ⟨F, U, μ, env, h, l, ev, o⟩ := q
    refine rd_step l ev o fun y vy F1 U1 μ1 H1 h1 g1 p1 l1 r1 e1 o1 => ?_
    refine rd_step l1 e1 o1 fun x vx F2 U2 μ2 H2 h2 g2 p2 l2 r2 e2 o2 => ?_
    split at o2
    · rename_i k d
      obtain ⟨a, ha, rfl⟩ := r2
      split at o2
      · rename_i c fs hk
        split at o2
        · rename_i hc
          split at o2
          · rename_i hz
            obtain ⟨hU, dx, vs, hH, hO, rs⟩ := l2.obj k a _ ha hk
            obtain ⟨c1, c2⟩ := T.at_ c hc
            have rd : RD C.K F2 vy d := RD.mono g2.f r1
            obtain ⟨vs', e3, rs'⟩ := putA_ok (f := f) rd rs
            rw [hK]
            refine ⟨a, _, dx, _, rfl, hH, c1, c2, ?_, ?_⟩
            · have : ((fs.map (·.1)).zip vs).length ≤ fs.length := by rw [List.length_zip, List.length_map]; omega
              omega
            · have hne : dx ≠ a := fun z => by rw [z, hH] at hO; cases hO
              exact o2.nxt (l2.put ha hk hU ⟨hU, dx, vs', by rw [upd_same, e3], by rw [upd_ne hne]; exact hO, rs'⟩) e2
          · exact o2.elim
        · exact o2.elim
      · exact o2.elim
    · exact o2.elim⟩
end
/-! ### C(..) -/
def cMake (c : Nat) (m : Fm) (n nk : Nat) (ss : List Src) (dds : List PD) (tr tk : Ax) : Ex := fun env h => (tr env h).bind fun xs h1 => (tk env h1).bind fun zs h2 =>
  if xs.length = n ∧ zs.length = nk then (m (pick ss (.obj h2.length :: xs) (dds.map .dat) [] zs) (h2 ++ [.ins c []])).bind fun r h3 => (match r with
    | .dat .none => .ok (.obj h2.length) h3
    | _ => .no) else .no
theorem make_guards {A : Around} {C : Addr} {us : List Value} {kw : List (Str × Value)} (h : A.guards = some []) : (A.under (.builtin "type.__call__" ⟨.ref C :: us, kw⟩)).guards = some [] := by
  have g : (Code.builtin "type.__call__" ⟨.ref C :: us, kw⟩).guards = [] := by
    unfold Code.guards
    rw [show Code.isGuard (Code.builtin "type.__call__" ⟨.ref C :: us, kw⟩) = guardIds.contains "type.__call__" from rfl, show guardIds.contains "type.__call__" = false by decide +kernel]
    rfl
  unfold Around.under
  rw [g]
  exact h
section
variable {X : Cx} {C : Cn} {Wx : XK} {k n c : Nat} {f CA : Addr} {fd : FuncData} {ps ks : List Str} {m : Fm} {x : Str} {p pos kpos : Pos} {e : Expr} {es : List Expr} {kws : List Keyword} {tr tk : Ax} {ss : List Src} {dvs : List V} {dds : List PD}
theorem run_mkv [Fed] {pins : List (Addr × Obj)} {σ : L2.St} {H : Hp} {s : Shared} {Q : VK} {us ws : List Value} {vs zs : List V} {xs ys : List Sl} {F U : Hp} {μ : List Addr} {h : AH} (M : Mk X.K CA f) (hCA : Fed.kc C.K c = CA) (hKC : C.K = X.K) (Fv : FnV X.prog X.w X.K X.mg X.base C k f fd ps m) (hr : Room (k + 1) X.A) (hg : X.A.guards = some []) (hb : Bnd X.K fd ps (n + 1) ks ss dvs [])
    (hd : ∀ F, RDs C.K F dvs dds) (hx : Passes (CX X.prog X.w) X Wx) (I : L2.Inv X pins σ H s) (r : Vals vs us) (rz : Vals zs ws) (l : Lk C.K F U μ H h) (rx : SlRs C.K F μ vs xs) (ry : SlRs C.K F μ zs ys) (h1 : xs.length = n) (h2 : ys.length = ks.length)
    (o : Out C F U μ Wx (rSl C.K) Q ((m (pick ss (.obj h.length :: xs) (dds.map .dat) [] ys) (h ++ [.ins c []])).bind fun r h3 => (match r with
      | .dat .none => .ok (.obj h.length) h3
      | _ => .no))) : wpAny (model X.prog X.w) X.A (call (.ref CA) us (ks.zip ws)) (EP X pins σ Q) X.xe s := by
  have hxn : H (s.heap.objs.size + 1) = none := I.hok.fresh (Nat.le_succ _)
  have hdn : H s.heap.objs.size = none := I.hok.fresh (Nat.le_refl _)
  have hne : s.heap.objs.size ≠ s.heap.objs.size + 1 := Nat.ne_of_lt (Nat.lt_succ_self _)
  have I2 := Inv.made (C := CA) I
  have l2 := l.newIns (c := c) hxn hdn hne
  rw [hCA] at l2
  obtain ⟨its, mv, rD, rM, hto⟩ := hb.ex
  cases rM
  have e1 : (Value.ref (s.heap.objs.size + 1) :: us).length = n + 1 := congrArg Nat.succ (r.length.symm.trans (rx.len.trans h1))
  obtain ⟨b1, b2⟩ := hto _ (Value.ref (s.heap.objs.size + 1) :: us) ws I2.kIn e1 (rz.length.symm.trans (ry.len.trans h2))
  have r1 : Vals (V.ref (s.heap.objs.size + 1) :: vs) (Value.ref (s.heap.objs.size + 1) :: us) := .cons rfl r
  have rr : Vals (pick ss (V.ref (s.heap.objs.size + 1) :: vs) dvs [] zs) (pick ss (Value.ref (s.heap.objs.size + 1) :: us) its [] ws) := Paired.pick r1 rD .nil rz ss
  have rx1 : SlRs C.K F (μ ++ [s.heap.objs.size + 1]) (V.ref (s.heap.objs.size + 1) :: vs) (.obj h.length :: xs) := .cons ⟨_, by rw [← l.len, List.getElem?_append_right (Nat.le_refl _)]; simp, rfl⟩ (rx.mono (Same.refl _) (List.prefix_append _ _))
  have ro : SlRs C.K F (μ ++ [s.heap.objs.size + 1]) (pick ss (V.ref (s.heap.objs.size + 1) :: vs) dvs [] zs) (pick ss (.obj h.length :: xs) (dds.map .dat) [] ys) := Paired.pick rx1 (rds_sl (hd F)) .nil (ry.mono (Same.refl _) (List.prefix_append _ _)) ss
  refine wpAny_call (make_map (f := f) I.kIn M.makes M.init (beq_iff_eq.mp M.fn) (codeAny_mono (Fv.run _ X.stack _ _ ⟨Value.ref (s.heap.objs.size + 1) :: us, ks.zip ws⟩ _ _ (fun v H2 => v = .non ∧ Q (.ref (s.heap.objs.size + 1)) H2) Wx (hr.make CA us (ks.zip ws)) (make_guards hg)
    (I2.env0.make CA us (ks.zip ws)) b1 b2 rr ⟨F, U, μ ++ [s.heap.objs.size + 1], _, _, l2, ro, ?_⟩) fun r s' hq' => ?_))
  · have o2 := o.mono (Gr.refl) (List.prefix_append μ [s.heap.objs.size + 1])
    refine o2.bind fun a b F' U' μ' H' h' g p l' r' o' => ?_
    split at o'
    · cases r'
      exact ⟨rfl, o'.here l' ⟨_, pre_get p (by rw [← l.len, List.getElem?_append_right (Nat.le_refl _)]; simp), rfl⟩⟩
    · exact o'.elim
  · cases r with
    | error e => exact hx pins σ _ _ e s' I2 hq'
    | ok fl =>
      cases fl with
      | ret u =>
        obtain ⟨v, H', I3, rv, ev, q3⟩ := I2.after hq'
        subst ev
        exact ⟨rv, ⟨V.ref (s.heap.objs.size + 1), H', I3, rfl, q3⟩⟩
      | next => exact False.elim hq'
      | brk => exact False.elim hq'
      | cont => exact False.elim hq'
theorem se_make [Fed] (M : Mk X.K CA f) (hCA : Fed.kc C.K c = CA) (Fv : FnV X.prog X.w X.K X.mg X.base C k f fd ps m) (hr : Room (k + 1) X.A) (hg : X.A.guards = some []) (hx : Passes (CX X.prog X.w) X Wx) (hgl : Gl X x) (hm : X.mg x = some (.ref CA)) (hb : Bnd X.K fd ps (n + 1) [] ss dvs [])
    (hd : ∀ F, RDs C.K F dvs dds) (ha : SA C Wx X (e :: es) tr) (hKC : C.K = X.K := by rfl) (hdb : (x == ("__debug__" : Str)) = false := by decide) (he : starEach (e :: es) X.env = (false, eval e X.env) :: starEach es X.env := by rfl) (hpl : (backTo pos (starEach es X.env)).any (·.1) = false := by rfl) :
    SE C Wx X (.Call (.Name x p) (e :: es) [] pos) (cMake c m n 0 ss dds tr aNil) := by
  refine ⟨⟨fun pins s σ H Q I q => ?_⟩⟩
  obtain ⟨F, U, μ, env, h, l, ev, o⟩ := q
  refine wpAny_Call_Name_kw (ld_glob I hgl hm ?_ hdb)
  refine PySem.W.callWith_K (h₀ := X.base) I.ok.mod.kin M.kp (thn (ha.pa.run pos pins s σ H (fun vs H1 => ∃ F1 U1 μ1 xs h1, Lk C.K F1 U1 μ1 H1 h1 ∧ SlRs C.K F1 μ1 vs xs ∧ xs.length = n ∧ Out C F1 U1 μ1 Wx (rSl C.K) Q ((m (pick ss (.obj h1.length :: xs) (dds.map .dat) [] []) (h1 ++ [.ins c []])).bind fun r h3 => (match r with
      | .dat .none => .ok (.obj h1.length) h3
      | _ => .no))) I ?_) fun us s1 ⟨vs, H1, I1, r, F1, U1, μ1, xs, h1, l1, rx, hn, o1⟩ => ⟨I1.kIn, ?_⟩) he hpl
  · refine rd_step l ev o fun xs vs F1 U1 μ1 H1 h1 g1 p1 l1 r1 e1 o1 => ?_
    have o2 : Out C F1 U1 μ1 Wx (rSl C.K) Q (if xs.length = n ∧ 0 = 0 then _ else .no) := o1
    split at o2
    · rename_i hc
      exact ⟨F1, U1, μ1, xs, h1, l1, r1, hc.1, o2⟩
    · exact o2.elim
  · exact run_mkv (ks := []) (ws := []) (zs := []) (ys := []) M hCA hKC Fv hr hg hb hd hx I1 r .nil l1 rx .nil hn rfl o1
theorem se_makeK0 [Fed] (M : Mk X.K CA f) (hCA : Fed.kc C.K c = CA) (Fv : FnV X.prog X.w X.K X.mg X.base C k f fd ps m) (hr : Room (k + 1) X.A) (hg : X.A.guards = some []) (hx : Passes (CX X.prog X.w) X Wx) (hgl : Gl X x) (hm : X.mg x = some (.ref CA)) (hb : Bnd X.K fd ps 1 ks ss dvs [])
    (hd : ∀ F, RDs C.K F dvs dds) (hkw : SK C Wx X kws tk) (hall : (backToKw pos (keywordEach kws X.env)).all (·.1.isSome) = true := by rfl) (hks : (backToKw pos (keywordEach kws X.env)).filterMap (·.1) = ks := by rfl)
    (hKC : C.K = X.K := by rfl) (hdb : (x == ("__debug__" : Str)) = false := by decide)
    (hpl : ((backTo pos (starEach [] X.env)).any (·.1) || (backToKw pos (keywordEach kws X.env)).any (·.1.isNone)) = false := by rfl) :
    SE C Wx X (.Call (.Name x p) [] kws pos) (cMake c m 0 ks.length ss dds aNil tk) := by
  refine ⟨⟨fun pins s σ H Q I q => ?_⟩⟩
  obtain ⟨F, U, μ, env, h, l, ev, o⟩ := q
  refine wpAny_Call_Name_kw (ld_glob I hgl hm ?_ hdb)
  refine PySem.W.callWith_KW0 (h₀ := X.base) I.ok.mod.kin M.kp hall (thn (hkw.pk.run pos pins s σ H (fun zs H2 => ∃ F1 U1 μ1 ys h1, Lk C.K F1 U1 μ1 H2 h1 ∧ SlRs C.K F1 μ1 zs ys ∧ ys.length = ks.length ∧ Out C F1 U1 μ1 Wx (rSl C.K) Q ((m (pick ss [.obj h1.length] (dds.map .dat) [] ys) (h1 ++ [.ins c []])).bind fun r h3 => (match r with
      | .dat .none => .ok (.obj h1.length) h3
      | _ => .no))) I ?_) fun ws s2 ⟨zs, H2, I2, rz, F1, U1, μ1, ys, h1, l1, ry, hk2, o1⟩ => ⟨I2.kIn, ?_⟩) hpl
  · have o' : Out C F U μ Wx (rSl C.K) Q ((tk env h).bind fun zs h2 => if (0 = 0 ∧ zs.length = ks.length) then _ else .no) := o
    refine rd_step l ev o' fun ys zs F2 U2 μ2 H2 h2 g2 p2 l2 r2 e2 o2 => ?_
    split at o2
    · rename_i hc
      exact ⟨F2, U2, μ2, ys, h2, l2, r2, hc.2, o2⟩
    · exact o2.elim
  · rw [hks]
    exact run_mkv (us := []) (vs := []) (xs := []) M hCA hKC Fv hr hg hb hd hx I2 .nil rz l1 .nil ry rfl hk2 o1
end
/-! ### a property -/
structure OneP [Fed] (X : Cx) (C : Cn) (k : Nat) (f : Str) (c : Nat) (m : Fm) : Prop where
  ex : ∃ (p g : Addr) (fd : FuncData) (ps : List Str), Cls X.K (Fed.kc C.K c) ∧ PropOf X.K (Fed.kc C.K c) f p g ∧ FnV X.prog X.w X.K X.mg X.base C k g fd ps m ∧ Binds X.K fd ps [] ∧ ps.length = 1
def TabP [Fed] (X : Cx) (C : Cn) (k : Nat) (f : Str) (tb : List (Option Fm)) : Prop := ∀ c m, nthA tb c = some (some m) → OneP X C k f c m
theorem tabp_nil [Fed] {X : Cx} {C : Cn} {k : Nat} {f : Str} (j0 : Nat) : ∀ j m, nthA ([] : List (Option Fm)) j = some (some m) → OneP X C k f (j0 + j) m := fun j m h => by cases j <;> cases h
theorem tabp_skip [Fed] {X : Cx} {C : Cn} {k j0 : Nat} {f : Str} {tb : List (Option Fm)} (h : ∀ j m, nthA tb j = some (some m) → OneP X C k f (j0 + 1 + j) m) : ∀ j m, nthA (none :: tb) j = some (some m) → OneP X C k f (j0 + j) m := fun j m q => by
  cases j with
  | zero => cases q
  | succ j =>
    have := h j m q
    rwa [show j0 + 1 + j = j0 + (j + 1) by omega] at this
theorem tabp_cons [Fed] {X : Cx} {C : Cn} {k j0 : Nat} {f : Str} {tb : List (Option Fm)} {m0 : Fm} (o : OneP X C k f j0 m0) (h : ∀ j m, nthA tb j = some (some m) → OneP X C k f (j0 + 1 + j) m) : ∀ j m, nthA (some m0 :: tb) j = some (some m) → OneP X C k f (j0 + j) m := fun j m q => by
  cases j with
  | zero =>
    cases q
    exact o
  | succ j =>
    have := h j m q
    rwa [show j0 + 1 + j = j0 + (j + 1) by omega] at this
theorem onep_of [Fed] {X : Cx} {C : Cn} {k c : Nat} {f : Str} {m : Fm} {A p g : Addr} {fd : FuncData} {ps : List Str} (e : Fed.kc C.K c = A) (h1 : Cls X.K A) (h2 : PropOf X.K A f p g) (V : FnV X.prog X.w X.K X.mg X.base C k g fd ps m) (b : Binds X.K fd ps []) (hn : ps.length = 1) : OneP X C k f c m := by
  subst e
  exact ⟨p, g, fd, ps, h1, h2, V, b, hn⟩
theorem tabp_of [Fed] {X : Cx} {C : Cn} {k : Nat} {f : Str} {tb : List (Option Fm)} (h : ∀ j m, nthA tb j = some (some m) → OneP X C k f (0 + j) m) : TabP X C k f tb := fun c m q => by
  have := h c m q
  rwa [Nat.zero_add] at this
def cProp (tb : List (Option Fm)) (to : Ex) : Ex := fun env h => (to env h).bind fun x h1 => match x with
  | .obj k => match h1[k]? with
    | some (.ins c _) => (match nthA tb c with
      | some (some m) => strict (m [.obj k] h1)
      | _ => .no)
    | _ => .no
  | _ => .no
section
variable {C : Cn} {Wx : XK} {X : Cx} {o : Expr} {to : Ex} {f : Str} {tb : List (Option Fm)} {pos : Pos} {k : Nat}
theorem se_prop [Fed] (T : TabP X C k f tb) (hr : Room (k + 1) X.A) (hg : X.A.guards = some []) (ho : SE C Wx X o to) (hK : X.K = C.K := by rfl) (hab : attributeBase o f X.env (eval o X.env) = eval o X.env := by rfl) : SE C Wx X (.Attribute o f pos) (cProp tb to) := by
  refine ⟨⟨fun pins s σ H Q I q => ?_⟩⟩
  obtain ⟨F, U, μ, env, h, l, ev, o⟩ := q
  refine attr_of hab (thn (ho.pe.run pins s σ H (fun v H1 => ∃ F1 U1 μ1 k h1 c fs m a, v = .ref a ∧ Lk C.K F1 U1 μ1 H1 h1 ∧ μ1[k]? = some a ∧ h1[k]? = some (.ins c fs) ∧ nthA tb c = some (some m) ∧ Out C F1 U1 μ1 Wx (rSl C.K) Q (strict (m [.obj k] h1))) I ?_) fun u s1 ⟨v, H1, I1, r1, F1, U1, μ1, kk, h1, c, fs, m, a, ea, l1, hk, hh, hc, o1⟩ => ?_)
  · refine rd_step l ev o fun x vx F1 U1 μ1 H1 h1 g1 p1 l1 r1 e1 o1 => ?_
    split at o1
    · rename_i kk
      obtain ⟨a, ha, rfl⟩ := r1
      split at o1
      · rename_i c fs hk
        split at o1
        · rename_i m hc
          exact ⟨F1, U1, μ1, kk, h1, c, fs, m, a, rfl, l1, ha, hk, hc, o1⟩
        · exact o1.elim
      · exact o1.elim
    · exact o1.elim
  · subst ea
    obtain rfl : u = Value.ref a := r1
    obtain ⟨p, g, fd, ps, c1, hp, Fv, hb, hps⟩ := (T c m hc).ex
    obtain ⟨hU, dx, vs, hH, hO, rs⟩ := l1.obj kk a _ hk hh
    rw [← hK] at hH
    rw [← hK] at c1 hp
    obtain ⟨mA, O, _, _, _, _⟩ := ins_get I1.hok hH
    obtain ⟨od, J, _⟩ := O.look
    obtain ⟨rest, hrec⟩ := hp.rec_
    have I2 := I1.tok (s1.toks + 1)
    have hcl : (PySem.W.clsIn X.K (Fed.kc X.K c)).isSome = true := by
      obtain ⟨cd, hc, _⟩ := PySem.W.any_some c1.hd
      rw [hc]
      rfl
    refine PySem.W.get_bind I1.kIn J (PySem.W.plainGet_of (c1.get f)).1 (PySem.W.findObj_data hcl hp.at_ hp.get hp.tak) (PySem.W.plainGet_of (c1.get f)).2 (wpAny_call (PySem.W.prop_get (s := { s1 with toks := s1.toks + 1 }) I1.kIn hrec ?_))
    have hbb := hb { s1 with toks := s1.toks + 1 } [.ref a] I1.kIn (by show 1 + 0 = ps.length; omega)
    rw [List.append_nil] at hbb
    have o2 : Out C F1 U1 μ1 (fun _ _ _ => False) (rSl C.K) Q (m [.obj kk] h1) := by
      cases z : m [.obj kk] h1 with
      | ok x h' => rw [z] at o1; exact o1
      | exc _ _ _ => rw [z] at o1; exact o1.elim
      | no => rw [z] at o1; exact o1.elim
    refine codeAny_mono (Fv.run X.A.in1 X.stack { s1 with toks := s1.toks + 1 } H1 ⟨[.ref a], []⟩ [.ref a] [.ref a] Q (fun _ _ _ => False) hr.in1 hg I2.env0.in1 hbb (by show 1 = ps.length; omega) (.cons rfl .nil) ⟨F1, U1, μ1, h1, [.obj kk], l1, .cons ⟨a, hk, rfl⟩ .nil, o2⟩) fun r s' hq => ?_
    cases r with
    | error er =>
      have z : X.nox.xe er s' := passes_no (X := X.nox) pins σ H1 { s1 with toks := s1.toks + 1 } er s' (I2.wish _) hq
      exact False.elim z
    | ok fl =>
      cases fl with
      | ret u =>
        obtain ⟨v, H', I3, rv, q3⟩ := I2.after hq
        show wpAny _ _ (handedOut u) _ _ _
        rw [PySem.W.handedOut_of (handed_of rv)]
        exact wpAny_pure ⟨v, H', I3, rv, q3⟩
      | next => exact False.elim hq
      | brk => exact False.elim hq
      | cont => exact False.elim hq
end
end Pv

namespace Pv
open PySem PySem.Spec PyProof.Rows L2
/-! ### the head's run in parts -/
section
variable {α β γ : Type}
theorem map_two {X : Option α} {f : α → β} {g : α → γ} {b : β} {c : γ} (h1 : X.map f = some b) (h2 : X.map g = some c) : X.map (fun s => (f s, g s)) = some (b, c) := by
  cases X with
  | none => cases h1
  | some x =>
    have h1 : f x = b := by simpa using h1
    have h2 : g x = c := by simpa using h2
    simp [h1, h2]
def combP (a b : AlP) : AlP := ((a.1.1 && b.1.1, a.1.2 ++ b.1.2), a.2.1 ++ b.2.1, a.2.2 && b.2.2)
abbrev trP : PySem.W.Frag → Bool := fun _ => true
theorem and4 (a b c d : Bool) : ((a && b) && (c && d)) = ((a && c) && (b && d)) := by cases a <;> cases b <;> cases c <;> cases d <;> rfl
theorem obsP_comb (n : Nat) (fa1 fa2 : List He.Fa) (fn1 fn2 : List He.DefD) (ic : List IniD) (tf : List He.Defn) (ex : PySem.W.Frag → Bool) (g : Addr → Option Obj) : obsP n (fa1 ++ fa2) (fn1 ++ fn2) ic tf ex g = combP (obsP n fa1 fn1 [] [] trP g) (obsP n fa2 fn2 ic tf ex g) := by
  simp only [obsP, obsK, combP, He.obsD, He.tabsB, trP, List.all_append, List.map_append, and4, List.map_nil, List.nil_append, List.all_nil, Bool.and_true, Bool.true_and]
theorem valP_comb (fn1 fn2 : List He.DefD) (ic : List IniD) : valP (fn1 ++ fn2) ic = combP (valP fn1 []) (valP fn2 ic) := by
  simp [valP, combP, He.valD]
theorem obs_comb {X : Option PySem.W.SharedT} {n : Nat} {fa1 fa2 : List He.Fa} {fn1 fn2 : List He.DefD} {ic : List IniD} {tf : List He.Defn} {ex : PySem.W.Frag → Bool}
    (h1 : X.map (fun s => obsP n fa1 fn1 [] [] trP (HandSHeadRun.getT s)) = some (valP fn1 [])) (h2 : X.map (fun s => obsP n fa2 fn2 ic tf ex (HandSHeadRun.getT s)) = some (valP fn2 ic)) :
    X.map (fun s => obsP n (fa1 ++ fa2) (fn1 ++ fn2) ic tf ex (HandSHeadRun.getT s)) = some (valP (fn1 ++ fn2) ic) := by
  cases X with
  | none => cases h1
  | some x =>
    have h1 : obsP n fa1 fn1 [] [] trP (HandSHeadRun.getT x) = valP fn1 [] := by simpa using h1
    have h2 : obsP n fa2 fn2 ic tf ex (HandSHeadRun.getT x) = valP fn2 ic := by simpa using h2
    simp [obsP_comb, valP_comb, h1, h2]
end
section
open PySem.W PySem.W.Fast PySem.Calls HandSHeadRun
theorem run_parts {r : OpenRow} {q : Program} {n M : Nat} {fa : List He.Fa} {fn : List He.DefD} {ic : List IniD} {tf : List He.Defn} {ex : PySem.W.Frag → Bool} {loose : List PySem.Str} {w : World}
    (h1 : ∀ os : OsState, (endF (stepQ (denQ tabQ) r.prog w) M r.prog w os).map (fun s => looksF r.prog (boot_heap w.params) s.abs) = some true)
    (h2 : ∀ os : OsState, (endF (stepQ (denQ tabQ) r.prog w) M r.prog w os).map (fun s => seenQ q loose (importedModules r.prog.main.body) (fun s => xlAt q [] s && recOk r.toRowW.records s) s.abs) = some (openGood q loose))
    (h3 : ∀ os : OsState, (endF (stepQ (denQ tabQ) r.prog w) M r.prog w os).map (fun s => obsP n fa fn ic tf ex (HandSHeadRun.getT s)) = some (valP fn ic)) :
    RunEq r q (hookP n fa fn ic tf ex) (fun s => obsP n fa fn ic tf ex (HandSHeadRun.getT s)) M loose w := fun os => map_two (h1 os) (map_two (h2 os) (h3 os))
end
end Pv

/-! QX: sorted of a list of tuples of ints (fewer than 64, of one length, none below 0). -/
namespace Pv
open PySem PySem.Spec PyProof.Rows L2
def insT (k : List Int) : List (List Int) → List (List Int)
  | [] => [k]
  | x :: xs => if TS.code bigB k ≤ TS.code bigB x then k :: x :: xs else x :: insT k xs
def sortT : List (List Int) → List (List Int)
  | [] => []
  | x :: xs => insT x (sortT xs)
theorem insT_perm (x : List Int) : ∀ ys : List (List Int), (insT x ys).Perm (x :: ys)
  | [] => .refl _
  | y :: ys => by
    unfold insT
    split
    · exact .refl _
    · exact ((insT_perm x ys).cons y).trans (.swap x y ys)
theorem sortT_perm : ∀ xs : List (List Int), (sortT xs).Perm xs
  | [] => .refl _
  | x :: xs => (insT_perm x _).trans ((sortT_perm xs).cons x)
theorem insT_sorted (x : List Int) : ∀ {ys : List (List Int)}, ys.Pairwise (fun a b => TS.code bigB a ≤ TS.code bigB b) → (insT x ys).Pairwise (fun a b => TS.code bigB a ≤ TS.code bigB b)
  | [], _ => by unfold insT; exact List.pairwise_cons.mpr ⟨fun _ z => absurd z (by simp), .nil⟩
  | y :: ys, h => by
    unfold insT
    obtain ⟨h1, h2⟩ := List.pairwise_cons.mp h
    split
    · rename_i c
      refine List.pairwise_cons.mpr ⟨fun z hz => ?_, h⟩
      rcases List.mem_cons.mp hz with e | e
      · rw [e]; exact c
      · have := h1 z e; omega
    · rename_i c
      refine List.pairwise_cons.mpr ⟨fun z hz => ?_, insT_sorted x h2⟩
      rcases List.mem_cons.mp ((insT_perm x ys).mem_iff.mp hz) with e | e
      · rw [e]; omega
      · exact h1 z e
theorem sortT_sorted : ∀ xs : List (List Int), (sortT xs).Pairwise (fun a b => TS.code bigB a ≤ TS.code bigB b)
  | [] => .nil
  | x :: xs => insT_sorted x (sortT_sorted xs)
theorem codeT_inj : ∀ {r q : List Int}, r.length = q.length → TS.Bd bigB r → TS.Bd bigB q → TS.code bigB r = TS.code bigB q → r = q
  | [], [], _, _, _, _ => rfl
  | [], _ :: _, h, _, _, _ => by simp at h
  | _ :: _, [], h, _, _, _ => by simp at h
  | d :: r, e :: q, h, b1, b2, hc => by
    have hl : r.length = q.length := by simpa using h
    have t1 : TS.Bd bigB r := fun m hm => b1 m (List.mem_cons_of_mem _ hm)
    have t2 : TS.Bd bigB q := fun m hm => b2 m (List.mem_cons_of_mem _ hm)
    rcases Int.lt_trichotomy d e with c | c | c
    · have := TS.code_lt hl t1 t2 c; omega
    · subst c
      rcases Int.lt_trichotomy (TS.code bigB r) (TS.code bigB q) with k | k | k
      · have := (TS.code_same (d := d) hl).mpr k; omega
      · rw [codeT_inj hl t1 t2 k]
      · have := (TS.code_same (d := d) hl.symm).mpr k; omega
    · have := TS.code_lt hl.symm t2 t1 c; omega
theorem codesT_inj {d : Nat} : ∀ {M N : List (List Int)}, (∀ x ∈ M, x.length = d ∧ TS.Bd bigB x) → (∀ x ∈ N, x.length = d ∧ TS.Bd bigB x) → M.map (TS.code bigB) = N.map (TS.code bigB) → M = N
  | [], [], _, _, _ => rfl
  | [], _ :: _, _, _, h => by simp at h
  | _ :: _, [], _, _, h => by simp at h
  | x :: M, y :: N, h1, h2, h => by
    simp only [List.map_cons, List.cons.injEq] at h
    have a := h1 x (by simp)
    have b := h2 y (by simp)
    rw [codeT_inj (a.1.trans b.1.symm) a.2 b.2 h.1, codesT_inj (fun z hz => h1 z (List.mem_cons_of_mem _ hz)) (fun z hz => h2 z (List.mem_cons_of_mem _ hz)) h.2]
theorem sortT_uniq {d : Nat} {M N : List (List Int)} (hN : ∀ x ∈ N, x.length = d ∧ TS.Bd bigB x) (p : M.Perm N) (s : M.Pairwise (fun a b => TS.code bigB a ≤ TS.code bigB b)) : M = sortT N := by
  refine codesT_inj (d := d) (fun x hx => hN x (p.mem_iff.mp hx)) (fun x hx => hN x ((sortT_perm N).mem_iff.mp hx)) ?_
  refine List.Perm.eq_of_pairwise (le := (· ≤ ·)) (fun x y _ _ h1 h2 => Int.le_antisymm h1 h2) (List.pairwise_map.mpr s) (List.pairwise_map.mpr (sortT_sorted N)) ?_
  exact (p.trans (sortT_perm N).symm).map _
theorem perm_unmap {α β : Type} {f : α → β} {l m : List β} (p : l.Perm m) : ∀ ks : List α, m = ks.map f → ∃ ks' : List α, l = ks'.map f ∧ ks'.Perm ks := by
  induction p with
  | nil => intro ks e; exact ⟨ks, e, .refl _⟩
  | cons x _ ih =>
    intro ks e
    cases ks with
    | nil => cases e
    | cons k ks =>
      rw [List.map_cons, List.cons.injEq] at e
      obtain ⟨ks', e1, p1⟩ := ih ks e.2
      exact ⟨k :: ks', by rw [List.map_cons, e1, e.1], p1.cons k⟩
  | swap x y l =>
    intro ks e
    cases ks with
    | nil => cases e
    | cons k ks =>
      cases ks with
      | nil => cases e
      | cons k2 ks =>
        simp only [List.map_cons, List.cons.injEq] at e
        exact ⟨k2 :: k :: ks, by simp only [List.map_cons, e.1, e.2.1, e.2.2], .swap k k2 ks⟩
  | trans _ _ ih1 ih2 =>
    intro ks e
    obtain ⟨ks', e1, p1⟩ := ih2 ks e
    obtain ⟨ks2, e2, p2⟩ := ih1 ks' e1
    exact ⟨ks2, e2, p2.trans p1⟩
def tupOk0 (d : Nat) (r : List Int) : Bool := r.length == d && r.all fun m => decide (0 ≤ m) && decide (m < bigB)
theorem tupOk0_iff {d : Nat} {r : List Int} (h : tupOk0 d r = true) : r.length = d ∧ TS.Bd bigB r := by
  unfold tupOk0 at h
  rw [Bool.and_eq_true] at h
  refine ⟨by simpa using h.1, fun m hm => ?_⟩
  have q := List.all_eq_true.mp h.2 m hm
  rw [Bool.and_eq_true] at q
  exact ⟨of_decide_eq_true q.1, of_decide_eq_true q.2⟩
def rSortE (K : PySem.W.Frag) : List V → Hp → VK → Prop := fun vs H Q => ∃ d, 1 ≤ d ∧ rSortU K d bigB vs H Q
theorem cr_sortE {X : Cx} : CallR X (.builtin "sorted") (rSortE X.K) := fun pins s σ H vs us Q I r h => by
  obtain ⟨d, hd, h⟩ := h
  exact cr_sortT hd pins s σ H vs us Q I r h
theorem cr_sortA {X : Cx} : CallR X (.builtin "sorted") (fun vs H Q => rSortedI X.K vs H Q ∨ rSortE X.K vs H Q) := callR_or cr_sortedI cr_sortE
def gSortT (ob : Bool) (ds : List PD) (h : AH) : Res Sl := match tupsI ds with
  | some (k :: kss) => if decide (1 ≤ k.length) && (k :: kss).all (tupOk0 k.length) && decide ((k :: kss).length < 64) then gLT ob (sortT (k :: kss)) h else .no
  | _ => .no
def gSortA (ob : Bool) : GC
  | [x], h => match vw x h with
    | some (.list ds) => match intsOf ds with
      | some _ => gSortI ob [x] h
      | none => gSortT ob ds h
    | _ => .no
  | _, _ => .no
theorem tupI_of {K : PySem.W.Frag} {H : Hp} {p : Addr × List Int} (h : SqT K H p.1 (p.2.map V.int)) : TupI K H (V.ref p.1) p.2 := ⟨p.1, rfl, h⟩
theorem cd_sortA [Fed] {K : PySem.W.Frag} {ob : Bool} : CallD K (fun vs H Q => rSortedI K vs H Q ∨ rSortE K vs H Q) (gSortA ob) := by
  intro C hC F U μ H h W vs xs Q l r o
  subst hC
  unfold gSortA at o
  split at o
  · rename_i x h0
    split at o
    · rename_i ds e
      split at o
      · exact .inl (cd_sortI C rfl F U μ H _ W vs _ Q l r o)
      · obtain ⟨v, rfl, rv⟩ := slRs1 r
        unfold gSortT at o
        split at o
        · rename_i k kss et
          split at o
          · rename_i hz
            simp only [Bool.and_eq_true, decide_eq_true_eq] at hz
            cases vw_ok l rv e with
            | lst s d =>
              obtain ⟨ks, rfl, hk2, hk⟩ := tups_ok d et
              have hall : ∀ x ∈ ks.map (·.2), x.length = k.length ∧ TS.Bd bigB x := fun x hx => tupOk0_iff (List.all_eq_true.mp hz.1.2 x (by rw [← hk2]; exact hx))
              have hfr : ∀ p ∈ ks, SqT C.K H p.1 (p.2.map V.int) := fun p hp => sqT_mono l.fh (hk p hp)
              refine .inr ⟨k.length, hz.1.1, _, _, rfl, s, ?_, fun x hx => ?_, fun ys p pm pw hp => ?_⟩
              · have hl := congrArg List.length hk2
                simp only [List.length_map] at hl ⊢
                have := hz.2
                omega
              · obtain ⟨q, hq, rfl⟩ := List.mem_map.mp hx
                exact ⟨q.2, tupI_of (hfr q hq), hall _ (List.mem_map.mpr ⟨q, hq, rfl⟩)⟩
              · obtain ⟨ks', rfl, pk⟩ := perm_unmap pm ks rfl
                have hk' : ∀ p ∈ ks', SqT C.K F p.1 (p.2.map V.int) := fun p hp => hk p (pk.mem_iff.mp hp)
                have e2 : ks'.map (·.2) = sortT (k :: kss) := by
                  rw [← hk2]
                  refine sortT_uniq (d := k.length) hall (pk.map _) ?_
                  refine List.pairwise_map.mpr (List.Pairwise.imp_of_mem (fun {a b} ha hb hab => ?_) (List.pairwise_map.mp pw))
                  exact hab _ _ (tupI_of (hfr a (pk.mem_iff.mp ha))) (tupI_of (hfr b (pk.mem_iff.mp hb)))
                rw [← e2] at o
                exact out_gLT l hk' hp o
          · exact o.elim
        · exact o.elim
    · exact o.elim
  · exact o.elim
end Pv

/-! QY: sets of nested tuples of whole numbers, and sorted of them. -/
namespace NS
open PySem PySem.Spec PyProof.Rows L2

mutual
/-- no text, no None within -/
def numK : NestedKey → Bool
  | .num _ => true
  | .tup ks => numKs ks
  | _ => false
def numKs : List NestedKey → Bool
  | [] => true
  | k :: ks => numK k && numKs ks
end
/-- the tuple at a is the key k -/
structure NT (h : Heap) (k : NestedKey) (a : Addr) : Prop where
  is : NestedIs h k (.ref a)
  dp : k.depth ≤ 8
  nm : numK k = true
theorem NT.inj {h : Heap} {k k' : NestedKey} {a : Addr} (x : NT h k a) (y : NT h k' a) : k = k' := NestedIs.inj _ _ _ x.is y.is
theorem NT.keep {h h' : Heap} {k : NestedKey} {a : Addr} (x : NT h k a) (hk : ∀ c o, h.get? c = some o → h'.get? c = some o) : NT h' k a :=
  ⟨NestedIs.at (fun b o vs n hb _ => hk b o hb) _ _ x.is, x.dp, x.nm⟩
theorem NT.but {h h' : Heap} {k : NestedKey} {a b : Addr} {o : Obj} {es : Array (Int × Value)} {ep : Nat} {t : SetTable} (x : NT h k b) (ho : h.get? a = some o) (hd : o.data = .set es ep t) (hs : Heap.SameBut a h h') : NT h' k b :=
  ⟨NestedIs.at (fun c oc vs n hc hcd => by
    refine (hs.2 c fun e => ?_).trans hc
    subst e
    rw [ho] at hc
    cases hc
    rw [hd] at hcd
    cases hcd) _ _ x.is, x.dp, x.nm⟩
section
variable {P : Program} {w : World} {A : Around} {E : Value → Shared → Prop} {s : Shared}
/-- what the model asks of a stored value -/
def ClassNo (P : Program) (w : World) (n : Nat) (s : Shared) (v : Value) : Prop := ∀ (A : Around) (E : Value → Shared → Prop) (Q : Bool → Shared → Prop), Q false s → wpAny (model P w) A (ofAClassStatement n v) Q E s
def HashYes (P : Program) (w : World) (n : Nat) (s : Shared) (v : Value) : Prop := ∀ (A : Around) (E : Value → Shared → Prop) (Q : Bool → Shared → Prop), Q true s → wpAny (model P w) A (hashByValue n v) Q E s
theorem ClassNo.num {n : Nat} {i : Int} {v : Value} (h : NestedIs s.heap (.num i) v) : ClassNo P w n s v := fun A E Q q => by
  cases h with
  | bool e => cases n <;> exact wpAny_pure q
  | int _ t => cases n <;> exact wpAny_pure q
theorem HashYes.num {n : Nat} {i : Int} {v : Value} (h : NestedIs s.heap (.num i) v) : HashYes P w n s v := fun A E Q q => by
  cases h with
  | bool e => cases n <;> exact wpAny_pure q
  | int _ t => cases n <;> exact wpAny_pure q
theorem ClassNo.tup {n : Nat} {a : Addr} {o : Obj} {vs : Array Value} {m : Nat} (ho : s.heap.get? a = some o) (hc : o.cls = .type "tuple") (hd : o.data = .seq vs m) (hq : ∀ v ∈ vs.toList, ClassNo P w n s v) : ClassNo P w (n + 1) s (.ref a) := fun A E Q h => by
  have hT : s.TypeIs (.ref a) "tuple" := ⟨o, ho, hc⟩
  unfold ofAClassStatement
  refine wpAny_bind (wpAny_typeOf hT ?_)
  dsimp only
  have e : (("tuple" : String) == "tuple") = true := by decide
  simp only [e, if_true, Bool.not_true, Bool.false_eq_true, if_false]
  try refine wpAny_bind (wpAny_pure ?_)
  try simp only [Bool.not_true, Bool.false_eq_true, if_false]
  show wpAny _ _ (seqItems? (.ref a) >>= _) _ _ s
  refine wpAny_bind (wpAny_seqItems ho hd ?_)
  dsimp only
  refine wpAny_bind ?_
  show wpAny _ _ (forIn vs _ _) _ _ s
  rw [← Array.forIn_toList]
  refine wpAny_forIn_list _ (fun rest r s' => r.1 = none ∧ s' = s ∧ ∀ v ∈ rest, ClassNo P w n s v) _ ?_ ?_ _ _ ⟨rfl, rfl, hq⟩
  · rintro v rest r s' ⟨hr, rfl, hall⟩
    refine wpAny_bind (hall v List.mem_cons_self _ _ _ ?_)
    simp only [Bool.false_eq_true, if_false]
    exact wpAny_pure ⟨rfl, rfl, fun u hu' => hall u (List.mem_cons_of_mem _ hu')⟩
  · rintro ⟨r1, r2⟩ s' ⟨hr, rfl, _⟩
    simp only at hr
    subst hr
    exact wpAny_pure h
theorem HashYes.tup {n : Nat} {a : Addr} {o : Obj} {vs : Array Value} {m : Nat} (ho : s.heap.get? a = some o) (hc : o.cls = .type "tuple") (hd : o.data = .seq vs m) (hq : ∀ v ∈ vs.toList, HashYes P w n s v) : HashYes P w (n + 1) s (.ref a) := fun A E Q h => by
  have hT : s.TypeIs (.ref a) "tuple" := ⟨o, ho, hc⟩
  unfold hashByValue
  refine wpAny_bind (wpAny_specialOf hT F.slot_tuple_hash.lookup ?_)
  show wpAny _ _ (seqItems? (.ref a) >>= _) _ _ s
  refine wpAny_bind (wpAny_seqItems ho hd ?_)
  refine wpAny_bind ?_
  show wpAny _ _ (forIn vs _ _) _ _ s
  rw [← Array.forIn_toList]
  refine wpAny_forIn_list _ (fun rest r s' => r.1 = none ∧ s' = s ∧ ∀ v ∈ rest, HashYes P w n s v) _ ?_ ?_ _ _ ⟨rfl, rfl, hq⟩
  · rintro v rest r s' ⟨hr, rfl, hall⟩
    refine wpAny_bind (hall v List.mem_cons_self _ _ _ ?_)
    simp only [Bool.not_true, Bool.false_eq_true, if_false]
    exact wpAny_pure ⟨rfl, rfl, fun u hu' => hall u (List.mem_cons_of_mem _ hu')⟩
  · rintro ⟨r1, r2⟩ s' ⟨hr, rfl, _⟩
    simp only at hr
    subst hr
    exact wpAny_pure h
mutual
theorem class_key : ∀ (k : NestedKey) (v : Value) (n : Nat) (s : Shared), NestedIs s.heap k v → k.depth ≤ n → numK k = true → ClassNo P w n s v
  | .num i, _, n, s, x, _, _ => .num x
  | .tup ks, _, n, s, x, hn, hm => by
    cases x with
    | tup hg hc hd hk =>
      simp only [NestedKey.depth] at hn
      cases n with
      | zero => omega
      | succ n => exact .tup hg hc hd (class_keys ks _ n s hk (by omega) (by simpa [numK] using hm))
  | .none, _, _, _, _, _, hm => by simp [numK] at hm
  | .text _, _, _, _, _, _, hm => by simp [numK] at hm
theorem class_keys : ∀ (ks : List NestedKey) (vs : List Value) (n : Nat) (s : Shared), NestedAll s.heap ks vs → NestedKey.depthAll ks ≤ n → numKs ks = true → ∀ v ∈ vs, ClassNo P w n s v
  | [], vs, n, s, x, _, _, v, hv => by cases x; cases hv
  | k :: ks, vs, n, s, x, hn, hm, v, hv => by
    cases x with
    | cons x1 x2 =>
      simp only [NestedKey.depthAll] at hn
      rw [numKs, Bool.and_eq_true] at hm
      rcases List.mem_cons.mp hv with e | hv
      · rw [e]; exact class_key k _ n s x1 (by omega) hm.1
      · exact class_keys ks _ n s x2 (by omega) hm.2 v hv
end
mutual
theorem hashv_key : ∀ (k : NestedKey) (v : Value) (n : Nat) (s : Shared), NestedIs s.heap k v → k.depth ≤ n → numK k = true → HashYes P w n s v
  | .num i, _, n, s, x, _, _ => .num x
  | .tup ks, _, n, s, x, hn, hm => by
    cases x with
    | tup hg hc hd hk =>
      simp only [NestedKey.depth] at hn
      cases n with
      | zero => omega
      | succ n => exact .tup hg hc hd (hashv_keys ks _ n s hk (by omega) (by simpa [numK] using hm))
  | .none, _, _, _, _, _, hm => by simp [numK] at hm
  | .text _, _, _, _, _, _, hm => by simp [numK] at hm
theorem hashv_keys : ∀ (ks : List NestedKey) (vs : List Value) (n : Nat) (s : Shared), NestedAll s.heap ks vs → NestedKey.depthAll ks ≤ n → numKs ks = true → ∀ v ∈ vs, HashYes P w n s v
  | [], vs, n, s, x, _, _, v, hv => by cases x; cases hv
  | k :: ks, vs, n, s, x, hn, hm, v, hv => by
    cases x with
    | cons x1 x2 =>
      simp only [NestedKey.depthAll] at hn
      rw [numKs, Bool.and_eq_true] at hm
      rcases List.mem_cons.mp hv with e | hv
      · rw [e]; exact hashv_key k _ n s x1 (by omega) hm.1
      · exact hashv_keys ks _ n s x2 (by omega) hm.2 v hv
end
theorem NT.cls {k : NestedKey} {b : Addr} {Q : Bool → Shared → Prop} (x : NT s.heap k b) (h : Q false s) : wpAny (model P w) A (ofAClassStatement 8 (.ref b)) Q E s := class_key k _ 8 s x.is x.dp x.nm A E Q h
theorem NT.hbv {k : NestedKey} {b : Addr} {Q : Bool → Shared → Prop} (x : NT s.heap k b) (h : Q true s) : wpAny (model P w) A (hashByValue 8 (.ref b)) Q E s := hashv_key k _ 8 s x.is x.dp x.nm A E Q h
theorem NT.qt {k : NestedKey} {b : Addr} {Q : Bool → Shared → Prop} (x : NT s.heap k b) (h : Q true s) : wpAny (model P w) A (eqIsQuiet 8 (.ref b)) Q E s := quiet_key k _ 8 s x.is x.dp A E Q h
theorem NT.eqb {k k' : NestedKey} {a b : Addr} {Q : Bool → Shared → Prop} (hu : A.units + 8 < cLine) (x : NT s.heap k a) (y : NT s.heap k' b) (h : Q (NestedKey.beq k k') s) : wpAny (model P w) A (PySem.eqBool (.ref a) (.ref b)) Q E s := by
  have dx := x.dp
  exact eqAt_key k k' A s _ _ x.is y.is (by omega) P w E Q h
theorem NT.hsh {k : NestedKey} {a : Addr} {Q : Int → Shared → Prop} (hu : A.units + 8 < cLine) (x : NT s.heap k a) (h : Q (k.hash w) { s with toks := s.toks + k.draws }) : wpAny (model P w) A (pyHash (.ref a)) Q E s := by
  have dx := x.dp
  exact pyHash_key k _ A s Q x.is (by omega) h
/-- no search among such keys is seen -/
theorem unseen {k : NestedKey} {b : Addr} {Q : Bool → Shared → Prop} (hk : NT s.heap k b) {ys : List Value} (hy : ∀ y ∈ ys, ∃ k' c, y = Value.ref c ∧ NT s.heap k' c) (h : Q false s) :
    wpAny (model P w) A (searchCouldBeSeen (.ref b) ys) Q E s := by
  unfold searchCouldBeSeen
  refine wpAny_bind ?_
  refine wpAny_forIn_list _ (fun rest r s' => r.1 = none ∧ s' = s ∧ ∀ y ∈ rest, ∃ k' c, y = Value.ref c ∧ NT s.heap k' c) _ ?_ ?_ _ _ ⟨rfl, rfl, hy⟩
  · rintro v rest r s' ⟨hr, rfl, hall⟩
    obtain ⟨k', c, rfl, hc⟩ := hall v List.mem_cons_self
    have rest' : ∀ y ∈ rest, ∃ k' c, y = Value.ref c ∧ NT s'.heap k' c := fun u hu' => hall u (List.mem_cons_of_mem _ hu')
    dsimp only
    by_cases hv : (b == c || (carriedByValue (.ref b) && carriedByValue (.ref c))) = true
    · refine wp_if_pos hv ?_
      exact wpAny_pure ⟨rfl, rfl, rest'⟩
    · refine wp_if_neg hv ?_
      refine wpAny_bind (hk.qt ?_)
      simp only [Bool.not_true, Bool.false_eq_true, if_false]
      refine wpAny_bind (hc.qt ?_)
      simp only [Bool.not_true, Bool.false_eq_true, if_false]
      refine wpAny_bind (hk.cls ?_)
      simp only [Bool.false_eq_true, if_false]
      refine wpAny_bind (hc.cls ?_)
      simp only [Bool.false_eq_true, if_false]
      exact wpAny_pure ⟨rfl, rfl, rest'⟩
  · rintro ⟨r1, r2⟩ s' ⟨hr, rfl, _⟩
    simp only at hr
    subst hr
    exact wpAny_pure h

/-! ### the set -/
abbrev Row : Type := Addr × NestedKey
def rowsN (w : World) (L : List Row) : List (Int × Value) := L.map fun p => (p.2.hash w, Value.ref p.1)
structure SetN (P : Program) (w : World) (h : Heap) (a : Addr) (L : List Row) (es : Array (Int × Value)) (ep : Nat) (t : SetTable) : Prop where
  ob : ∃ o, h.get? a = some o ∧ o.ExactSet ∧ o.data = .set es ep t
  rows : es.toList = rowsN w L
  tab : TabOk t (L.map fun p => p.2.hash w)
  nd : (L.map (·.2)).Nodup
  tup : ∀ p ∈ L, NT h p.2 p.1
  plain : t.plain = true
  led : w.params.followText "set-order" = true ∨ t.led = true
  room : L.length * 5 < t.mask * 3
variable {a : Addr} {L : List Row} {es : Array (Int × Value)} {ep : Nat} {t : SetTable}
theorem SetN.size (R : SetN P w s.heap a L es ep t) : es.size = L.length := by
  have h := congrArg List.length R.rows
  unfold rowsN at h
  rw [Array.length_toList, List.length_map] at h
  exact h
theorem SetN.fits (R : SetN P w s.heap a L es ep t) : t.fits es.size = true := by
  have h1 := R.tab.sz
  rw [List.length_map] at h1
  have h2 := R.size
  have h3 := R.room
  unfold SetTable.fits SetTable.fill
  rw [R.tab.dm, Bool.and_eq_true, beq_iff_eq, decide_eq_true_eq]
  show t.place.size = es.size ∧ t.place.size + 0 ≤ t.mask
  omega
theorem SetN.entry (R : SetN P w s.heap a L es ep t) {i : Nat} {p : Row} (h : L[i]? = some p) : es[i]? = some (p.2.hash w, Value.ref p.1) := by
  rw [← Array.getElem?_toList, R.rows]
  unfold rowsN
  rw [List.getElem?_map, h] <;> rfl
theorem SetN.gw (R : SetN P w s.heap a L es ep t) : ¬ t.gaveWay = true := by
  unfold SetTable.gaveWay
  rw [mask_odd R.tab.mok]
  decide
theorem nth_dummy (m : Nat) : ∀ (n : Nat) (p : SetTable.Probe), p.dummy = none → (nth m p n).dummy = none := by
  intro n
  induction n with
  | zero => intro p h; exact h
  | succ n ih =>
    intro p h
    refine ih (adv m p) ?_
    unfold adv
    split <;> exact h

/-- the search from the c-th step of the way on -/
theorem seek_from (R : SetN P w s.heap a L es ep t) {x : Addr} {k : NestedKey} (hx : NT s.heap k x) (hu : A.units + 8 < cLine) {K : Nat} (hKf : K < 10 * SetTable.turns t.mask)
    (hK : way t.mask (k.hash w) K ∉ t.place.toList) (hKb : ∀ c, c < K → way t.mask (k.hash w) c ∈ t.place.toList) {Q : SetFound → Shared → Prop}
    (hin : k ∈ L.map (·.2) → Q (.there none) s) (hout : k ∉ L.map (·.2) → Q (.free (way t.mask (k.hash w) K) false) s) :
    ∀ (f c : Nat) (stand : Option SetTable.Probe), stand.getD (t.probeStart (k.hash w)) = nth t.mask (runAt t.mask (SetTable.bits (k.hash w) % (t.mask + 1)) (SetTable.bits (k.hash w))) c → c ≤ K → K - c < f →
      (∀ (i : Nat) p, L[i]? = some p → p.2 = k → ∃ c', c ≤ c' ∧ c' < K ∧ t.place.toList[i]? = some (way t.mask (k.hash w) c')) →
      wpAny (model P w) A (setSearchFrom a (.ref x) (k.hash w) true f stand) Q E s
  | 0, c, stand, _, _, hf, _ => absurd hf (Nat.not_lt_zero _)
  | f + 1, c, stand, hst, hc, hf, hre => by
    obtain ⟨o, ho, hex, hd⟩ := R.ob
    rw [setSearchFrom_succ]
    refine wpAny_bind (wpAny_setState_of ho hd R.fits ?_)
    dsimp only
    refine wp_if_neg R.gw ?_
    try refine wpAny_bind (wpAny_pure ?_)
    have hnd := nth_dummy t.mask c (runAt t.mask (SetTable.bits (k.hash w) % (t.mask + 1)) (SetTable.bits (k.hash w))) rfl
    have sh : ∀ q, nth t.mask (nth t.mask (runAt t.mask (SetTable.bits (k.hash w) % (t.mask + 1)) (SetTable.bits (k.hash w))) c) q = nth t.mask (runAt t.mask (SetTable.bits (k.hash w) % (t.mask + 1)) (SetTable.bits (k.hash w))) (c + q) := fun q => (nth_add t.mask c _ q).symm
    have e1 : ∀ q, (nth t.mask (nth t.mask (runAt t.mask (SetTable.bits (k.hash w) % (t.mask + 1)) (SetTable.bits (k.hash w))) c) q).j = way t.mask (k.hash w) (c + q) := fun q => congrArg SetTable.Probe.j (sh q)
    have spec := go_spec t R.tab.ris R.tab.dm (fun i => (es[i]?.map (·.1)).getD 0) (k.hash w) (10 * SetTable.turns t.mask) (K - c) _ hnd (by omega)
      (fun q hq => by rw [e1]; exact hKb (c + q) (by omega)) (by rw [e1, show c + (K - c) = K by omega]; exact hK)
    have hashAt : ∀ (i : Nat) p, L[i]? = some p → (fun i => (es[i]?.map (·.1)).getD 0) i = p.2.hash w := fun i p hp => by
      show (es[i]?.map (·.1)).getD 0 = _
      rw [R.entry hp] <;> rfl
    rcases spec with ⟨q, i, hq, hi, hh, hno, hpr⟩ | ⟨hno, hpr⟩
    · have hpr' : t.probe (fun i => (es[i]?.map (·.1)).getD 0) (k.hash w) (stand.getD (t.probeStart (k.hash w))) = some (.candidate (way t.mask (k.hash w) (c + q)) i (nth t.mask (runAt t.mask (SetTable.bits (k.hash w) % (t.mask + 1)) (SetTable.bits (k.hash w))) (c + (q + 1)))) := by
        rw [hst, ← e1, ← sh]
        exact hpr
      rw [hpr']
      dsimp only
      rw [e1] at hi
      have hil : i < L.length := by
        have h1 : i < t.place.toList.length := (List.getElem?_eq_some_iff.mp hi).1
        have h2 := R.tab.sz
        rw [List.length_map] at h2
        rw [Array.length_toList] at h1
        omega
      have hp : L[i]? = some L[i] := List.getElem?_eq_getElem hil
      generalize hpe : L[i] = p at hp
      have hmem : p ∈ L := List.mem_of_getElem? hp
      have hpt := R.tup p hmem
      have bq : NestedKey.beq p.2 k = decide (p.2 = k) := (NestedKey.decide_eq _ _).symm
      have rest : wpAny (model P w) A (searchRest a (.ref x) (k.hash w) true f es t (way t.mask (k.hash w) (c + q)) i (nth t.mask (runAt t.mask (SetTable.bits (k.hash w) % (t.mask + 1)) (SetTable.bits (k.hash w))) (c + (q + 1)))) Q E s := by
        unfold searchRest
        rw [R.entry hp]
        dsimp only
        refine wpAny_bind (wpAny_holding (hpt.eqb hu hx ?_))
        rw [bq]
        refine wpAny_bind (wpAny_setState_of ho hd R.fits ?_)
        dsimp only
        by_cases hkk : p.2 = k
        · refine wp_if_pos (by simp [hkk]) ?_
          refine wpAny_pure (hin ?_)
          exact List.mem_map.mpr ⟨p, hmem, hkk⟩
        · refine wp_if_neg (by simp [hkk]) ?_
          try refine wpAny_bind (wpAny_pure ?_)
          rw [sameMem]
          dsimp only
          have hsl : t.slot (way t.mask (k.hash w) (c + q)) = .live i := slot_live R.tab.ris hi
          simp only [if_true, hsl, R.entry hp]
          refine wpAny_bind (wpAny_isSame_ref_self (wpAny_bind (wpAny_pure ?_)))
          simp only [if_true]
          refine wp_if_neg (by simp [hkk]) ?_
          refine seek_from R hx hu hKf hK hKb hin hout f (c + (q + 1)) _ rfl (by omega) (by omega) fun i0 p0 h0 hk0 => ?_
          obtain ⟨c', a1, a2, a3⟩ := hre i0 p0 h0 hk0
          refine ⟨c', ?_, a2, a3⟩
          rcases Nat.lt_or_ge c' (c + q) with z | z
          · exfalso
            refine hno (c' - c) i0 (by omega) (by rw [e1, show c + (c' - c) = c' by omega]; exact a3) ?_
            exact (hashAt i0 p0 h0).trans (congrArg (fun k => NestedKey.hash w k) hk0)
          · rcases Nat.lt_or_ge (c + q) c' with y | y
            · omega
            · exfalso
              have ec : c' = c + q := Nat.le_antisymm y z
              rw [ec] at a3
              have s0 := slot_live R.tab.ris a3
              rw [hsl] at s0
              injection s0 with s0
              rw [← s0, hp] at h0
              exact hkk ((congrArg Prod.snd (Option.some.inj h0)).trans hk0)
      by_cases hl : t.led = true
      · refine wp_if_neg (by simp [hl]) ?_
        try refine wpAny_bind (wpAny_pure ?_)
        exact rest
      · refine wp_if_pos (by simp [hl]) ?_
        refine wpAny_bind (unseen hx (fun y hy => ?_) ?_)
        · obtain ⟨e, he, ee⟩ := List.mem_map.mp hy
          have he1 : e ∈ es ∧ e.1 = k.hash w := by simpa using he
          have he2 : e ∈ es.toList := by simpa using he1.1
          rw [R.rows] at he2
          obtain ⟨p2, hp2, e2⟩ := List.mem_map.mp he2
          refine ⟨p2.2, p2.1, ?_, R.tup p2 hp2⟩
          rw [← ee, ← e2]
        · refine wp_if_neg (by decide) ?_
          try refine wpAny_bind (wpAny_pure ?_)
          exact rest
    · have hpr' : t.probe (fun i => (es[i]?.map (·.1)).getD 0) (k.hash w) (stand.getD (t.probeStart (k.hash w))) = some (.empty (way t.mask (k.hash w) K) none) := by
        have e2 : way t.mask (k.hash w) K = (nth t.mask (nth t.mask (runAt t.mask (SetTable.bits (k.hash w) % (t.mask + 1)) (SetTable.bits (k.hash w))) c) (K - c)).j := by
          rw [e1, show c + (K - c) = K by omega]
        rw [hst, e2]
        exact hpr
      rw [hpr']
      dsimp only
      refine wpAny_pure (hout fun hm => ?_)
      obtain ⟨p0, h0, hk0⟩ := List.mem_map.mp hm
      obtain ⟨i0, hi0, e0⟩ := List.getElem_of_mem h0
      have h00 : L[i0]? = some p0 := by rw [List.getElem?_eq_getElem hi0, e0]
      obtain ⟨c', a1, a2, a3⟩ := hre i0 p0 h00 hk0
      refine hno (c' - c) i0 (by omega) (by rw [e1, show c + (c' - c) = c' by omega]; exact a3) ?_
      exact (hashAt i0 p0 h00).trans (congrArg (fun k => NestedKey.hash w k) hk0)
theorem seek_at (R : SetN P w s.heap a L es ep t) {x : Addr} {k : NestedKey} (hx : NT s.heap k x) (hu : A.units + 8 < cLine) {Q : SetFound → Shared → Prop}
    (hin : k ∈ L.map (·.2) → Q (.there none) s)
    (hout : ∀ K, k ∉ L.map (·.2) → way t.mask (k.hash w) K ∉ t.place.toList → (∀ c, c < K → way t.mask (k.hash w) c ∈ t.place.toList) → Q (.free (way t.mask (k.hash w) K) false) s) :
    wpAny (model P w) A (setSearch a (.ref x) (k.hash w) true) Q E s := by
  have hroom := R.room
  obtain ⟨K, hKf, hK, hKb⟩ := R.tab.first (by rw [List.length_map]; omega) (k.hash w)
  have hbig : K < 100000 := by
    have : 10 * SetTable.turns t.mask ≤ 1420 := by
      unfold SetTable.turns
      rcases R.tab.mok with e | e | e <;> omega
    omega
  unfold setSearch
  refine seek_from R hx hu hKf hK hKb hin (fun hn => hout K hn hK hKb) 100000 0 none rfl (Nat.zero_le _) (by omega) fun i p hp hk => ?_
  have hi : (L.map fun p => p.2.hash w)[i]? = some (k.hash w) := by rw [List.getElem?_map, hp, ← hk] <;> rfl
  have hil : i < t.place.toList.length := by
    have h1 : i < L.length := (List.getElem?_eq_some_iff.mp hp).1
    have h2 := R.tab.sz
    rw [List.length_map] at h2
    rw [Array.length_toList]
    omega
  have hj := List.getElem?_eq_getElem hil
  obtain ⟨c, hc, e⟩ := R.tab.before hK hi hj
  exact ⟨c, Nat.zero_le _, hc, by rw [hj, e]⟩

theorem rowsN_put (L : List Row) (p : Nat) (x : Addr) (k : NestedKey) : rowsN w (L.take p ++ (x, k) :: L.drop p) = (rowsN w L).take p ++ (k.hash w, Value.ref x) :: (rowsN w L).drop p := by
  unfold rowsN
  rw [List.map_append, List.map_cons, List.map_take, List.map_drop]
theorem order_rowsN (L : List Row) (es : Array (Int × Value)) (order : Array Nat) (hr : es.toList = rowsN w L) (hp : order.toList.Perm (List.range L.length)) :
    ∃ L2, (order.filterMap (es[·]?)).toList = rowsN w L2 ∧ L2.Perm L ∧ (L2.map fun p => p.2.hash w) = order.toList.map fun i => (es.map (·.1)).getD i 0 := by
  have hsz : es.size = L.length := by
    have h := congrArg List.length hr
    unfold rowsN at h
    rw [Array.length_toList, List.length_map] at h
    exact h
  have ent : ∀ i (h : i < L.length), es[i]? = some ((L[i]).2.hash w, Value.ref (L[i]).1) := fun i h => by
    rw [← Array.getElem?_toList, hr]
    unfold rowsN
    rw [List.getElem?_map, List.getElem?_eq_getElem h] <;> rfl
  have key : ∀ l : List Nat, (∀ i ∈ l, i < L.length) → ∃ L2 : List Row, l.filterMap (fun i => es[i]?) = rowsN w L2 ∧ L2 = l.filterMap (fun i => L[i]?) ∧ (L2.map fun p => p.2.hash w) = l.map fun i => (es.map (·.1)).getD i 0 := by
    intro l
    induction l with
    | nil => intro _; exact ⟨[], rfl, rfl, rfl⟩
    | cons i l ih =>
      intro hl
      have hi := hl i List.mem_cons_self
      obtain ⟨L2, e1, e2, e3⟩ := ih fun j hj => hl j (List.mem_cons_of_mem _ hj)
      refine ⟨L[i] :: L2, ?_, ?_, ?_⟩
      · rw [List.filterMap_cons_some (ent i hi), e1] <;> rfl
      · rw [List.filterMap_cons_some (List.getElem?_eq_getElem hi), e2]
      · rw [List.map_cons, List.map_cons, e3]
        have e4 : (es.map (·.1)).getD i 0 = (L[i]).2.hash w := by
          have e5 : (es.map (·.1))[i]? = some ((L[i]).2.hash w) := by rw [Array.getElem?_map, ent i hi] <;> rfl
          simp [Array.getD_eq_getD_getElem?, e5]
        rw [e4]
  obtain ⟨L2, e1, e2, e3⟩ := key order.toList fun i hi => List.mem_range.mp (hp.mem_iff.mp hi)
  refine ⟨L2, by first | (rw [Array.toList_filterMap]; exact e1) | simpa using e1, ?_, e3⟩
  have h1 : L2.Perm ((List.range L.length).filterMap fun i => L[i]?) := by
    rw [e2]
    exact hp.filterMap _
  have h2 : (List.range L.length).filterMap (fun i => L[i]?) = L := by
    have key2 : ∀ n, n ≤ L.length → (List.range n).filterMap (fun i => L[i]?) = L.take n := by
      intro n
      induction n with
      | zero => intro _; rfl
      | succ n ih =>
        intro hn
        have hlt : n < L.length := hn
        rw [List.range_succ, List.filterMap_append, ih (Nat.le_of_lt hlt), List.take_succ, List.getElem?_eq_getElem hlt]
        rw [List.filterMap_cons_some (List.getElem?_eq_getElem hlt)] <;> rfl
    rw [key2 L.length (Nat.le_refl _), List.take_length]
  rw [h2] at h1
  exact h1

/-- laid anew, larger -/
theorem relayN {o : Obj} (ho : s.heap.get? a = some o) (hex : o.ExactSet) (hd : o.data = .set es ep t) (hrows : es.toList = rowsN w L) (hsz : t.place.size = es.size) (hdm : t.dummies = #[]) (hfl : es.size ≤ t.mask)
    (nd : (L.map (·.2)).Nodup) (tup : ∀ p ∈ L, NT s.heap p.2 p.1) (pl : t.plain = true) (ld : w.params.followText "set-order" = true ∨ t.led = true) {wanted M : Nat}
    (hw : SetTable.sizeAbove wanted - 1 = M) (hM : MaskOk M) (hw2 : SetTable.sizeAbove wanted ≤ 128) (hn : L.length * 5 < M * 3) {Q : Unit → Shared → Prop}
    (hQ : ∀ h' L' es' ep' t', Heap.SameBut a s.heap h' → SetN P w h' a L' es' ep' t' → L'.Perm L → Q () { s with heap := h' }) : wpAny (model P w) A (setRelay a wanted) Q E s := by
  have hsl : es.size = L.length := by
    have h := congrArg List.length hrows
    unfold rowsN at h
    rw [Array.length_toList, List.length_map] at h
    exact h
  have hM2 : M ≤ 127 := by omega
  have hfits : t.fits es.size = true := by
    unfold SetTable.fits SetTable.fill
    rw [hdm, Bool.and_eq_true, beq_iff_eq, decide_eq_true_eq]
    show t.place.size = es.size ∧ t.place.size + 0 ≤ t.mask
    omega
  obtain ⟨t', order, e, hp, T, em, el, ep', ed⟩ := relaid_ok t (hs := es.map (·.1)) (wanted := wanted) hw hM (by rw [Array.size_map, hsl]; omega)
  rw [Array.size_map, hsl] at hp
  obtain ⟨L2, r1, r2, r3⟩ := order_rowsN L es order hrows hp
  rw [← r3] at T
  have hs2 : (order.filterMap (es[·]?)).size = es.size := by
    have h := congrArg List.length r1
    unfold rowsN at h
    rw [Array.length_toList, List.length_map, r2.length_eq] at h
    rw [h, hsl]
  rw [setRelay_eq]
  refine wpAny_bind (wpAny_setState_of ho hd hfits ?_)
  dsimp only
  refine wp_if_neg (by rw [sizeLine_eq]; omega) ?_
  try refine wpAny_bind (wpAny_pure ?_)
  rw [e]
  dsimp only
  refine wpAny_bind ?_
  refine wp_if_neg (by rw [hs2]; simp) ?_
  try refine wpAny_bind (wpAny_pure ?_)
  refine wpAny_pure ?_
  dsimp only
  refine wpAny_storeSet_of ho hd ?_ (by rw [hs2, hsl, sizeLine_eq]; omega)
  have sb : Heap.SameBut a s.heap (s.heap.update a (Obj.putSet (order.filterMap (es[·]?)) t')) := Heap.SameBut.update ..
  refine hQ _ L2 (order.filterMap (es[·]?)) (ep + 1) t' sb ?_ r2
  refine ⟨⟨_, store_at ho hd, ⟨hex.1, hex.2.1, hex.2.2⟩, rfl⟩, r1, T, ?_, fun p hpm => (tup p (r2.mem_iff.mp hpm)).but ho hd sb, by rw [ep']; exact pl, by rw [el]; exact ld, ?_⟩
  · exact (r2.map (·.2)).nodup_iff.mpr nd
  · rw [r2.length_eq, em]
    exact hn

/-- one put in -/
theorem addN (R : SetN P w s.heap a L es ep t) {x : Addr} {k : NestedKey} (hx : NT s.heap k x) (hu : A.units + 8 < cLine) (hfew : k ∉ L.map (·.2) → L.length + 1 < 64) {Q : Bool → Shared → Prop}
    (hQ : ∀ b h' L' es' ep' t', Heap.SameBut a s.heap h' → SetN P w h' a L' es' ep' t' → (k ∈ L.map (·.2) → L' = L) → (k ∉ L.map (·.2) → L'.Perm ((x, k) :: L)) → Q b { s with heap := h' }) :
    wpAny (model P w) A (setAddHashed a (.ref x) (k.hash w)) Q E s := by
  obtain ⟨o, ho, hex, hd⟩ := R.ob
  have hsl := R.size
  have hroom := R.room
  unfold setAddHashed
  refine wpAny_holding ?_
  rw [show (100000 : Nat) = 99999 + 1 from rfl, setAddHashedIn_succ]
  refine wpAny_bind (wpAny_setState_of ho hd R.fits ?_)
  dsimp only
  refine wp_if_neg (by simp [byScan, Value.scannable]) ?_
  try refine wpAny_bind (wpAny_pure ?_)
  refine wpAny_bind (seek_at R hx hu (fun hm => ?_) fun K hm hK hb => ?_)
  · dsimp only
    exact wpAny_pure (hQ false s.heap L es ep t (Heap.SameBut.refl a s.heap) R (fun _ => rfl) fun z => absurd hm z)
  · dsimp only
    have hfew := hfew hm
    refine wpAny_bind (wpAny_setState_of ho hd R.fits ?_)
    dsimp only
    obtain ⟨q1, q2, q3, q4, q5, q6, q7, q8, q9⟩ := R.tab.put hK hb
    have hp1 : (t.put (way t.mask (k.hash w) K)).1.plain = true := by rw [q6]; exact R.plain
    generalize hpt : t.put (way t.mask (k.hash w) K) = pt at q1 q3 q4 q5 q6 q7 q8 q9 hp1 ⊢
    obtain ⟨t1, p⟩ := pt
    dsimp only at q1 q3 q4 q5 q6 q7 q8 q9 hp1 ⊢
    subst q1
    first
      | (refine wpAny_bind ?_; refine wp_if_pos hp1 ?_; refine hx.hbv ?_)
      | refine wp_if_pos hp1 (wpAny_bind (hx.hbv ?_))
    simp only [if_true]
    have hin : (SetTable.insertAt es (SetTable.below t.place (way t.mask (k.hash w) K)) (k.hash w, Value.ref x)).toList = rowsN w (L.take (SetTable.below t.place (way t.mask (k.hash w) K)) ++ (x, k) :: L.drop (SetTable.below t.place (way t.mask (k.hash w) K))) := by
      rw [SetTable.toList_insertAt, rowsN_put, R.rows]
    generalize hpp : SetTable.below t.place (way t.mask (k.hash w) K) = p at q2 q3 hin ⊢
    have pm := put_perm L p (x, k)
    have hlen : (L.take p ++ (x, k) :: L.drop p).length = L.length + 1 := pm.length_eq
    have hhs : (L.take p ++ (x, k) :: L.drop p).map (fun p => p.2.hash w) = (L.map fun p => p.2.hash w).take p ++ k.hash w :: (L.map fun p => p.2.hash w).drop p := by
      rw [List.map_append, List.map_cons, List.map_take, List.map_drop]
    rw [← hhs] at q3
    have nd1 : ((L.take p ++ (x, k) :: L.drop p).map (·.2)).Nodup := by
      refine (pm.map (·.2)).nodup_iff.mpr ?_
      rw [List.map_cons]
      exact List.nodup_cons.mpr ⟨hm, R.nd⟩
    have hes : (SetTable.insertAt es p (k.hash w, Value.ref x)).size = L.length + 1 := by
      have h := congrArg List.length hin
      unfold rowsN at h
      rw [Array.length_toList, List.length_map, hlen] at h
      exact h
    generalize SetTable.insertAt es p (k.hash w, Value.ref x) = es1 at hin hes ⊢
    generalize L.take p ++ (x, k) :: L.drop p = L1 at pm hlen q3 nd1 hin
    refine wpAny_bind (wpAny_storeSet_of ho hd ?_ (by rw [hes, sizeLine_eq]; omega))
    have sb : Heap.SameBut a s.heap (s.heap.update a (Obj.putSet es1 t1)) := Heap.SameBut.update ..
    have ho1 := store_at (es' := es1) (t' := t1) ho hd
    generalize s.heap.update a (Obj.putSet es1 t1) = h1 at sb ho1 ⊢
    have tup1 : ∀ p ∈ L1, NT h1 p.2 p.1 := fun p hp => by
      rcases List.mem_cons.mp (pm.mem_iff.mp hp) with e | hp
      · rw [e]; exact hx.but ho hd sb
      · exact (R.tup p hp).but ho hd sb
    have ld1 : w.params.followText "set-order" = true ∨ t1.led = true := by rw [q5]; exact R.led
    by_cases hf : t1.tooFull = true
    · first
        | (refine wpAny_bind ?_; refine wp_if_pos (by simp [hf]) ?_)
        | (refine wp_if_pos (by simp [hf]) ?_; refine wpAny_bind ?_)
      have hfull : (L.length + 1) * 5 ≥ t1.mask * 3 := by
        have h := hf
        unfold SetTable.tooFull at h
        rw [decide_eq_true_eq, q9, List.length_map] at h
        exact h
      rw [hsl]
      have hsz1 : t1.place.size = es1.size := by
        have h := q3.sz
        rw [List.length_map, hlen] at h
        rw [h, hes]
      have cases2 : (t.mask = 7 ∧ L.length = 4) ∨ (t.mask = 31 ∧ L.length = 18) := by
        rcases R.tab.mok with e | e | e
        · left; rw [q4, e] at hfull; rw [e] at hroom; exact ⟨e, by omega⟩
        · right; rw [q4, e] at hfull; rw [e] at hroom; exact ⟨e, by omega⟩
        · exfalso; rw [q4, e] at hfull; omega
      have go : ∀ M, SetTable.sizeAbove (SetTable.grown (L.length + 1)) - 1 = M → MaskOk M → SetTable.sizeAbove (SetTable.grown (L.length + 1)) ≤ 128 → (L.length + 1) * 5 < M * 3 →
          wpAny (model P w) A (setRelay a (SetTable.grown (L.length + 1))) (fun _ s' => wpAny (model P w) A (pure true) Q E s') E { s with heap := h1 } := fun M h1' h2' h3' h4' => by
        refine relayN (s := { s with heap := h1 }) ho1 ⟨hex.1, hex.2.1, hex.2.2⟩ rfl hin hsz1 q3.dm (by rw [hes, q4]; rcases cases2 with ⟨e, e2⟩ | ⟨e, e2⟩ <;> omega) nd1 tup1 hp1 ld1 h1' h2' h3' (by rw [hlen]; exact h4') ?_
        intro h2 L2 es2 ep2 t2 sb2 R2 pm2
        refine wpAny_pure (hQ true h2 L2 es2 ep2 t2 (sb.trans sb2) R2 (fun z => absurd z hm) fun _ => pm2.trans pm)
      rcases cases2 with ⟨_, e2⟩ | ⟨_, e2⟩
      · refine go 31 (by rw [e2, size_20]) (.inr (.inl rfl)) (by rw [e2, size_20]; decide) (by omega)
      · refine go 127 (by rw [e2, size_76]) (.inr (.inr rfl)) (by rw [e2, size_76]; decide) (by omega)
    · first
        | refine wp_if_neg (by simp [hf]) ?_
        | (refine wpAny_bind ?_; refine wp_if_neg (by simp [hf]) ?_; refine wpAny_pure ?_)
      refine wpAny_pure (hQ true h1 L1 es1 (ep + 1) t1 sb ⟨⟨_, ho1, ⟨hex.1, hex.2.1, hex.2.2⟩, rfl⟩, hin, q3, nd1, tup1, hp1, ld1, ?_⟩ (fun z => absurd z hm) fun _ => pm)
      have h := hf
      unfold SetTable.tooFull at h
      rw [decide_eq_true_eq, q9, List.length_map] at h
      rw [hlen]
      omega
end
end NS

/-! QZ: set(xs) of nested tuples, sorted of the set. -/
namespace NS
open PySem PySem.Spec PyProof.Rows L2

theorem few_of {α : Type} [DecidableEq α] : ∀ (l D : List α), l.Nodup → (∀ x ∈ l, x ∈ D) → l.length ≤ D.length
  | [], _, _, _ => Nat.zero_le _
  | x :: l, D, hn, hs => by
    obtain ⟨h1, h2⟩ := List.nodup_cons.mp hn
    have hx : x ∈ D := hs x List.mem_cons_self
    have ih := few_of l (D.erase x) h2 fun y hy => by
      have hne : y ≠ x := fun e => h1 (e ▸ hy)
      exact (List.mem_erase_of_ne hne).2 (hs y (List.mem_cons_of_mem _ hy))
    have e := List.length_erase_of_mem hx
    have hp : 0 < D.length := List.length_pos_of_mem hx
    rw [List.length_cons]
    omega
/-- what has come in from the first i items -/
structure Had (ks : List Row) (i : Nat) (L : List Row) : Prop where
  sub : ∀ p ∈ L, p ∈ ks.take i
  all : ∀ p ∈ ks.take i, p.2 ∈ L.map (·.2)
theorem Had.zero (ks : List Row) : Had ks 0 [] := ⟨fun p h => (by cases h), fun p h => (by simp at h)⟩
theorem Had.same {ks L : List Row} {i : Nat} {x : Row} (g : Had ks i L) (h : ks[i]? = some x) (hm : x.2 ∈ L.map (·.2)) : Had ks (i + 1) L := by
  refine ⟨fun p hp => ?_, fun p hp => ?_⟩
  · rw [take_next h]
    exact List.mem_append_left _ (g.sub p hp)
  · rw [take_next h] at hp
    rcases List.mem_append.mp hp with z | z
    · exact g.all p z
    · rw [List.mem_singleton.mp z]; exact hm
theorem Had.more {ks L L' : List Row} {i : Nat} {x : Row} (g : Had ks i L) (h : ks[i]? = some x) (pm : L'.Perm (x :: L)) : Had ks (i + 1) L' := by
  refine ⟨fun p hp => ?_, fun p hp => ?_⟩
  · rw [take_next h]
    rcases List.mem_cons.mp (pm.mem_iff.mp hp) with e | z
    · rw [e]; exact List.mem_append_right _ (List.mem_singleton.mpr rfl)
    · exact List.mem_append_left _ (g.sub p z)
  · rw [(pm.map (·.2)).mem_iff, List.map_cons]
    rw [take_next h] at hp
    rcases List.mem_append.mp hp with z | z
    · exact List.mem_cons_of_mem _ (g.all p z)
    · rw [List.mem_singleton.mp z]; exact List.mem_cons_self
/-- fewer than 64 unlike ones -/
def Few (ks : List Row) : Prop := ∀ D : List NestedKey, D.Nodup → (∀ k ∈ D, k ∈ ks.map (·.2)) → D.length < 64

section
variable {P : Program} {w : World} {A : Around} {E : Value → Shared → Prop} {s : Shared}
theorem SetN.keep {h h' : Heap} {a : Addr} {L : List Row} {es : Array (Int × Value)} {ep : Nat} {t : SetTable} (R : SetN P w h a L es ep t) (ha : ∀ o, h.get? a = some o → h'.get? a = some o) (ht : ∀ p ∈ L, NT h' p.2 p.1) : SetN P w h' a L es ep t := by
  obtain ⟨o, ho, r⟩ := R.ob
  exact ⟨⟨o, ha o ho, r⟩, R.rows, R.tab, R.nd, ht, R.plain, R.led, R.room⟩
theorem setN_fresh {h : Heap} {a : Addr} (ho : h.get? a = some { cls := .type "set", dict := none, data := .set #[] 0 (.fresh 0 0 (!w.params.followText "set-order")) }) : SetN P w h a [] #[] 0 (.fresh 0 0 (!w.params.followText "set-order")) where
  ob := ⟨_, ho, ⟨rfl, rfl, rfl⟩, rfl⟩
  rows := rfl
  tab := ⟨List.Pairwise.nil, rfl, rfl, .inl rfl, fun x hx => (by cases hx), fun i h j hi => (by simp at hi)⟩
  nd := List.nodup_nil
  tup := fun p hp => (by cases hp)
  plain := rfl
  led := by
    show _ ∨ (!w.params.followText "set-order") = true
    cases w.params.followText "set-order"
    · exact .inr rfl
    · exact .inl rfl
  room := by
    show 0 * 5 < 7 * 3
    decide
theorem update_loopN {I : Addr} {fp wr : List Addr} {G : Array GenState → Array GenState → Prop} {n : Nat} {Pv : Nat → Value → Prop} {St : Nat → Shared → Prop} {R : Result → Shared → Prop}
    (W : WalksS P w A.in1 I fp wr G n Pv St) (S : Addr) (hSf : S ∉ fp) (ks : List Row) (hn : n = ks.length) (hfew : Few ks) (hval : ∀ i v, Pv i v → ∃ p, ks[i]? = some p ∧ v = .ref p.1)
    (h0 : Heap) (hk : ∀ p ∈ ks, NT h0 p.2 p.1) (hS0 : h0.get? S = none) (hw0 : ∀ b ∈ wr, h0.get? b = none) (hu : A.in1.units + 8 < cLine) :
    ∀ (k i : Nat) (s : Shared), n - i = k → i ≤ n → St i s → (∀ b o, h0.get? b = some o → s.heap.get? b = some o) → (∃ L es ep t, SetN P w s.heap S L es ep t ∧ Had ks i L) →
      (∀ s' L es ep t, Moved (S :: wr) G s s' → SetN P w s'.heap S L es ep t → Had ks n L → (∀ b o, h0.get? b = some o → s'.heap.get? b = some o) → R (.ok (.ret .none)) s') →
      codeAny (model P w) A (.builtin "set.update.loop" ⟨[.ref S, .ref I], []⟩) R s := by
  have hSw : S ∉ wr := fun h => hSf (W.sub _ h)
  have hsub : ∀ b ∈ wr, b ∈ S :: wr := fun b hb => List.mem_cons_of_mem _ hb
  have keepM : ∀ {s s' : Shared}, Moved wr G s s' → (∀ b o, h0.get? b = some o → s.heap.get? b = some o) → ∀ b o, h0.get? b = some o → s'.heap.get? b = some o := fun hm hkp b o e =>
    hm.heap b o (fun hb => by rw [hw0 b hb] at e; cases e) (hkp b o e)
  intro k
  induction k with
  | zero =>
    intro i s hk' hi hst hkp ⟨L, es, ep, t, hS, g⟩ hR
    have hin : i = n := by omega
    subst hin
    refine codeAny_builtin F.entry_set_update_loop ?_
    rw [Around.under_plainId F.plain_set_update_loop _]
    show wpAny _ A.in1 (pyNext (.ref I) >>= _) _ _ s
    refine wpAny_bind (W.done s _ _ hst fun s' hm => ?_)
    show wpAny _ A.in1 (ret Value.none) _ _ s'
    have hkp' := keepM hm hkp
    have sub : ∀ p ∈ L, p ∈ ks := fun p hp => List.mem_of_mem_take (g.sub p hp)
    exact wpAny_pure (hR s' L es ep t (hm.mono hsub) (hS.keep (fun o e => hm.heap S o hSw e) fun p hp => (hk p (sub p hp)).keep hkp') g hkp')
  | succ k ih =>
    intro i s hk' hi hst hkp ⟨L, es, ep, t, hS, g⟩ hR
    have hlt : i < n := by omega
    refine codeAny_builtin F.entry_set_update_loop ?_
    rw [Around.under_plainId F.plain_set_update_loop _]
    show wpAny _ A.in1 (pyNext (.ref I) >>= _) _ _ s
    refine wpAny_bind (W.item i s _ _ hlt hst fun v s' hP hst' hm => ?_)
    obtain ⟨p, hp, rfl⟩ := hval i v hP
    have hkp' := keepM hm hkp
    have sub : ∀ p ∈ L, p ∈ ks := fun p hp => List.mem_of_mem_take (g.sub p hp)
    have hS' : SetN P w s'.heap S L es ep t := hS.keep (fun o e => hm.heap S o hSw e) fun q hq => (hk q (sub q hq)).keep hkp'
    have hpm : p ∈ ks := List.mem_of_getElem? hp
    have hx : NT s'.heap p.2 p.1 := (hk p hpm).keep hkp'
    show wpAny _ A.in1 (holding [Value.ref p.1] (setAdd S (.ref p.1)) >>= _) _ _ s'
    refine wpAny_bind (wpAny_holding ?_)
    unfold setAdd
    refine wpAny_holding ?_
    refine wpAny_bind (hx.hsh hu ?_)
    refine addN (s := { s' with toks := s'.toks + p.2.draws }) hS' hx hu (fun hm => ?_) fun b h' L' es' ep' t' hsb hS2 c1 c2 => ?_
    · have z := hfew (p.2 :: L.map (·.2)) (List.nodup_cons.mpr ⟨hm, hS.nd⟩) fun k hk => by
        rcases List.mem_cons.mp hk with e | hk
        · rw [e]; exact List.mem_map_of_mem hpm
        · obtain ⟨q, hq, rfl⟩ := List.mem_map.mp hk
          exact List.mem_map_of_mem (sub q hq)
      rw [List.length_cons, List.length_map] at z
      exact z
    have g' : Had ks (i + 1) L' := by
      rcases Classical.em (p.2 ∈ L.map (·.2)) with c | c
      · rw [c1 c]; exact g.same hp c
      · exact g.more hp (c2 c)
    have hkp2 : ∀ b o, h0.get? b = some o → h'.get? b = some o := fun b o e => (hsb.2 b (fun z => by rw [z, hS0] at e; cases e)).trans (hkp' b o e)
    refine wpAny_pure ⟨plainId_quiet F.plain_set_update_loop _, ih (i + 1) _ (by omega) hlt (W.frame _ s' _ _ hst' (Nat.le_add_right _ _) fun b hb o e => ?_) hkp2 ⟨L', es', ep', t', hS2, g'⟩ fun s'' L2 es2 ep2 t2 hm'' hS'' g'' hkp'' => ?_⟩
    · rw [hsb.2 b (fun h : b = S => hSf (by rw [← h]; exact hb))]; exact e
    · refine hR s'' L2 es2 ep2 t2 (Moved.trans W.gtrans ((hm.mono hsub).then_heap (Nat.le_add_right _ _) fun b o hb e => ?_) hm'') hS'' g'' hkp''
      rw [hsb.2 b (fun h : b = S => hb (by rw [h]; exact List.mem_cons_self))]; exact e

set_option maxHeartbeats 3200000 in
/-- set(xs) -/
theorem call_setN {l : Addr} {items : Array Value} (ks : List Row) {Q : Value → Shared → Prop} (hh : A.handled = none) (hl : s.heap.IsList l items) (hit : items.toList = ks.map fun p => Value.ref p.1)
    (hk : ∀ p ∈ ks, NT s.heap p.2 p.1) (hfew : Few ks) (hu : A.units + 32 < cLine)
    (h : ∀ (h' : Heap) (tk : Nat) L es ep t, SetN P w h' s.heap.objs.size L es ep t → Had ks ks.length L → (∀ b o, s.heap.get? b = some o → h'.get? b = some o) → Q (.ref s.heap.objs.size) { s with heap := h', toks := tk }) :
    wpAny (model P w) A (call (.type "set") [.ref l]) Q E s := by
  have hisz : items.size = ks.length := by
    have q := congrArg List.length hit
    rw [Array.length_toList, List.length_map] at q
    exact q
  obtain ⟨c, tl, hmro⟩ := F.called_set.mro
  have hmade := F.called_set.made
  have hsub := F.called_set.sub
  refine wpAny_call (codeAny_of_tree ?_)
  show wpAny _ _ (callAny (.type "set") _) _ _ _
  refine wpAny_pure ⟨Code.quiet_builtin _ (by decide +kernel), codeAny_builtin F.entry_type_call ?_⟩
  rw [Around.under_plain (weight_type_call_type "set" [.ref l] []) rfl]
  have h1 := F.called_set.notType
  have h2 := F.called_set.canCreate
  have hct := F.typeCall_set_1 (.ref l)
  repeat (any_goals (first | assumption | wp_step))

  refine codeAny_mono (code_set_led1 (.ref l) (E := E) (Q₁ := fun obj s₁ => obj = .ref s.heap.objs.size ∧ s₁ = { s with heap := s.heap.push { cls := .type "set", dict := none, data := .set #[] 0 (.fresh 0 0 (!w.params.followText "set-order")) } }) ⟨rfl, rfl⟩) fun r s₁ hr => ?_
  cases r with
  | error e => exact hr
  | ok fl =>
    cases fl with
    | ret obj =>
      obtain ⟨rfl, rfl⟩ := hr
      have hS : (s.heap.push { cls := .type "set", dict := none, data := .set #[] 0 (.fresh 0 0 (!w.params.followText "set-order")) }).get? s.heap.objs.size = some { cls := .type "set", dict := none, data := .set #[] 0 (.fresh 0 0 (!w.params.followText "set-order")) } := Heap.get?_push_size _ rfl
      have hT : Shared.TypeIs { s with heap := s.heap.push { cls := .type "set", dict := none, data := .set #[] 0 (.fresh 0 0 (!w.params.followText "set-order")) } } (.ref s.heap.objs.size) "set" := ⟨_, hS, rfl⟩
      have hli := F.called_set.init.lookup
      have hbi := F.called_set.init.bind (.ref s.heap.objs.size)
      repeat (any_goals (first | assumption | wp_step))

      refine codeAny_mono (codeAny_call_builtin (R := wants (fun r s₂ => r = .none ∧ ∃ h' tk L es ep t, s₂ = { s with heap := h', toks := tk } ∧ SetN P w h' s.heap.objs.size L es ep t ∧ Had ks ks.length L ∧
          (∀ b o, s.heap.get? b = some o → h'.get? b = some o)) E) F.called_set.init.plain F.entry_set_init (check_set_init_1 hT ?_)) fun r₂ s₂ hr₂ => ?_
      · obtain ⟨ol, hol, hcl, nl, hdl⟩ := hl
        obtain ⟨ocls, odict, odata, oslots⟩ := ol
        simp only at hcl hdl
        subst hcl; subst hdl
        have hol' : (s.heap.push { cls := .type "set", dict := none, data := .set #[] 0 (.fresh 0 0 (!w.params.followText "set-order")) }).get? l = some { cls := .type "list", dict := odict, data := .seq items nl, slots := oslots } := Heap.get?_push_of_some _ hol
        have hsls := F.sub_list_set
        have hslf := F.sub_list_frozenset
        have hne : (Value.type "list" == Value.type "dict") = false := by decide
        have hl1 : (s.heap.push { cls := .type "set", dict := none, data := .set #[] 0 (.fresh 0 0 (!w.params.followText "set-order")) }).IsList l items := ⟨_, hol', rfl, nl, rfl⟩
        unfold Builtin.«set.__init__» noKeywords Builtin.Frozenset.updateFrom
        generalize hPI : pyIter = PI
        wp_walk
        subst hPI

        refine wpAny_pyIter_list hl1 ?_
        refine wpAny_bind (wpAny_runValue ?_)
        have hlS : l < s.heap.objs.size := Heap.lt_size hol
        have hh3 : A.in1.in1.in1.handled = none := by simp [hh]
        have hz1 : (s.heap.push { cls := .type "set", dict := none, data := .set #[] 0 (.fresh 0 0 (!w.params.followText "set-order")) }).objs.size = s.heap.objs.size + 1 := Heap.size_push ..
        have hneI : l ≠ (s.heap.push { cls := .type "set", dict := none, data := .set #[] 0 (.fresh 0 0 (!w.params.followText "set-order")) }).objs.size := by
          rw [Heap.size_push]; exact Nat.ne_of_lt (Nat.lt_succ_of_lt hlS)
        have hSf : s.heap.objs.size ∉ [(s.heap.push { cls := .type "set", dict := none, data := .set #[] 0 (.fresh 0 0 (!w.params.followText "set-order")) }).objs.size, l] := by
          rw [Heap.size_push]; simp only [List.mem_cons, List.mem_singleton, List.not_mem_nil, or_false, not_or]
          exact ⟨Nat.ne_of_lt (Nat.lt_succ_self _), Nat.ne_of_gt hlS⟩
        have hval : ∀ (i : Nat) (v : Value), items[i]? = some v → ∃ p, ks[i]? = some p ∧ v = .ref p.1 := fun i v hv => by
          have q : items.toList[i]? = some v := by rw [Array.getElem?_toList]; exact hv
          rw [hit, List.getElem?_map] at q
          cases hq : ks[i]? with
          | none => rw [hq] at q; cases q
          | some p =>
            rw [hq] at q
            exact ⟨p, rfl, (Option.some.inj q).symm⟩
        have none_of : ∀ b, s.heap.objs.size ≤ b → s.heap.get? b = none := fun b hb => by
          cases q : s.heap.get? b with
          | none => rfl
          | some o => exact absurd (Nat.lt_of_lt_of_le (Heap.lt_size q) hb) (Nat.lt_irrefl _)
        refine update_loopN ((Walks.list hh3 _ l hneI items).toS) s.heap.objs.size
          hSf ks hisz hfew hval s.heap hk (none_of _ (Nat.le_refl _)) (fun b hb => none_of b (by
            rw [List.mem_singleton.mp hb, Heap.size_push]
            exact Nat.le_succ _)) (by simp only [Around.in1_units]; omega) (items.size - 0) 0 _ (by omega) (Nat.zero_le _)
          ⟨⟨_, Heap.get?_push_size _ rfl, rfl, rfl⟩, (hl1.push _)⟩ (fun b o e => Heap.get?_push_of_some _ (Heap.get?_push_of_some _ e)) ?hS0 ?hR
        case hS0 =>
          have hget : ((s.heap.push { cls := .type "set", dict := none, data := .set #[] 0 (.fresh 0 0 (!w.params.followText "set-order")) }).push { cls := .type "list_iterator", data := .fields #[.ref l, .int 0 0] }).get? s.heap.objs.size
              = some { cls := .type "set", dict := none, data := .set #[] 0 (.fresh 0 0 (!w.params.followText "set-order")) } := Heap.get?_push_of_some _ hS
          exact ⟨[], #[], 0, _, setN_fresh hget, Had.zero ks⟩
        case hR =>
          intro s' L es ep t hm hS' g' hkp
          obtain ⟨h', g2, d', tk', os'⟩ := s'
          have eg : g2 = s.gens := hm.gens
          have ed : d' = s.drawn := hm.drawn
          have eo : os' = s.os := hm.os
          subst eg; subst ed; subst eo
          show wpAny _ _ _ _ _ _
          refine wpAny_pure ?_
          show wpAny _ _ (ret Value.none) _ _ _
          rw [hisz] at g'
          exact wpAny_pure ⟨rfl, h', tk', L, es, ep, t, rfl, hS', g', hkp⟩

      · cases r₂ with
        | error e => exact hr₂
        | ok fl₂ =>
          cases fl₂ with
          | ret r =>
            obtain ⟨rfl, h', tk, L, es, ep, t, rfl, hS', g', hk'⟩ := hr₂
            repeat (any_goals (first | assumption | wp_step))
            exact h _ _ _ _ _ _ hS' g' hk'
          | _ => exact hr₂.elim
    | _ => exact hr.elim

/-! ### sorted -/
open PySem.W in
theorem call_sort_vals {a : Addr} {vs : List Value} {n : Nat} {κ : PyProof.Rows.KeyKind} {Q : Value → Shared → Prop} (ho : s.heap.get? a = some (seqObj "list" vs.toArray n)) (S : SortsAt P w A.in1 { s with heap := sortingHeap s.heap a vs } κ vs) (hL : vs.length ≤ sizeLine)
    (h : Q .none { s with heap := sortedHeap s.heap a vs (sortVals κ false vs vs).toArray }) :
    wpAny (model P w) A (call (.builtin "list.sort") [.ref a]) Q E s :=
  wpAny_call_entry slot_list_sort ⟨_, ho, rfl⟩ entry_list_sort (list_sort_vals ho S hL ⟨_, rfl, h⟩) (args_list_sort _)
open PySem.W in
theorem sorted_setN {a : Addr} {L : List Row} {es : Array (Int × Value)} {ep : Nat} {t : SetTable} {Q : Value → Shared → Prop} (R : SetN P w s.heap a L es ep t) (hh : A.handled = none) (hfew : L.length < 64)
    (hS : ∀ s1 : Shared, (∀ b o, s.heap.get? b = some o → s1.heap.get? b = some o) → ∀ L1 : List Row, L1.Perm L → ∃ κ, SortsAt P w A.in1.in1 s1 κ (L1.map fun q => Value.ref q.1) ∧ 
      ∀ s' p (c : Nat) (L' : List Row), (∀ b o, s.heap.get? b = some o → s'.heap.get? b = some o) → s'.gens = s.gens → s'.os = s.os → s.heap.objs.size ≤ p →
      s'.heap.get? p = some (seqObj "list" (sortVals κ false (L1.map fun q => Value.ref q.1) (L1.map fun q => Value.ref q.1)).toArray c) → L'.Perm L → sortVals κ false (L1.map fun q => Value.ref q.1) (L1.map fun q => Value.ref q.1) = L'.map (fun q => Value.ref q.1) → Q (.ref p) s') :
    wpAny (model P w) A (call (.builtin "sorted") [.ref a]) Q E s := by
  obtain ⟨o, ho, hex, hd⟩ := R.ob
  have hsz := R.size
  refine Calls.call_function_entry kind_sorted plain_sorted entry_sorted (args_sorted1 _) ?_
  unfold Builtin.«sorted»
  refine wpAny_bind (m := checkCount "sorted" 1 1 _) (wpAny_pure ?_)
  refine wpAny_bind (collect_set (A := A.in1) hh ⟨o, ho, hex.1, hd⟩ R.fits (by unfold scanBound; omega) R.tab.ris R.led fun s1 vs k1 hz g1 o1 pm => ?_)
  have hes : es.toList.map (·.2) = L.map fun q => Value.ref q.1 := by
    rw [R.rows]
    unfold rowsN
    rw [List.map_map] <;> rfl
  rw [hes] at pm
  have ord : ∀ vs : List Value, (∀ v ∈ vs, ∃ q ∈ L, v = Value.ref q.1) → ∃ L1 : List Row, vs = L1.map (fun q => Value.ref q.1) ∧ ∀ q ∈ L1, q ∈ L := by
    intro vs
    induction vs with
    | nil => intro _; exact ⟨[], rfl, fun q hq => (by cases hq)⟩
    | cons v vs ih =>
      intro hv
      obtain ⟨q, hq, e⟩ := hv v List.mem_cons_self
      obtain ⟨L1, e1, hs⟩ := ih fun u hu => hv u (List.mem_cons_of_mem _ hu)
      refine ⟨q :: L1, by rw [List.map_cons, e, e1], fun r hr => ?_⟩
      rcases List.mem_cons.mp hr with z | z
      · rw [z]; exact hq
      · exact hs r z
  have one : ∀ q ∈ L, ∀ r ∈ L, q.1 = r.1 → q = r := fun q hq r hr e => by
    have a1 := R.tup q hq
    have a2 := R.tup r hr
    rw [e] at a1
    exact Prod.ext e (a1.inj a2)
  have perm_of : ∀ L1 : List Row, (∀ q ∈ L1, q ∈ L) → (L1.map (fun q => Value.ref q.1)).Perm (L.map fun q => Value.ref q.1) → L1.Perm L := by
    intro L1 hs pm1
    have nL : L.Nodup := nodup_of_map R.nd
    have nref : (L.map fun q => Value.ref q.1).Nodup := by
      refine List.pairwise_map.mpr (List.Pairwise.imp_of_mem (fun {q r} hq hr hne e => ?_) nL)
      injection e with e
      exact hne (one q hq r hr e)
    have n1 : L1.Nodup := nodup_of_map (pm1.nodup_iff.mpr nref)
    refine (List.perm_ext_iff_of_nodup n1 nL).mpr fun q => ⟨hs q, fun hq => ?_⟩
    have hm : Value.ref q.1 ∈ L1.map (fun q => Value.ref q.1) := pm1.mem_iff.mpr (List.mem_map.mpr ⟨q, hq, rfl⟩)
    obtain ⟨r, hr, e⟩ := List.mem_map.mp hm
    injection e with e
    rw [← one r (hs r hr) q hq e]
    exact hr
  obtain ⟨L1, rfl, hs1⟩ := ord vs fun v hv => by
    obtain ⟨q, hq, e⟩ := List.mem_map.mp (pm.mem_iff.mp hv)
    exact ⟨q, hq, e.symm⟩
  have p1 : L1.Perm L := perm_of L1 hs1 pm
  have hvl : (L1.map fun q => Value.ref q.1).length < 64 := by rw [List.length_map, p1.length_eq]; exact hfew
  generalize hvs : (L1.map fun q => Value.ref q.1) = vs at hvl pm
  refine wpAny_bind (wpAny_newList ?_ (by rw [sizeLine_eq]; omega))
  have hoL : (s1.heap.push (seqObj "list" vs.toArray 0)).get? s1.heap.objs.size = some (seqObj "list" vs.toArray 0) := Heap.get?_push_size _ rfl
  have kk : ∀ b u, s.heap.get? b = some u → (sortingHeap (s1.heap.push (seqObj "list" vs.toArray 0)) s1.heap.objs.size vs).get? b = some u := fun b u e => by
    have q := k1 b u e
    exact sortingHeap_old (Nat.ne_of_lt (Heap.lt_size q)) (Heap.get?_push_of_some _ q)
  obtain ⟨κ, S, hQ⟩ := hS { s1 with heap := sortingHeap (s1.heap.push (seqObj "list" vs.toArray 0)) s1.heap.objs.size vs } kk L1 p1
  rw [hvs] at S hQ
  refine wpAny_bind (wpAny_holding (call_sort_vals (s := { s1 with heap := s1.heap.push (seqObj "list" vs.toArray 0) }) hoL S (by rw [sizeLine_eq]; omega) ?_))
  obtain ⟨c, hc⟩ := sortedHeap_at (vs := vs) (out := (sortVals κ false vs vs).toArray) hoL
  have spm : (sortVals κ false vs vs).Perm vs := by
    unfold sortVals
    have z := (List.mergeSort_perm (vs.zip vs) (sortLe κ.toKeyOrd false fun p => keyD κ p.1)).map Prod.snd
    rwa [List.map_snd_zip (Nat.le_refl _)] at z
  obtain ⟨L', e', hs'⟩ := ord (sortVals κ false vs vs) fun v hv => by
    obtain ⟨q, hq, e⟩ := List.mem_map.mp (pm.mem_iff.mp (spm.mem_iff.mp hv))
    exact ⟨q, hq, e.symm⟩
  have pL : L'.Perm L := perm_of L' hs' (by rw [← e']; exact spm.trans pm)
  refine wpAny_pure ⟨_, rfl, hQ _ s1.heap.objs.size c L' (fun b u e => ?_) g1 o1 hz hc pL e'⟩
  have q := k1 b u e
  have hlt := Heap.lt_size q
  show (sortedHeap (s1.heap.push (seqObj "list" vs.toArray 0)) s1.heap.objs.size vs _).get? b = some u
  rw [sortedHeap_old (Nat.ne_of_lt hlt) (by rw [size_push']; exact Nat.lt_succ_of_lt hlt)]
  exact Heap.get?_push_of_some _ q
end
end NS

/-! RA: sorted(set(xs)), xs a list of nested tuples of whole numbers. -/
namespace Pv
open PySem PySem.Spec PyProof.Rows L2
abbrev NRow : Type := NS.Row

mutual
theorem nkey_data : ∀ (d : PD) {k : NestedKey}, nkey d = some k → k.data = d ∧ NS.numK k = true
  | .int i, k, h => by simp only [nkey, Option.some.injEq] at h; subst h; exact ⟨rfl, rfl⟩
  | .tuple ds, k, h => by
    unfold nkey at h
    split at h
    · rename_i ks e
      cases h
      obtain ⟨h1, h2⟩ := nkeys_data ds e
      exact ⟨by simp only [NestedKey.data]; rw [h1], by simp only [NS.numK]; exact h2⟩
    · cases h
  | .none, k, h => by simp [nkey] at h
  | .bool _, k, h => by simp [nkey] at h
  | .str _, k, h => by simp [nkey] at h
  | .list _, k, h => by simp [nkey] at h
  | .dict _, k, h => by simp [nkey] at h
theorem nkeys_data : ∀ (ds : List PD) {ks : List NestedKey}, nkeys ds = some ks → NestedKey.datas ks = ds ∧ NS.numKs ks = true
  | [], ks, h => by simp only [nkeys, Option.some.injEq] at h; subst h; exact ⟨rfl, rfl⟩
  | d :: ds, ks, h => by
    unfold nkeys at h
    split at h
    · rename_i k r e1 e2
      cases h
      obtain ⟨a1, a2⟩ := nkey_data d e1
      obtain ⟨b1, b2⟩ := nkeys_data ds e2
      exact ⟨by simp only [NestedKey.datas]; rw [a1, b1], by simp only [NS.numKs]; rw [a2, b2]; rfl⟩
    · cases h
end
mutual
theorem nkey_lay : ∀ (d : PD) {k : NestedKey}, nkey d = some k → d.canLay0 = true
  | .int i, k, h => rfl
  | .tuple ds, k, h => by
    unfold nkey at h
    split at h
    · rename_i ks e
      simp only [PyData.canLay0]
      exact nkeys_lay ds e
    · cases h
  | .none, k, h => by simp [nkey] at h
  | .bool _, k, h => by simp [nkey] at h
  | .str _, k, h => by simp [nkey] at h
  | .list _, k, h => by simp [nkey] at h
  | .dict _, k, h => by simp [nkey] at h
theorem nkeys_lay : ∀ (ds : List PD) {ks : List NestedKey}, nkeys ds = some ks → PyData.canLayAll0 ds = true
  | [], ks, h => rfl
  | d :: ds, ks, h => by
    unfold nkeys at h
    split at h
    · rename_i k r e1 e2
      simp only [PyData.canLayAll0, Bool.and_eq_true]
      exact ⟨nkey_lay d e1, nkeys_lay ds e2⟩
    · cases h
end
mutual
theorem nkey_depth : ∀ (d : PD) {k : NestedKey}, nkey d = some k → d.depth = k.depth
  | .int i, k, h => by simp only [nkey, Option.some.injEq] at h; subst h; rfl
  | .tuple ds, k, h => by
    unfold nkey at h
    split at h
    · rename_i ks e
      cases h
      simp only [PyData.depth, NestedKey.depth]
      rw [nkeys_depth ds e]
    · cases h
  | .none, k, h => by simp [nkey] at h
  | .bool _, k, h => by simp [nkey] at h
  | .str _, k, h => by simp [nkey] at h
  | .list _, k, h => by simp [nkey] at h
  | .dict _, k, h => by simp [nkey] at h
theorem nkeys_depth : ∀ (ds : List PD) {ks : List NestedKey}, nkeys ds = some ks → PyData.depthAll ds = NestedKey.depthAll ks
  | [], ks, h => by simp only [nkeys, Option.some.injEq] at h; subst h; rfl
  | d :: ds, ks, h => by
    unfold nkeys at h
    split at h
    · rename_i k r e1 e2
      cases h
      simp only [PyData.depthAll, NestedKey.depthAll]
      rw [nkey_depth d e1, nkeys_depth ds e2]
    · cases h
end
/-- the row of signs tells the datum -/
def TokInj (x y : PD) : Prop := W.alike x y = true → ∀ l m, W.keyToks x ++ l = W.keyToks y ++ m → x = y ∧ l = m
def ToksInj (xs ys : List PD) : Prop := W.alikeAll xs ys = true → ∀ l m, W.keyToksAll xs ++ l = W.keyToksAll ys ++ m → xs = ys ∧ l = m
mutual
theorem tok_inj : ∀ (x : PD) {k : NestedKey}, nkey x = some k → ∀ (y : PD) {k' : NestedKey}, nkey y = some k' → TokInj x y
  | .int i, _, _, .int j, _, _ => fun _ l m e => by
    simp only [W.keyToks, List.cons_append, List.nil_append, List.cons.injEq, Sum.inl.injEq] at e
    exact ⟨by rw [e.1], e.2⟩
  | .int _, _, _, .tuple _, _, _ => fun h => by simp [W.alike] at h
  | .tuple _, _, _, .int _, _, _ => fun h => by simp [W.alike] at h
  | .tuple xs, _, hx, .tuple ys, _, hy => fun h l m e => by
    unfold nkey at hx hy
    split at hx
    · split at hy
      · rename_i e1 _ _ e2
        simp only [W.keyToks] at e
        obtain ⟨a, b⟩ := toks_inj xs e1 ys e2 (by simpa [W.alike] using h) l m e
        exact ⟨by rw [a], b⟩
      · cases hy
    · cases hx
  | .none, _, h, _, _, _ => by simp [nkey] at h
  | .bool _, _, h, _, _, _ => by simp [nkey] at h
  | .str _, _, h, _, _, _ => by simp [nkey] at h
  | .list _, _, h, _, _, _ => by simp [nkey] at h
  | .dict _, _, h, _, _, _ => by simp [nkey] at h
  | .int _, _, _, .none, _, h => by simp [nkey] at h
  | .int _, _, _, .bool _, _, h => by simp [nkey] at h
  | .int _, _, _, .str _, _, h => by simp [nkey] at h
  | .int _, _, _, .list _, _, h => by simp [nkey] at h
  | .int _, _, _, .dict _, _, h => by simp [nkey] at h
  | .tuple _, _, _, .none, _, h => by simp [nkey] at h
  | .tuple _, _, _, .bool _, _, h => by simp [nkey] at h
  | .tuple _, _, _, .str _, _, h => by simp [nkey] at h
  | .tuple _, _, _, .list _, _, h => by simp [nkey] at h
  | .tuple _, _, _, .dict _, _, h => by simp [nkey] at h
theorem toks_inj : ∀ (xs : List PD) {ks : List NestedKey}, nkeys xs = some ks → ∀ (ys : List PD) {ks' : List NestedKey}, nkeys ys = some ks' → ToksInj xs ys
  | [], _, _, [], _, _ => fun _ l m e => by
    simp only [W.keyToksAll, List.cons_append, List.nil_append, List.cons.injEq] at e
    exact ⟨rfl, e.2⟩
  | [], _, _, _ :: _, _, _ => fun _ l m e => by
    simp [W.keyToksAll] at e
  | _ :: _, _, _, [], _, _ => fun _ l m e => by
    simp [W.keyToksAll] at e
  | x :: xs, _, hx, y :: ys, _, hy => fun h l m e => by
    unfold nkeys at hx hy
    split at hx
    · split at hy
      · rename_i e1 e2 _ _ _ _ f1 f2
        obtain ⟨h1, h2⟩ := W.alike_all_cons h
        simp only [W.keyToksAll, List.cons_append, List.cons.injEq, List.append_assoc, true_and] at e
        obtain ⟨rfl, e'⟩ := tok_inj x e1 y f1 h1 _ _ e
        obtain ⟨rfl, e''⟩ := toks_inj xs e2 ys f2 h2 _ _ e'
        exact ⟨rfl, e''⟩
      · cases hy
    · cases hx
end
/-- put in where it belongs -/
def insN (d : PD) : List PD → List PD
  | [] => [d]
  | x :: xs => if W.dataLt d x then d :: x :: xs else if W.dataLt x d then x :: insN d xs else x :: xs
/-- sorted, each once -/
def dsN : List PD → List PD
  | [] => []
  | x :: xs => insN x (dsN xs)
/-- all of one sort that can be told apart and ordered -/
def NumD (d : PD) : Prop := ∃ k, nkey d = some k
theorem lt_total {x y : PD} (hx : NumD x) (hy : NumD y) (h : W.alike x y = true) (h1 : W.dataLt x y = false) (h2 : W.dataLt y x = false) : x = y := by
  have e : W.keyToks x = W.keyToks y := lex_total (O := itemOrd) _ _ h1 h2
  obtain ⟨k, hk⟩ := hx
  obtain ⟨k', hk'⟩ := hy
  exact (tok_inj x hk y hk' h [] [] (by rw [e])).1
theorem lt_irr (x : PD) : W.dataLt x x = false := lex_irrefl (O := itemOrd) _
theorem lt_trans' {x y z : PD} (h1 : W.dataLt x y = true) (h2 : W.dataLt y z = true) : W.dataLt x z = true := lex_trans (O := itemOrd) _ _ _ h1 h2
theorem insN_mem {d z : PD} : ∀ {xs : List PD}, z ∈ insN d xs → z = d ∨ z ∈ xs
  | [], h => by simpa [insN] using h
  | x :: xs, h => by
    unfold insN at h
    split at h
    · simpa using h
    · split at h
      · rcases List.mem_cons.mp h with e | e
        · exact .inr (by simp [e])
        · rcases insN_mem e with e | e
          · exact .inl e
          · exact .inr (List.mem_cons_of_mem _ e)
      · exact .inr h
theorem mem_insN {d z : PD} : ∀ {xs : List PD}, (∀ x ∈ xs, W.dataLt d x = false → W.dataLt x d = false → d = x) → z = d ∨ z ∈ xs → z ∈ insN d xs
  | [], _, h => by simpa [insN] using h
  | x :: xs, ht, h => by
    unfold insN
    split
    · simpa using h
    · rename_i c1
      split
      · rcases h with h | h
        · exact List.mem_cons_of_mem _ (mem_insN (fun y hy => ht y (List.mem_cons_of_mem _ hy)) (.inl h))
        · rcases List.mem_cons.mp h with e | h
          · simp [e]
          · exact List.mem_cons_of_mem _ (mem_insN (fun y hy => ht y (List.mem_cons_of_mem _ hy)) (.inr h))
      · rename_i c2
        rcases h with h | h
        · rw [h, ht x (by simp) (by simpa using c1) (by simpa using c2)]
          simp
        · exact h
theorem dsN_mem {z : PD} : ∀ {xs : List PD}, z ∈ dsN xs → z ∈ xs
  | [], h => by simpa [dsN] using h
  | x :: xs, h => by
    rcases insN_mem (show z ∈ insN x (dsN xs) from h) with e | e
    · simp [e]
    · exact List.mem_cons_of_mem _ (dsN_mem e)
theorem mem_dsN {z : PD} : ∀ {xs : List PD}, (∀ x ∈ xs, NumD x) → W.AllAlike xs → z ∈ xs → z ∈ dsN xs
  | [], _, _, h => by cases h
  | x :: xs, hn, ha, h => by
    refine mem_insN (fun y hy c1 c2 => lt_total (hn x (by simp)) (hn y (List.mem_cons_of_mem _ (dsN_mem hy))) (ha x (by simp) y (List.mem_cons_of_mem _ (dsN_mem hy))) c1 c2) ?_
    rcases List.mem_cons.mp h with e | h
    · exact .inl e
    · exact .inr (mem_dsN (fun y hy => hn y (List.mem_cons_of_mem _ hy)) (fun a h1 b h2 => ha a (List.mem_cons_of_mem _ h1) b (List.mem_cons_of_mem _ h2)) h)
theorem insN_sorted {d : PD} : ∀ {xs : List PD}, xs.Pairwise (fun x y => W.dataLt x y = true) → (insN d xs).Pairwise (fun x y => W.dataLt x y = true)
  | [], _ => by simp [insN]
  | x :: xs, h => by
    obtain ⟨h1, h2⟩ := List.pairwise_cons.mp h
    unfold insN
    split
    · rename_i c
      refine List.pairwise_cons.mpr ⟨fun y hy => ?_, h⟩
      rcases List.mem_cons.mp hy with e | hy
      · rw [e]; exact c
      · exact lt_trans' c (h1 y hy)
    · split
      · rename_i c
        refine List.pairwise_cons.mpr ⟨fun y hy => ?_, insN_sorted h2⟩
        rcases insN_mem hy with e | hy
        · rw [e]; exact c
        · exact h1 y hy
      · exact h
theorem dsN_sorted : ∀ {xs : List PD}, (dsN xs).Pairwise (fun x y => W.dataLt x y = true)
  | [] => .nil
  | x :: xs => insN_sorted dsN_sorted
theorem strictN : ∀ {M N : List PD}, M.Pairwise (fun x y => W.dataLt x y = true) → N.Pairwise (fun x y => W.dataLt x y = true) → (∀ z, z ∈ M ↔ z ∈ N) → M = N
  | [], [], _, _, _ => rfl
  | [], y :: N, _, _, h => by have := (h y).mpr (by simp); cases this
  | x :: M, [], _, _, h => by have := (h x).mp (by simp); cases this
  | x :: M, y :: N, h1, h2, h => by
    obtain ⟨a1, a2⟩ := List.pairwise_cons.mp h1
    obtain ⟨b1, b2⟩ := List.pairwise_cons.mp h2
    have exy : x = y := by
      rcases List.mem_cons.mp ((h x).mp (by simp)) with e | hx
      · exact e
      · rcases List.mem_cons.mp ((h y).mpr (by simp)) with e | hy
        · exact e.symm
        · have := lt_trans' (a1 y hy) (b1 x hx)
          rw [lt_irr] at this
          cases this
    subst exy
    rw [strictN a2 b2 fun z => ?_]
    constructor
    · intro hz
      rcases List.mem_cons.mp ((h z).mp (List.mem_cons_of_mem _ hz)) with e | hz'
      · have := a1 z hz
        rw [e, lt_irr] at this
        cases this
      · exact hz'
    · intro hz
      rcases List.mem_cons.mp ((h z).mpr (List.mem_cons_of_mem _ hz)) with e | hz'
      · have := b1 z hz
        rw [e, lt_irr] at this
        cases this
      · exact hz'
theorem strict_nodup {M : List PD} (h : M.Pairwise (fun x y => W.dataLt x y = true)) : M.Nodup := h.imp fun {x y} e z => by
  rw [z, lt_irr] at e
  cases e

/-! ### the rules -/
structure SetN0 (P : Program) (w : World) (h : Heap) (a : Addr) (L : List NRow) : Prop where
  ex : ∃ (es : Array (Int × Value)) (ep : Nat) (t : SetTable), (∃ o, h.get? a = some o ∧ o.ExactSet ∧ o.data = .set es ep t) ∧ es.toList = NS.rowsN w L ∧ TabOk t (L.map fun p => p.2.hash w) ∧ (L.map (·.2)).Nodup ∧ t.plain = true ∧
    (w.params.followText "set-order" = true ∨ t.led = true) ∧ L.length * 5 < t.mask * 3
def SetNO (P : Program) (w : World) (a : Addr) (L : List NRow) : HO := .ext fun h => SetN0 P w h a L
theorem setN_t0 {P : Program} {w : World} {h : Heap} {a : Addr} {L : List NRow} {es : Array (Int × Value)} {ep : Nat} {t : SetTable} (R : NS.SetN P w h a L es ep t) : SetN0 P w h a L :=
  ⟨es, ep, t, R.ob, R.rows, R.tab, R.nd, R.plain, R.led, R.room⟩
theorem SetN0.full {P : Program} {w : World} {h : Heap} {a : Addr} {L : List NRow} (R : SetN0 P w h a L) (ht : ∀ p ∈ L, NS.NT h p.2 p.1) : ∃ es ep t, NS.SetN P w h a L es ep t := by
  obtain ⟨es, ep, t, h1, h2, h3, h4, h5, h6, h7⟩ := R.ex
  exact ⟨es, ep, t, h1, h2, h3, h4, ht, h5, h6, h7⟩
theorem setNO_new {P : Program} {w : World} {H : Hp} {h : Heap} {a : Addr} {L : List NRow} (R : SetN0 P w h a L) : ObjOk P w H h a (SetNO P w a L) := by
  have ⟨es, ep, t, ⟨o, ho, r⟩, q⟩ := R.ex
  refine ⟨R, ⟨o, ho⟩, fun h1 h2 p k => ?_⟩
  have ⟨es', ep', t', ⟨o', ho', r'⟩, q'⟩ := SetN0.ex p
  exact ⟨es', ep', t', ⟨o', k o' ho', r'⟩, q'⟩
theorem nrefs_of : ∀ {ks : List NRow} {us : List Value}, Vals (ks.map fun p => V.ref p.1) us → us = ks.map fun p => Value.ref p.1
  | [], _, .nil => rfl
  | p :: ks, _, .cons r t => by
    cases r
    rw [nrefs_of t] <;> rfl
theorem nvals_of : ∀ (ks : List NRow), Vals (ks.map fun p => V.ref p.1) (ks.map fun p => Value.ref p.1)
  | [] => .nil
  | p :: ks => .cons rfl (nvals_of ks)
section
variable [Fed] {X : Cx}
/-- a row reads as the datum of its key -/
def RowR (K : PySem.W.Frag) (F : Hp) (p : NRow) : Prop := RD K F (.ref p.1) p.2.data ∧ nkey p.2.data = some p.2 ∧ p.2.depth ≤ 8
theorem RowR.nt {pins : List (Addr × Obj)} {σ : L2.St} {F H : Hp} {s : Shared} {p : NRow} (I : Inv X pins σ H s) (e : Same F H) (r : RowR X.K F p) : NS.NT s.heap p.2 p.1 :=
  ⟨rd_nested I e _ r.2.1 r.1 rfl, r.2.2, (nkey_data _ r.2.1).2⟩
def rSetN (K : PySem.W.Frag) (P : Program) (w : World) : List V → Hp → VK → Prop := fun xs H Q => ∃ (l : Addr) (ks : List NRow) (F : Hp), xs = [V.ref l] ∧ SqL K H l (ks.map fun p => V.ref p.1) ∧ Same F H ∧ (∀ p ∈ ks, RowR K F p) ∧ NS.Few ks ∧
  ∀ a L, H a = none → (∀ p ∈ L, p ∈ ks) → (∀ p ∈ ks, p.2 ∈ L.map (·.2)) → (L.map (·.2)).Nodup → Q (.ref a) (upd H a (SetNO P w a L))
theorem cr_setN (hc : X.calm = true) (hu : X.A.units + 64 < cLine) : CallR X (.type "set") (rSetN X.K X.prog X.w) := by
  intro pins s σ H xs us Q I r h
  obtain ⟨l, ks, F, rfl, hl, hF, hk, hf, q⟩ := h
  rw [Vals.ref1 r]
  obtain ⟨its, rv, pl, hz⟩ := I.list hl
  have hn : H s.heap.objs.size = none := I.hok.fresh (Nat.le_refl _)
  refine NS.call_setN (P := X.prog) (w := X.w) ks (I.ok.hd hc) pl.isList (by simpa using nrefs_of rv) (fun p hp => (hk p hp).nt I hF) hf (by omega) fun h' tk L es ep t R g k => ?_
  refine ⟨.ref s.heap.objs.size, upd H s.heap.objs.size (SetNO X.prog X.w s.heap.objs.size L), I.laid (t' := tk) k (Nat.le_refl _) (setNO_new (setN_t0 R)), rfl, q _ L hn (fun p hp => ?_) (fun p hp => ?_) R.nd⟩
  · exact List.mem_of_mem_take (g.sub p hp)
  · exact g.all p (by rw [List.take_length]; exact hp)
def rSortedN (K : PySem.W.Frag) (P : Program) (w : World) : List V → Hp → VK → Prop := fun vs H Q => ∃ (a : Addr) (L : List NRow) (F : Hp), vs = [V.ref a] ∧ H a = some (SetNO P w a L) ∧ Same F H ∧ (∀ p ∈ L, RowR K F p) ∧ L.length < 64 ∧
  W.AllAlike (L.map (·.2.data)) ∧ (∀ p ∈ L, ∃ x r, p.2.data = .tuple (x :: r)) ∧ (L.map (·.2)).Nodup ∧
  ∀ (L' : List NRow) (p : Addr), L'.Perm L → (L'.map (·.2.data)).Pairwise (fun x y => W.dataLt x y = true) → H p = none → Q (.ref p) (upd H p (.lst (L'.map fun q => V.ref q.1)))
theorem each_refs {h : Heap} {G : NRow → Prop} (hr : ∀ p, G p → ∃ as, Reads h (Value.ref p.1) p.2.data as) : ∀ (L : List NRow), (∀ p ∈ L, G p) → W.EachIs (fun v q => ∃ as, Reads h v q.2.data as) (L.map fun q => Value.ref q.1) L
  | [], _ => .nil
  | p :: L, h => .cons (hr p (h p (by simp))) (each_refs hr L fun q hq => h q (List.mem_cons_of_mem _ hq))
theorem each_self : ∀ (L : List NRow), W.EachIs (fun v (q : NRow) => v = Value.ref q.1) (L.map fun q => Value.ref q.1) L
  | [] => .nil
  | p :: L => .cons rfl (each_self L)
theorem each_eq : ∀ {vs : List Value} {L : List NRow}, W.EachIs (fun v (q : NRow) => v = Value.ref q.1) vs L → vs = L.map fun q => Value.ref q.1
  | _, _, .nil => rfl
  | _, _, .cons e t => by rw [e, each_eq t]; rfl
theorem cr_sortedN (hc : X.calm = true) (hu : X.A.units + 64 < cLine) : CallR X (.builtin "sorted") (rSortedN X.K X.prog X.w) := by
  intro pins s σ H vs us Q I r h
  obtain ⟨a, L, F, rfl, ha, hF, hk, h64, hal, htu, hnd, q⟩ := h
  have R0 : SetN0 X.prog X.w s.heap a L := (I.hok a _ ha).1
  obtain ⟨es, ep, t, R⟩ := R0.full fun p hp => (hk p hp).nt I hF
  rw [Vals.ref1 r]
  have rd : ∀ p, p ∈ L → ∃ as, Reads s.heap (Value.ref p.1) p.2.data as := fun p hp => by
    obtain ⟨r1, r2, r3⟩ := hk p hp
    exact Dp.reads I _ _ _ (RD.dp hF r1 (nkey_lay _ r2)) rfl
  refine NS.sorted_setN R (I.ok.hd hc) h64 fun s1 k1 L1 p1 => ?_
  have er : W.EachIs (fun v (q : NRow) => ∃ as, Reads s1.heap v q.2.data as) (L1.map fun q => Value.ref q.1) L1 :=
    each_refs (G := fun p => p ∈ L) (fun p hp => by obtain ⟨as, z⟩ := rd p hp; exact ⟨as, Reads.keeps k1 z⟩) L1 fun p hp => p1.mem_iff.mp hp
  have hal1 : W.AllAlike (L1.map (·.2.data)) := fun x hx y hy => by
    obtain ⟨p, hp, rfl⟩ := List.mem_map.mp hx
    obtain ⟨p', hp', rfl⟩ := List.mem_map.mp hy
    exact hal _ (List.mem_map_of_mem (p1.mem_iff.mp hp)) _ (List.mem_map_of_mem (p1.mem_iff.mp hp'))
  refine ⟨W.dataKind s1.heap (L1.map (·.2.data)), W.SortsAt.data (W.each_map (R := fun v d => ∃ as, Reads s1.heap v d as) (fun q : NRow => q.2.data) er) hal1 (.inl fun d hd => ?_) (fun d hd => ?_), fun s' p c L' k g o hp hg pL eL => ?_⟩
  · obtain ⟨p, hp, rfl⟩ := List.mem_map.mp hd
    exact htu p (p1.mem_iff.mp hp)
  · obtain ⟨p, hp, rfl⟩ := List.mem_map.mp hd
    obtain ⟨r1, r2, r3⟩ := hk p (p1.mem_iff.mp hp)
    rw [nkey_depth _ r2]
    simp only [Around.in1_units]
    omega
  · have e0 := each_eq (W.sortVals_data (h' := s1.heap) (enc := fun q : NRow => q.2.data) false (each_self L1) er hal1)
    have pS : (L1.mergeSort (W.dataLe false fun q : NRow => q.2.data)).Perm L := (List.mergeSort_perm _ _).trans p1
    have sS : (L1.mergeSort (W.dataLe false fun q : NRow => q.2.data)).Pairwise (fun x y => W.dataLe false (fun q : NRow => q.2.data) x y = true) := W.sort_pairwise (W.sortLe_total (listOrd itemOrd) false fun q : NRow => W.keyToks q.2.data) L1
    generalize L1.mergeSort (W.dataLe false fun q : NRow => q.2.data) = S at e0 pS sS
    have hn : H p = none := I.hok.fresh hp
    rw [e0] at hg
    have hlen : (S.map fun q => V.ref q.1).length ≤ sizeLine := by rw [List.length_map, pS.length_eq, sizeLine_eq]; omega
    have J : Inv X pins σ (upd H p (.lst (S.map fun q => V.ref q.1))) { s with heap := s'.heap, gens := s'.gens, drawn := s'.drawn, toks := s'.toks } :=
      I.call (ch := []) (Un.laid k hp hn) (I.hok.laid k hp ⟨hlen, _, c, nvals_of S, by simpa [seqObj] using hg⟩) (by rw [g]; exact I.bare) (fun _ z => nomatch z)
    have e : s' = { s with heap := s'.heap, gens := s'.gens, drawn := s'.drawn, toks := s'.toks } := by
      cases s'
      cases s
      cases o
      rfl
    rw [e]
    refine ⟨.ref p, _, J, rfl, q S p pS ?_ hn⟩
    rw [List.pairwise_map]
    have nd0 : (S.map (·.2)).Nodup := (pS.map (·.2)).nodup_iff.mpr hnd
    have nd : S.Pairwise (fun x y => x.2 ≠ y.2) := by
      unfold List.Nodup at nd0
      rwa [List.pairwise_map] at nd0
    refine (sS.and nd).imp_of_mem fun {x y} hx hy hxy => ?_
    have h1 : W.dataLt y.2.data x.2.data = false := by
      have z := hxy.1
      unfold W.dataLe W.sortLe at z
      simpa [W.dataLt] using z
    cases h2 : W.dataLt x.2.data y.2.data with
    | true => rfl
    | false =>
      have ax := hk x (pS.mem_iff.mp hx)
      have ay := hk y (pS.mem_iff.mp hy)
      have e := lt_total ⟨_, ax.2.1⟩ ⟨_, ay.2.1⟩ (hal _ (List.mem_map_of_mem (pS.mem_iff.mp hx)) _ (List.mem_map_of_mem (pS.mem_iff.mp hy))) h2 h1
      have e2 : some x.2 = some y.2 := by rw [← ax.2.1, ← ay.2.1, e]
      exact absurd (Option.some.inj e2) hxy.2
end

/-! ### the evaluator -/
def neTup : PD → Bool
  | .tuple (_ :: _) => true
  | _ => false
def nkOk (d : PD) : Bool := match nkey d with
  | some k => decide (k.depth ≤ 8)
  | none => false
def allLike (ds : List PD) : Bool := ds.all fun x => ds.all fun y => W.alike x y
def nsOk (ds : List PD) : Bool := ds.all (fun d => nkOk d && neTup d) && (allLike ds && decide ((dsN ds).length < 64))
def gSN (ob tl : Bool) (ds : List PD) (h : AH) : Res Sl := if nsOk ds && tl then (if ob then .ok (.obj h.length) (h ++ [.lst (dsN ds)]) else .ok (.dat (.list (dsN ds))) h) else .no
theorem nsOk_iff {ds : List PD} (h : nsOk ds = true) : (∀ d ∈ ds, (∃ k, nkey d = some k ∧ k.depth ≤ 8) ∧ ∃ x r, d = .tuple (x :: r)) ∧ W.AllAlike ds ∧ (dsN ds).length < 64 := by
  unfold nsOk at h
  rw [Bool.and_eq_true, Bool.and_eq_true, List.all_eq_true] at h
  obtain ⟨h1, h2, h3⟩ := h
  refine ⟨fun d hd => ?_, fun x hx y hy => List.all_eq_true.mp (List.all_eq_true.mp h2 x hx) y hy, of_decide_eq_true h3⟩
  have z := h1 d hd
  rw [Bool.and_eq_true] at z
  obtain ⟨z1, z2⟩ := z
  constructor
  · unfold nkOk at z1
    split at z1
    · rename_i k e
      exact ⟨k, e, of_decide_eq_true z1⟩
    · cases z1
  · cases d with
    | tuple xs => cases xs with
      | nil => cases z2
      | cons x r => exact ⟨x, r, rfl⟩
    | _ => cases z2
def cSN (ob : Bool) (ta : Ax) : Ex := fun env h => (ta env h).bind fun xs h1 => match xs with
  | [x] => match frzSeq x with
    | some ds => gSN ob (lstS x) ds h1
    | _ => .no
  | _ => .no
section
variable [Fed] {C : Cn} {Wx : XK} {X : Cx} {e : Expr} {tr : Ax} {p q pos pos' : Pos}
theorem out_gSN {ob : Bool} {F U H : Hp} {μ : List Addr} {h : AH} {Q : VK} {ds : List PD} {vs : List V} {S : Addr} (l : Lk C.K F U μ H h) (hk : RDs C.K F vs ds) (hS : H S = none) (o : Out C F U μ Wx (rSl C.K) Q (if ob then .ok (.obj h.length) (h ++ [.lst ds]) else .ok (.dat (.list ds)) h)) : Q (.ref S) (upd H S (.lst vs)) := by
  cases ob with
  | true => exact Out.newO (by simpa using o) l hk hS
  | false => exact Out.newL (by simpa using o) l hk hS
theorem rows_of {K : PySem.W.Frag} {F : Hp} : ∀ {vs : List V} {ds : List PD}, RDs K F vs ds → (∀ d ∈ ds, (∃ k, nkey d = some k ∧ k.depth ≤ 8) ∧ ∃ x r, d = .tuple (x :: r)) → ∃ ks : List NRow, vs = ks.map (fun p => V.ref p.1) ∧ ks.map (·.2.data) = ds ∧ ∀ p ∈ ks, RowR K F p
  | [], [], .nil, _ => ⟨[], rfl, rfl, fun _ h => nomatch h⟩
  | v :: vs, d :: ds, .cons r rs, h => by
    obtain ⟨ks, rfl, e2, h3⟩ := rows_of rs fun x hx => h x (List.mem_cons_of_mem _ hx)
    obtain ⟨⟨k, hk, hd⟩, x, rr, ed⟩ := h d (by simp)
    have e := (nkey_data d hk).1
    subst ed
    cases r with
    | tup hq hr =>
      rename_i a xs
      refine ⟨(a, k) :: ks, rfl, by rw [List.map_cons, e2, e], fun p hp => ?_⟩
      rcases List.mem_cons.mp hp with z | z
      · rw [z]; exact ⟨by rw [e]; exact .tup hq hr, by rw [e]; exact hk, hd⟩
      · exact h3 p z
theorem rds_rows {K : PySem.W.Frag} {F : Hp} : ∀ {L : List NRow}, (∀ p ∈ L, RowR K F p) → RDs K F (L.map fun p => V.ref p.1) (L.map (·.2.data))
  | [], _ => .nil
  | p :: L, h => .cons (h p (by simp)).1 (rds_rows fun q hq => h q (List.mem_cons_of_mem _ hq))
theorem RowR.mono {K : PySem.W.Frag} {F F' : Hp} (e : Same F F') {p : NRow} (r : RowR K F p) : RowR K F' p := ⟨r.1.mono e, r.2⟩
theorem few_rows {ks : List NRow} {ds : List PD} (e : ks.map (·.2.data) = ds) (hk : ∀ p ∈ ks, nkey p.2.data = some p.2) (ha : W.AllAlike ds) (hl : (dsN ds).length < 64) : NS.Few ks := fun D nd hD => by
  have hn : ∀ x ∈ ds, NumD x := fun x hx => by
    rw [← e] at hx
    obtain ⟨p, hp, rfl⟩ := List.mem_map.mp hx
    exact ⟨_, hk p hp⟩
  have inj : ∀ k ∈ D, nkey k.data = some k := fun k hkD => by
    obtain ⟨p, hp, rfl⟩ := List.mem_map.mp (hD k hkD)
    exact hk p hp
  have z := NS.few_of D ((dsN ds).map fun d => (nkey d).getD .none) nd fun k hkD => by
    obtain ⟨p, hp, rfl⟩ := List.mem_map.mp (hD k hkD)
    refine List.mem_map.mpr ⟨p.2.data, mem_dsN hn ha (by rw [← e]; exact List.mem_map_of_mem hp), ?_⟩
    rw [hk p hp]
    rfl
  rw [List.length_map] at z
  omega
theorem se_sortSetN {k : Nat} (ob : Bool) (hr : Room k X.A) (hg : Gl X "sorted") (hm : X.mg "sorted" = none) (hg2 : Gl X "set") (hm2 : X.mg "set" = none) (ha : SA C Wx X [e] tr) (hc : X.calm = true := by rfl) (hK : X.K = C.K := by rfl)
    (nb : starEach [.Call (.Name "set" q) [e] [] pos'] X.env = (false, eval (.Call (.Name "set" q) [e] [] pos') X.env) :: starEach [] X.env := by rfl)
    (ns : starEach [e] X.env = (false, eval e X.env) :: starEach [] X.env := by rfl) :
    SE C Wx X (.Call (.Name "sorted" p) [.Call (.Name "set" q) [e] [] pos'] [] pos) (cSN ob tr) :=
  ⟨pe_imp (pe_callB (cr_sortedN hc (by have := hr.un; omega)) hg hm PyProof.Rows.boot_sorted (pa_cons (pe_callTy (cr_setN hc (by have := hr.un; omega)) hg2 hm2 PyProof.Rows.boot_set ha.pa (he := ns) (hpl := rfl)) pa_nil nb) (he := nb) (hpl := rfl)) fun σ H Q z => by
    obtain ⟨F, U, μ, env, h, l, ev, o⟩ := z
    refine rd_step l ev o fun x vx F1 U1 μ1 H1 h1 g1 p1 l1 r1 e1 o1 => ?_
    split at o1
    · obtain ⟨v, rfl, rv⟩ := slRs1 r1
      split at o1
      · rename_i ds ed
        obtain ⟨bb, a, ws, rfl, hq, hd, htl⟩ := frzSeq_ok2 rv ed
        have hq1 : SqB bb C.K H1 a ws := sqB_mono l1.fh hq
        unfold gSN at o1
        split at o1
        · rename_i hok
          rw [Bool.and_eq_true] at hok
          obtain ⟨hns, htrue⟩ := hok
          obtain ⟨n1, n2, n3⟩ := nsOk_iff hns
          cases bb with
          | false => exact Bool.noConfusion (htl htrue)
          | true =>
            obtain ⟨ks, rfl, ek, hks⟩ := rows_of hd n1
            have hks1 : ∀ p ∈ ks, RowR X.K F1 p := fun p hp => by rw [hK]; exact hks p hp
            have hnk : ∀ p ∈ ks, nkey p.2.data = some p.2 := fun p hp => (hks p hp).2.1
            refine ⟨a, ks, F1, rfl, by rw [hK]; exact hq1, l1.fh, hks1, few_rows ek hnk n2 n3, fun S L hS hsub hcov hndL => ?_⟩
            obtain ⟨g2, l2⟩ := l1.new (o := SetNO X.prog X.w S L) hS
            have hF2 : Same F1 (upd H1 S (SetNO X.prog X.w S L)) := g2.f.trans l2.fh
            have hLd : ∀ p ∈ L, p.2.data ∈ ds := fun p hp => by rw [← ek]; exact List.mem_map_of_mem (hsub p hp)
            have hlk : ∀ p ∈ L, RowR X.K F1 p := fun p hp => hks1 p (hsub p hp)
            refine ⟨S, L, F1, rfl, upd_same, hF2, hlk, ?_, ?_, fun p hp => (n1 _ (hLd p hp)).2, hndL, fun L' T pm pw hT => ?_⟩
            · have := few_rows ek hnk n2 n3 (L.map (·.2)) hndL fun k hk => by
                obtain ⟨p, hp, rfl⟩ := List.mem_map.mp hk
                exact List.mem_map_of_mem (hsub p hp)
              rw [List.length_map] at this
              exact this
            · intro x hx y hy
              obtain ⟨p, hp, rfl⟩ := List.mem_map.mp hx
              obtain ⟨p', hp', rfl⟩ := List.mem_map.mp hy
              exact n2 _ (hLd p hp) _ (hLd p' hp')
            · have hn : ∀ x ∈ ds, NumD x := fun x hx => by obtain ⟨⟨k, hk, _⟩, _⟩ := n1 x hx; exact ⟨k, hk⟩
              have em : L'.map (·.2.data) = dsN ds := strictN pw dsN_sorted fun z => by
                constructor
                · intro hz
                  obtain ⟨p, hp, rfl⟩ := List.mem_map.mp hz
                  exact mem_dsN hn n2 (hLd p (pm.mem_iff.mp hp))
                · intro hz
                  have hz' := dsN_mem hz
                  rw [← ek] at hz'
                  obtain ⟨p, hp, rfl⟩ := List.mem_map.mp hz'
                  obtain ⟨p', hp', e'⟩ := List.mem_map.mp (hcov p hp)
                  rw [← e']
                  exact List.mem_map_of_mem (pm.mem_iff.mpr hp')
              rw [← em] at o1
              exact out_gSN l2 ((rds_rows fun p hp => by rw [← hK]; exact (hlk p (pm.mem_iff.mp hp)).mono g2.f)) hT (o1.mono g2 (List.prefix_refl _))
        · exact o1.elim
      · exact o1.elim
    · exact o1.elim⟩
/-- the older evaluator where it serves -/
def oldOk (ds : List PD) (tl : Bool) : Bool := match intsOf ds with
  | some _ => true
  | none => match tupsI ds with
    | some (k :: kss) => decide (1 ≤ k.length) && (k :: kss).all (tupOk k.length) && decide ((k :: kss).length < 64) && tl
    | _ => false
def oldX (xs : List Sl) : Bool := match xs with
  | [x] => match frzSeq x with
    | some ds => oldOk ds (lstS x)
    | _ => true
  | _ => true
def cSM (ob : Bool) (ta : Ax) : Ex := fun env h => match ta env h with
  | .ok xs _ => if oldX xs then cSL ob ta env h else cSN ob ta env h
  | _ => cSL ob ta env h
theorem se_two {e : Expr} {f g k : Ex} (hf : SE C Wx X e f) (hg : SE C Wx X e g) (h : ∀ env hh, k env hh = f env hh ∨ k env hh = g env hh) : SE C Wx X e k :=
  ⟨⟨fun pins s σ H Q I z => by
    obtain ⟨F, U, μ, env, hh, l, ev, o⟩ := z
    rcases h env hh with e | e
    · rw [e] at o; exact hf.pe.run pins s σ H Q I ⟨F, U, μ, env, hh, l, ev, o⟩
    · rw [e] at o; exact hg.pe.run pins s σ H Q I ⟨F, U, μ, env, hh, l, ev, o⟩⟩⟩
theorem se_sortSetM {k : Nat} (ob : Bool) (hr : Room k X.A) (hg : Gl X "sorted") (hm : X.mg "sorted" = none) (hg2 : Gl X "set") (hm2 : X.mg "set" = none) (ha : SA C Wx X [e] tr) (hc : X.calm = true := by rfl) (hK : X.K = C.K := by rfl)
    (nb : starEach [.Call (.Name "set" q) [e] [] pos'] X.env = (false, eval (.Call (.Name "set" q) [e] [] pos') X.env) :: starEach [] X.env := by rfl)
    (ns : starEach [e] X.env = (false, eval e X.env) :: starEach [] X.env := by rfl) :
    SE C Wx X (.Call (.Name "sorted" p) [.Call (.Name "set" q) [e] [] pos'] [] pos) (cSM ob tr) :=
  se_two (se_sortSetL ob hr hg hm hg2 hm2 ha hc hK nb ns) (se_sortSetN ob hr hg hm hg2 hm2 ha hc hK nb ns) fun env h => by
    unfold cSM
    split
    · split
      · exact .inl rfl
      · exact .inr rfl
    · exact .inl rfl
end
end Pv

set_option maxHeartbeats 0
namespace Kk22
open PySem PySem.Spec PyProof.Rows L2 Pv
def top (i : Nat) : Stmt := PySem.Challenge.pw_neverbest_k22_weak_strikes_told.main.body.getD i (.Pass ⟨0, 0, 0, 0⟩)
/-! _law_feed -/
abbrev S__law_feed : Stmt := top 48
def N__law_feed : List Str := ["_law_script"]
def t__law_feed : Sx := (sRet (cDisp (((cDat (.str (⟨#[99, 101, 108, 108, 115]⟩ : Str))), (cCall (gList false) (aCons (cSl false (cVar 0) pNone (pSome (cDat (.int 63)))) aNil))) :: (((cDat (.str (⟨#[110, 101, 120, 116]⟩ : Str))), (cDat (.int 0))) :: (((cDat (.str (⟨#[114, 101, 115, 116]⟩ : Str))), (cDat (.int 0))) :: (((cDat (.str (⟨#[116, 117, 114, 110]⟩ : Str))), (cDat (.int 0))) :: []))))))
def m__law_feed : Fm := mFn false 0 (t__law_feed)
/-! _law_draw -/
abbrev S__law_draw : Stmt := top 49
def N__law_draw : List Str := ["_law_feed_here", "_law_many", "_law_digit", "_law_k", "_law_grain", "_law_mixed"]
def t__law_draw : Sx := (sSeq (sPut (cVar 0) (cDat (.str (⟨#[116, 117, 114, 110]⟩ : Str))) (cBin (gAdd false) (cGet (cVar 0) (cDat (.str (⟨#[116, 117, 114, 110]⟩ : Str)))) (cDat (.int 1))))
  (sSeq (sIf (uVal (cBin gGt (cGet (cVar 0) (cDat (.str (⟨#[114, 101, 115, 116]⟩ : Str)))) (cDat (.int 0)))) (sSeq (sSet 2 (cBin gMod (cCall gInt (aCons (cGet (cVar 0) (cDat (.str (⟨#[114, 101, 115, 116]⟩ : Str)))) aNil)) (cVar 1)))
  (sSeq (sPut (cVar 0) (cDat (.str (⟨#[114, 101, 115, 116]⟩ : Str))) (cBin gDiv (cGet (cVar 0) (cDat (.str (⟨#[114, 101, 115, 116]⟩ : Str)))) (cVar 1)))
  (sRet (cVar 2)))) sPass)
  (sSeq (sSet 3 (cGet (cVar 0) (cDat (.str (⟨#[110, 101, 120, 116]⟩ : Str)))))
  (sSeq (sPut (cVar 0) (cDat (.str (⟨#[110, 101, 120, 116]⟩ : Str))) (cBin (gAdd false) (cVar 3) (cDat (.int 1))))
  (sSeq (sSet 4 (cIf (uVal (cBin gNeA (cGet (cVar 0) (cDat (.str (⟨#[99, 101, 108, 108, 115]⟩ : Str)))) (cLst false aNil))) (cBin gIx (cGet (cVar 0) (cDat (.str (⟨#[99, 101, 108, 108, 115]⟩ : Str)))) (cBin gMod (cCall gInt (aCons (cVar 3) aNil)) (cCall gLen (aCons (cGet (cVar 0) (cDat (.str (⟨#[99, 101, 108, 108, 115]⟩ : Str)))) aNil)))) (cDat (.int 220753))))
  (sSeq (sIf (uAnd (uVal (cBin gGe (cVar 4) (cBin gPow (cDat (.int 10)) (cDat (.int 18))))) (uVal (cBin gLt (cVar 3) (cCall gLen (aCons (cGet (cVar 0) (cDat (.str (⟨#[99, 101, 108, 108, 115]⟩ : Str)))) aNil))))) (sSeq (sPut (cVar 0) (cDat (.str (⟨#[114, 101, 115, 116]⟩ : Str))) (cBin gDiv (cVar 4) (cVar 1)))
  (sRet (cBin gMod (cCall gInt (aCons (cVar 4) aNil)) (cVar 1)))) sPass)
  (sSeq (sSet 5 (cBin gMod (cCall gInt (aCons (cBin (gAdd false) (cBin (gAdd false) (cBin gMod (cCall gInt (aCons (cVar 4) aNil)) (cDat (.int 1000004627))) (cBin (gMul false) (cDat (.int 22147)) (cGet (cVar 0) (cDat (.str (⟨#[116, 117, 114, 110]⟩ : Str)))))) (cDat (.int 653))) aNil)) (cDat (.int 2147483563))))
  (sSeq (sSet 5 (cBin gMod (cCall gInt (aCons (cBin (gAdd false) (cBin (gAdd false) (cBin (gMul false) (cVar 5) (cVar 5)) (cBin (gMul false) (cDat (.int 5220107)) (cGet (cVar 0) (cDat (.str (⟨#[116, 117, 114, 110]⟩ : Str)))))) (cDat (.int 859))) aNil)) (cDat (.int 2147483497))))
  (sRet (cBin gMod (cCall gInt (aCons (cBin gDiv (cBin gMod (cCall gInt (aCons (cBin (gAdd false) (cBin (gMul false) (cVar 5) (cVar 5)) (cBin (gMul false) (cDat (.int 1051)) (cVar 5))) aNil)) (cDat (.int 2147483489))) (cDat (.int 16))) aNil)) (cVar 1)))))))))))
def m__law_draw : Fm := mFn false 4 (t__law_draw)
/-! _law_pick -/
abbrev S__law_pick : Stmt := top 50
def N__law_pick : List Str := ["_law_feed_here", "_law_some"]
def t__law_pick : Sx := (sRet (cBin gIxB (cVar 1) (cCallP mDraw 2 (aCons (cVar 0) (aCons (cCall gLen (aCons (cVar 1) aNil)) aNil)))))
def m0__law_pick : Fm := mFn false 0 t__law_pick
def tb__law_pick : List (List PD × PD) := []
def m__law_pick : Fm := mHid m0__law_pick tb__law_pick
/-! _law_ranks -/
abbrev S__law_ranks : Stmt := top 53
def N__law_ranks : List Str := ["_law_rows", "_law_move", "_law_rank"]
def t__law_ranks : Sx := (sRet (cTup (aCons (cDat (.str (⟨#[111, 114, 100, 101, 114]⟩ : Str))) (aCons (cCall gTuple (aCons (cLc (iSeqS (cVar 0)) (.nm 2) uYes (cBin (gAdd false) (cVar 2) (cVar 1)) [2]) aNil)) aNil))))
def m0__law_ranks : Fm := mFn false 1 t__law_ranks
def tb__law_ranks : List (List PD × PD) := []
def m__law_ranks : Fm := mHid m0__law_ranks tb__law_ranks
/-! _law_pairs -/
abbrev S__law_pairs : Stmt := top 52
def N__law_pairs : List Str := ["_law_rows", "_law_move", "_law_low", "_law_high"]
def t__law_pairs : Sx := (sRet (cTup (aCons (cDat (.str (⟨#[98, 111, 117, 110, 100, 115]⟩ : Str))) (aCons (cCall gTuple (aCons (cLc (iSeqS (cVar 0)) (.tup [(.nm 2), (.nm 3)]) uYes (cTup (aCons (cBin (gAdd false) (cVar 2) (cVar 1)) (aCons (cBin (gAdd false) (cVar 3) (cVar 1)) aNil))) [2, 3]) aNil)) aNil))))
def m0__law_pairs : Fm := mFn false 2 t__law_pairs
def tb__law_pairs : List (List PD × PD) := []
def m__law_pairs : Fm := mHid m0__law_pairs tb__law_pairs
/-! _law_games -/
abbrev S__law_games : Stmt := top 54
def N__law_games : List Str := ["_law_move", "_law_twice", "_law_flat", "_law_found", "_law_both", "_law_edge", "_law_cube", "_law_single"]
def t__law_games : Sx := (sSeq (sSet 1 (cTup (aCons (cTup (aCons (cDat (.int 3)) (aCons (cDat (.int 2)) aNil))) (aCons (cTup (aCons (cCallP m__law_ranks 2 (aCons (cLst false (aCons (cDat (.int 1)) (aCons (cDat (.int 0)) (aCons (cDat (.int 1)) (aCons (cDat (.int 2)) (aCons (cDat (.int 0)) (aCons (cDat (.int 2)) aNil))))))) (aCons (cVar 0) aNil))) (aCons (cCallP m__law_ranks 2 (aCons (cLst false (aCons (cDat (.int 1)) (aCons (cDat (.int 0)) (aCons (cDat (.int 1)) (aCons (cDat (.int 1)) (aCons (cDat (.int 0)) (aCons (cDat (.int 1)) aNil))))))) (aCons (cVar 0) aNil))) aNil))) aNil))))
  (sSeq (sSet 2 (cTup (aCons (cTup (aCons (cDat (.int 3)) (aCons (cDat (.int 2)) aNil))) (aCons (cTup (aCons (cCallP m__law_ranks 2 (aCons (cLst false (aCons (cDat (.int 1)) (aCons (cDat (.int 1)) (aCons (cDat (.int 2)) (aCons (cDat (.int 0)) (aCons (cDat (.int 0)) (aCons (cDat (.int 2)) aNil))))))) (aCons (cVar 0) aNil))) (aCons (cCallP m__law_pairs 2 (aCons (cBin (gMul false) (cLst false (aCons (cTup (aCons (cDat (.int 1)) (aCons (cDat (.int 1)) aNil))) aNil)) (cDat (.int 6))) (aCons (cVar 0) aNil))) aNil))) aNil))))
  (sSeq (sSet 3 (cLst false (aCons (cTup (aCons (cVar 1) (aCons (cLst false (aCons (cTup (aCons (cDat .none) (aCons (cTup (aCons (cTup (aCons (cDat (.int 0)) (aCons (cDat (.int 0)) aNil))) (aCons (cTup (aCons (cDat (.int 0)) (aCons (cDat (.int 2)) aNil))) aNil))) aNil))) (aCons (cTup (aCons (cTup (aCons (cTup (aCons (cDat (.int 0)) (aCons (cDat (.int 1)) aNil))) (aCons (cTup (aCons (cDat (.int 0)) (aCons (cDat (.int 1)) aNil))) aNil))) (aCons (cTup (aCons (cTup (aCons (cDat (.int 0)) (aCons (cDat (.int 0)) aNil))) (aCons (cTup (aCons (cDat (.int 1)) (aCons (cDat (.int 1)) aNil))) aNil))) aNil))) (aCons (cTup (aCons (cTup (aCons (cTup (aCons (cDat (.int 1)) (aCons (cDat (.int 2)) aNil))) (aCons (cTup (aCons (cDat (.int 0)) (aCons (cDat (.int 1)) aNil))) aNil))) (aCons (cTup (aCons (cTup (aCons (cDat (.int 0)) (aCons (cDat (.int 2)) aNil))) (aCons (cTup (aCons (cDat (.int 1)) (aCons (cDat (.int 0)) aNil))) aNil))) aNil))) (aCons (cTup (aCons (cTup (aCons (cTup (aCons (cDat (.int 0)) (aCons (cDat (.int 1)) aNil))) (aCons (cTup (aCons (cDat (.int 0)) aNil)) aNil))) (aCons (cTup aNil) aNil))) (aCons (cTup (aCons (cTup (aCons (cTup (aCons (cDat (.int 1)) aNil)) (aCons (cTup (aCons (cDat (.int 0)) (aCons (cDat (.int 1)) aNil))) aNil))) (aCons (cTup aNil) aNil))) (aCons (cTup (aCons (cTup (aCons (cTup (aCons (cDat (.int 0)) (aCons (cDat (.int 2)) aNil))) (aCons (cTup (aCons (cDat (.int 0)) (aCons (cDat (.int 1)) aNil))) aNil))) (aCons (cTup aNil) aNil))) aNil))))))) (aCons (cTup (aCons (cTup (aCons (cTup (aCons (cDat (.int 0)) (aCons (cDat (.int 1)) aNil))) (aCons (cTup (aCons (cDat (.int 0)) aNil)) aNil))) (aCons (cTup (aCons (cTup (aCons (cDat (.int 1)) aNil)) (aCons (cTup (aCons (cDat (.int 0)) (aCons (cDat (.int 1)) aNil))) aNil))) (aCons (cTup (aCons (cTup (aCons (cDat (.int 1)) (aCons (cDat (.int 2)) aNil))) (aCons (cTup (aCons (cDat (.int 1)) aNil)) aNil))) aNil)))) aNil)))) aNil)))
  (sSeq (sSet 3 (cBin (gAdd false) (cVar 3) (cLst false (aCons (cTup (aCons (cVar 2) (aCons (cLst false (aCons (cTup (aCons (cDat .none) (aCons (cTup aNil) aNil))) (aCons (cTup (aCons (cTup (aCons (cTup (aCons (cDat (.int 0)) (aCons (cDat (.int 1)) aNil))) (aCons (cTup (aCons (cDat (.int 1)) aNil)) aNil))) (aCons (cTup (aCons (cTup (aCons (cDat (.int 0)) (aCons (cDat (.int 1)) aNil))) aNil)) aNil))) (aCons (cTup (aCons (cTup (aCons (cTup (aCons (cDat (.int 0)) (aCons (cDat (.int 2)) aNil))) (aCons (cTup (aCons (cDat (.int 1)) aNil)) aNil))) (aCons (cTup (aCons (cTup (aCons (cDat (.int 0)) (aCons (cDat (.int 0)) aNil))) aNil)) aNil))) (aCons (cTup (aCons (cTup (aCons (cTup (aCons (cDat (.int 0)) (aCons (cDat (.int 2)) aNil))) (aCons (cTup (aCons (cDat (.int 0)) aNil)) aNil))) (aCons (cTup (aCons (cTup (aCons (cDat (.int 0)) (aCons (cDat (.int 2)) aNil))) aNil)) aNil))) aNil))))) (aCons (cTup (aCons (cTup (aCons (cTup (aCons (cDat (.int 0)) (aCons (cDat (.int 1)) (aCons (cDat (.int 2)) aNil)))) (aCons (cTup (aCons (cDat (.int 0)) (aCons (cDat (.int 1)) aNil))) aNil))) aNil)) aNil)))) aNil))))
  (sSeq (sSet 4 (cTup (aCons (cTup (aCons (cDat (.int 2)) (aCons (cDat (.int 2)) aNil))) (aCons (cTup (aCons (cCallP m__law_pairs 2 (aCons (cLst false (aCons (cTup (aCons (cDat (.int 3)) (aCons (cDat (.int 3)) aNil))) (aCons (cTup (aCons (cDat (.int 0)) (aCons (cDat (.int 0)) aNil))) (aCons (cTup (aCons (cDat (.int 5)) (aCons (cDat (.int 5)) aNil))) (aCons (cTup (aCons (cDat (.int 1)) (aCons (cDat (.int 1)) aNil))) aNil))))) (aCons (cVar 0) aNil))) (aCons (cCallP m__law_pairs 2 (aCons (cLst false (aCons (cTup (aCons (cDat (.int 3)) (aCons (cDat (.int 3)) aNil))) (aCons (cTup (aCons (cDat (.int 5)) (aCons (cDat (.int 5)) aNil))) (aCons (cTup (aCons (cDat (.int 0)) (aCons (cDat (.int 0)) aNil))) (aCons (cTup (aCons (cDat (.int 1)) (aCons (cDat (.int 1)) aNil))) aNil))))) (aCons (cVar 0) aNil))) aNil))) aNil))))
  (sSeq (sSet 3 (cBin (gAdd false) (cVar 3) (cLst false (aCons (cTup (aCons (cVar 4) (aCons (cLst false (aCons (cTup (aCons (cDat .none) (aCons (cTup (aCons (cTup (aCons (cDat (.int 0)) (aCons (cDat (.int 0)) aNil))) (aCons (cTup (aCons (cDat (.int 1)) (aCons (cDat (.int 0)) aNil))) aNil))) aNil))) (aCons (cTup (aCons (cTup (aCons (cTup (aCons (cDat (.int 0)) aNil)) (aCons (cTup (aCons (cDat (.int 0)) (aCons (cDat (.int 1)) aNil))) aNil))) (aCons (cTup (aCons (cTup (aCons (cDat (.int 1)) (aCons (cDat (.int 0)) aNil))) aNil)) aNil))) (aCons (cTup (aCons (cTup (aCons (cTup (aCons (cDat (.int 1)) aNil)) (aCons (cTup (aCons (cDat (.int 1)) aNil)) aNil))) (aCons (cTup aNil) aNil))) aNil)))) (aCons (cTup (aCons (cTup (aCons (cTup (aCons (cDat (.int 1)) aNil)) (aCons (cTup (aCons (cDat (.int 1)) aNil)) aNil))) aNil)) aNil)))) aNil))))
  (sSeq (sSet 5 (cTup (aCons (cTup (aCons (cDat (.int 2)) (aCons (cDat (.int 2)) aNil))) (aCons (cTup (aCons (cCallP m__law_pairs 2 (aCons (cLst false (aCons (cTup (aCons (cDat (.int 0)) (aCons (cDat (.int 1)) aNil))) (aCons (cTup (aCons (cDat (.int 0)) (aCons (cDat (.int 1)) aNil))) (aCons (cTup (aCons (cDat (.int 1)) (aCons (cDat (.int 4)) aNil))) (aCons (cTup (aCons (cDat (.int 1)) (aCons (cDat (.int 4)) aNil))) aNil))))) (aCons (cVar 0) aNil))) (aCons (cCallP m__law_pairs 2 (aCons (cLst false (aCons (cTup (aCons (cDat (.int 0)) (aCons (cDat (.int 1)) aNil))) (aCons (cTup (aCons (cDat (.int 1)) (aCons (cDat (.int 4)) aNil))) (aCons (cTup (aCons (cDat (.int 0)) (aCons (cDat (.int 1)) aNil))) (aCons (cTup (aCons (cDat (.int 2)) (aCons (cDat (.int 4)) aNil))) aNil))))) (aCons (cVar 0) aNil))) aNil))) aNil))))
  (sSeq (sSet 3 (cBin (gAdd false) (cVar 3) (cLst false (aCons (cTup (aCons (cVar 5) (aCons (cLst false (aCons (cTup (aCons (cDat .none) (aCons (cTup (aCons (cTup (aCons (cDat (.int 1)) (aCons (cDat (.int 0)) aNil))) aNil)) aNil))) (aCons (cTup (aCons (cTup (aCons (cTup (aCons (cDat (.int 0)) aNil)) (aCons (cTup (aCons (cDat (.int 0)) (aCons (cDat (.int 1)) aNil))) aNil))) (aCons (cTup aNil) aNil))) (aCons (cTup (aCons (cTup (aCons (cTup (aCons (cDat (.int 1)) aNil)) (aCons (cTup (aCons (cDat (.int 0)) (aCons (cDat (.int 1)) aNil))) aNil))) (aCons (cTup (aCons (cTup (aCons (cDat (.int 1)) (aCons (cDat (.int 0)) aNil))) aNil)) aNil))) aNil)))) (aCons (cTup (aCons (cTup (aCons (cTup (aCons (cDat (.int 0)) (aCons (cDat (.int 1)) aNil))) (aCons (cTup (aCons (cDat (.int 1)) aNil)) aNil))) aNil)) aNil)))) aNil))))
  (sSeq (sSet 6 (cTup (aCons (cTup (aCons (cDat (.int 2)) (aCons (cDat (.int 2)) (aCons (cDat (.int 2)) aNil)))) (aCons (cTup (aCons (cCallP m__law_ranks 2 (aCons (cLst false (aCons (cDat (.int 0)) (aCons (cDat (.int 0)) (aCons (cDat (.int 0)) (aCons (cDat (.int 0)) (aCons (cDat (.int 0)) (aCons (cDat (.int 0)) (aCons (cDat (.int 0)) (aCons (cDat (.int 1)) aNil))))))))) (aCons (cVar 0) aNil))) (aCons (cCallP m__law_ranks 2 (aCons (cBin (gMul false) (cLst false (aCons (cDat (.int 2)) aNil)) (cDat (.int 8))) (aCons (cVar 0) aNil))) (aCons (cCallP m__law_pairs 2 (aCons (cBin (gMul false) (cLst false (aCons (cTup (aCons (cDat (.int 0)) (aCons (cDat (.int 0)) aNil))) aNil)) (cDat (.int 8))) (aCons (cVar 0) aNil))) aNil)))) aNil))))
  (sSeq (sSet 3 (cBin (gAdd false) (cVar 3) (cLst false (aCons (cTup (aCons (cVar 6) (aCons (cLst false (aCons (cTup (aCons (cDat .none) (aCons (cTup (aCons (cTup (aCons (cDat (.int 0)) (aCons (cDat (.int 0)) aNil))) aNil)) aNil))) (aCons (cTup (aCons (cTup (aCons (cTup (aCons (cDat (.int 0)) (aCons (cDat (.int 1)) aNil))) (aCons (cTup (aCons (cDat (.int 0)) (aCons (cDat (.int 1)) aNil))) (aCons (cTup (aCons (cDat (.int 0)) aNil)) aNil)))) (aCons (cTup aNil) aNil))) (aCons (cTup (aCons (cTup (aCons (cTup (aCons (cDat (.int 0)) (aCons (cDat (.int 1)) aNil))) (aCons (cTup (aCons (cDat (.int 1)) aNil)) (aCons (cTup (aCons (cDat (.int 1)) aNil)) aNil)))) (aCons (cTup (aCons (cTup (aCons (cDat (.int 0)) (aCons (cDat (.int 0)) aNil))) aNil)) aNil))) aNil)))) (aCons (cTup (aCons (cTup (aCons (cTup (aCons (cDat (.int 1)) aNil)) (aCons (cTup (aCons (cDat (.int 0)) (aCons (cDat (.int 1)) aNil))) (aCons (cTup (aCons (cDat (.int 0)) (aCons (cDat (.int 1)) aNil))) aNil)))) aNil)) aNil)))) aNil))))
  (sSeq (sSet 7 (cTup (aCons (cTup (aCons (cDat (.int 1)) (aCons (cDat (.int 1)) aNil))) (aCons (cTup (aCons (cCallP m__law_ranks 2 (aCons (cLst false (aCons (cDat (.int 0)) aNil)) (aCons (cVar 0) aNil))) (aCons (cCallP m__law_pairs 2 (aCons (cLst false (aCons (cTup (aCons (cDat (.int 0)) (aCons (cDat (.int 9)) aNil))) aNil)) (aCons (cVar 0) aNil))) aNil))) aNil))))
  (sRet (cBin (gAdd false) (cVar 3) (cLst false (aCons (cTup (aCons (cVar 7) (aCons (cLst false (aCons (cTup (aCons (cDat .none) (aCons (cTup aNil) aNil))) (aCons (cTup (aCons (cTup (aCons (cTup (aCons (cDat (.int 0)) aNil)) (aCons (cTup (aCons (cDat (.int 0)) aNil)) aNil))) (aCons (cTup aNil) aNil))) aNil))) (aCons (cTup (aCons (cTup (aCons (cTup (aCons (cDat (.int 0)) aNil)) (aCons (cTup (aCons (cDat (.int 0)) aNil)) aNil))) aNil)) aNil)))) aNil)))))))))))))))
def m0__law_games : Fm := mFn false 7 t__law_games
def tb__law_games : List (List PD × PD) := []
def m__law_games : Fm := mHid m0__law_games tb__law_games
/-! _law_same -/
abbrev S__law_same : Stmt := top 51
def N__law_same : List Str := ["_law_got", "_law_due"]
def t__law_same : Sx := (sRet (cBin gEqR (cCall gRepr (aCons (cVar 0) aNil)) (cCall gRepr (aCons (cVar 1) aNil))))
def m0__law_same : Fm := mFn false 0 t__law_same
def tb__law_same : List (List PD × PD) := []
def m__law_same : Fm := mHid m0__law_same tb__law_same
/-! want -/
abbrev S_want : Stmt := top 33
def N_want : List Str := ["is_right", "name", "place"]
def t_want : Sx := (sIf (uNot (uVal (cVar 0))) (sRaise 2 2 (aCons (cVar 1) (aCons (cVar 2) aNil))) sPass)
def m0_want : Fm := mFn false 0 t_want
def tb_want : List (List PD × PD) := []
def m_want : Fm := mHid m0_want tb_want
/-! is_tuple_of -/
abbrev S_is_tuple_of : Stmt := top 20
def N_is_tuple_of : List Str := ["thing", "size"]
def t_is_tuple_of : Sx := (sRet (cAnd (cIsi kTuple (cVar 0)) (cBin gEqA (cCall gLen (aCons (cVar 0) aNil)) (cVar 1))))
def m0_is_tuple_of : Fm := mFn false 0 t_is_tuple_of
def tb_is_tuple_of : List (List PD × PD) := []
def m_is_tuple_of : Fm := mHid m0_is_tuple_of tb_is_tuple_of
/-! is_integer -/
abbrev S_is_integer : Stmt := top 16
def N_is_integer : List Str := ["thing"]
def t_is_integer : Sx := (sRet (cAnd (cIsi kInt (cVar 0)) (cNot (cIsi kBool (cVar 0)))))
def m0_is_integer : Fm := mFn false 0 t_is_integer
def tb_is_integer : List (List PD × PD) := []
def m_is_integer : Fm := mHid m0_is_integer tb_is_integer
/-! is_above_nought -/
abbrev S_is_above_nought : Stmt := top 18
def N_is_above_nought : List Str := ["thing"]
def t_is_above_nought : Sx := (sRet (cAnd (cCallP m_is_integer 1 (aCons (cVar 0) aNil)) (cBin gGtA (cVar 0) (cDat (.int 0)))))
def m0_is_above_nought : Fm := mFn false 0 t_is_above_nought
def tb_is_above_nought : List (List PD × PD) := []
def m_is_above_nought : Fm := mHid m0_is_above_nought tb_is_above_nought
/-! is_counts -/
abbrev S_is_counts : Stmt := top 21
def N_is_counts : List Str := ["thing", "one"]
def t_is_counts : Sx := (sRet (cAnd (cIsi kTuple (cVar 0)) (cAnd (cBin (gInB false) (cCall gLen (aCons (cVar 0) aNil)) (cTup (aCons (cDat (.int 2)) (aCons (cDat (.int 3)) aNil)))) (cCall gAll (aCons (cLc (iSeqS (cVar 0)) (.nm 1) uYes (cCallP m_is_above_nought 1 (aCons (cVar 1) aNil)) [1]) aNil)))))
def m0_is_counts : Fm := mFn false 1 t_is_counts
def tb_is_counts : List (List PD × PD) := []
def m_is_counts : Fm := mHid m0_is_counts tb_is_counts
/-! size_of -/
abbrev S_size_of : Stmt := top 7
def N_size_of : List Str := ["counts", "found", "many"]
def t_size_of : Sx := (sSeq (sSet 1 (cDat (.int 1)))
  (sSeq (sFor (iSeqS (cVar 0)) (.nm 2) (sSet 1 (cBin (gMul false) (cVar 1) (cVar 2))))
  (sRet (cVar 1))))
def m0_size_of : Fm := mFn false 2 t_size_of
def tb_size_of : List (List PD × PD) := []
def m_size_of : Fm := mHid m0_size_of tb_size_of
/-! is_telling_shape -/
abbrev S_is_telling_shape : Stmt := top 28
def N_is_telling_shape : List Str := ["counts", "thing"]
def t_is_telling_shape : Sx := (sSeq (sIf (uOr (uNot (uVal (cCallP m_is_tuple_of 2 (aCons (cVar 1) (aCons (cDat (.int 2)) aNil))))) (uOr (uNot (uVal (cIsi kStr (cBin gIxB (cVar 1) (cDat (.int 0)))))) (uVal (cBin (gInB true) (cBin gIxB (cVar 1) (cDat (.int 0))) (cTup (aCons (cDat (.str (⟨#[111, 114, 100, 101, 114]⟩ : Str))) (aCons (cDat (.str (⟨#[98, 111, 117, 110, 100, 115]⟩ : Str))) aNil))))))) (sRet (cDat (.bool false))) sPass)
  (sRet (cCallP m_is_tuple_of 2 (aCons (cBin gIxB (cVar 1) (cDat (.int 1))) (aCons (cCallP m_size_of 1 (aCons (cVar 0) aNil)) aNil)))))
def m0_is_telling_shape : Fm := mFn false 0 t_is_telling_shape
def tb_is_telling_shape : List (List PD × PD) := []
def m_is_telling_shape : Fm := mHid m0_is_telling_shape tb_is_telling_shape
/-! is_number -/
abbrev S_is_number : Stmt := top 17
def N_is_number : List Str := ["thing"]
def t_is_number : Sx := (sRet (cAnd (cCallP m_is_integer 1 (aCons (cVar 0) aNil)) (cBin gGeA (cVar 0) (cDat (.int 0)))))
def m0_is_number : Fm := mFn false 0 t_is_number
def tb_is_number : List (List PD × PD) := []
def m_is_number : Fm := mHid m0_is_number tb_is_number
/-! is_pair_of_bounds -/
abbrev S_is_pair_of_bounds : Stmt := top 24
def N_is_pair_of_bounds : List Str := ["thing"]
def t_is_pair_of_bounds : Sx := (sRet (cAnd (cCallP m_is_tuple_of 2 (aCons (cVar 0) (aCons (cDat (.int 2)) aNil))) (cAnd (cCallP m_is_integer 1 (aCons (cBin gIxB (cVar 0) (cDat (.int 0))) aNil)) (cAnd (cCallP m_is_integer 1 (aCons (cBin gIxB (cVar 0) (cDat (.int 1))) aNil)) (cBin gLeA (cBin gIxB (cVar 0) (cDat (.int 0))) (cBin gIxB (cVar 0) (cDat (.int 1))))))))
def m0_is_pair_of_bounds : Fm := mFn false 0 t_is_pair_of_bounds
def tb_is_pair_of_bounds : List (List PD × PD) := []
def m_is_pair_of_bounds : Fm := mHid m0_is_pair_of_bounds tb_is_pair_of_bounds
/-! is_element -/
abbrev S_is_element : Stmt := top 27
def N_is_element : List Str := ["kind", "thing"]
def t_is_element : Sx := (sRet (cIf (uVal (cBin gEqA (cVar 0) (cDat (.str (⟨#[111, 114, 100, 101, 114]⟩ : Str))))) (cCallP m_is_number 1 (aCons (cVar 1) aNil)) (cCallP m_is_pair_of_bounds 1 (aCons (cVar 1) aNil))))
def m0_is_element : Fm := mFn false 0 t_is_element
def tb_is_element : List (List PD × PD) := []
def m_is_element : Fm := mHid m0_is_element tb_is_element
/-! element_fault -/
abbrev S_element_fault : Stmt := top 29
def N_element_fault : List Str := ["telling", "found", "k", "one"]
def t_element_fault : Sx := (sSeq (sSet 1 (cLc (iEnumr (aCons (cBin gIxB (cVar 0) (cDat (.int 1))) aNil)) (.tup [(.nm 2), (.nm 3)]) (uNot (uVal (cCallP m_is_element 2 (aCons (cBin gIxB (cVar 0) (cDat (.int 0))) (aCons (cVar 3) aNil))))) (cVar 2) [2, 3]))
  (sRet (cIf (uVal (cBin gGtA (cCall gLen (aCons (cVar 1) aNil)) (cDat (.int 0)))) (cBin gIxB (cVar 1) (cDat (.int 0))) (cDat .none))))
def m0_element_fault : Fm := mFn false 3 t_element_fault
def tb_element_fault : List (List PD × PD) := []
def m_element_fault : Fm := mHid m0_element_fault tb_element_fault
/-! tellings_fault -/
abbrev S_tellings_fault : Stmt := top 30
def N_tellings_fault : List Str := ["counts", "tellings", "player", "telling", "spot"]
def t_tellings_fault : Sx := (sSeq (sFor (iEnumr (aCons (cVar 1) aNil)) (.tup [(.nm 2), (.nm 3)]) (sSeq (sIf (uNot (uVal (cCallP m_is_telling_shape 2 (aCons (cVar 0) (aCons (cVar 3) aNil))))) (sRet (cTup (aCons (cDat (.str (⟨#[116, 101, 108, 108, 105, 110, 103]⟩ : Str))) (aCons (cVar 2) aNil)))) sPass)
  (sSeq (sSet 4 (cCallP m_element_fault 1 (aCons (cVar 3) aNil)))
  (sIf (uVal (cBin gNotN (cVar 4) (cDat .none))) (sRet (cTup (aCons (cDat (.str (⟨#[99, 101, 108, 108]⟩ : Str))) (aCons (cTup (aCons (cVar 2) (aCons (cVar 4) aNil))) aNil)))) sPass))))
  (sRet (cDat .none)))
def m0_tellings_fault : Fm := mFn false 3 t_tellings_fault
def tb_tellings_fault : List (List PD × PD) := []
def m_tellings_fault : Fm := mHid m0_tellings_fault tb_tellings_fault
/-! game_fault -/
abbrev S_game_fault : Stmt := top 31
def N_game_fault : List Str := ["thing"]
def t_game_fault : Sx := (sSeq (sIf (uNot (uVal (cCallP m_is_tuple_of 2 (aCons (cVar 0) (aCons (cDat (.int 2)) aNil))))) (sRet (cTup (aCons (cDat (.str (⟨#[115, 104, 97, 112, 101]⟩ : Str))) (aCons (cNeg (cDat (.int 1))) aNil)))) sPass)
  (sSeq (sIf (uNot (uVal (cCallP m_is_counts 1 (aCons (cBin gIxB (cVar 0) (cDat (.int 0))) aNil)))) (sRet (cTup (aCons (cDat (.str (⟨#[99, 111, 117, 110, 116, 115]⟩ : Str))) (aCons (cNeg (cDat (.int 1))) aNil)))) sPass)
  (sSeq (sIf (uNot (uVal (cCallP m_is_tuple_of 2 (aCons (cBin gIxB (cVar 0) (cDat (.int 1))) (aCons (cCall gLen (aCons (cBin gIxB (cVar 0) (cDat (.int 0))) aNil)) aNil))))) (sRet (cTup (aCons (cDat (.str (⟨#[116, 101, 108, 108, 105, 110, 103, 115]⟩ : Str))) (aCons (cNeg (cDat (.int 1))) aNil)))) sPass)
  (sRet (cCallP m_tellings_fault 2 (aCons (cBin gIxB (cVar 0) (cDat (.int 0))) (aCons (cBin gIxB (cVar 0) (cDat (.int 1))) aNil)))))))
def m0_game_fault : Fm := mFn false 0 t_game_fault
def tb_game_fault : List (List PD × PD) := []
def m_game_fault : Fm := mHid m0_game_fault tb_game_fault
/-! want_game -/
abbrev S_want_game : Stmt := top 34
def N_want_game : List Str := ["game", "name"]
def t_want_game : Sx := (sExpr (cCallF m_want 2 0 [.a 0, .a 1, .d 0] [.int (-1)] [] (aCons (cBin gIsN (cCallP m_game_fault 1 (aCons (cVar 0) aNil)) (cDat .none)) (aCons (cVar 1) aNil)) aNil))
def m0_want_game : Fm := mFn false 0 t_want_game
def tb_want_game : List (List PD × PD) := []
def m_want_game : Fm := mHid m0_want_game tb_want_game
/-! is_index -/
abbrev S_is_index : Stmt := top 19
def N_is_index : List Str := ["many", "thing"]
def t_is_index : Sx := (sRet (cAnd (cCallP m_is_number 1 (aCons (cVar 1) aNil)) (cBin gLtA (cVar 1) (cVar 0))))
def m0_is_index : Fm := mFn false 0 t_is_index
def tb_is_index : List (List PD × PD) := []
def m_is_index : Fm := mHid m0_is_index tb_is_index
/-! are_ascending -/
abbrev S_are_ascending : Stmt := top 22
def N_are_ascending : List Str := ["things", "one", "other"]
def t_are_ascending : Sx := (sRet (cCall gAll (aCons (cLc (iZip (aCons (cVar 0) (aCons (cSlA false (cVar 0) (pSome (cDat (.int 1))) pNone) aNil))) (.tup [(.nm 1), (.nm 2)]) uYes (cBin gLtA (cVar 1) (cVar 2)) [1, 2]) aNil)))
def m0_are_ascending : Fm := mFn false 2 t_are_ascending
def tb_are_ascending : List (List PD × PD) := []
def m_are_ascending : Fm := mHid m0_are_ascending tb_are_ascending
/-! is_set_below -/
abbrev S_is_set_below : Stmt := top 23
def N_is_set_below : List Str := ["many", "thing", "one"]
def t_is_set_below : Sx := (sRet (cAnd (cIsi kTuple (cVar 1)) (cAnd (cCall gAll (aCons (cLc (iSeqS (cVar 1)) (.nm 2) uYes (cCallP m_is_index 2 (aCons (cVar 0) (aCons (cVar 2) aNil))) [2]) aNil)) (cCallP m_are_ascending 1 (aCons (cVar 1) aNil)))))
def m0_is_set_below : Fm := mFn false 1 t_is_set_below
def tb_is_set_below : List (List PD × PD) := []
def m_is_set_below : Fm := mHid m0_is_set_below tb_is_set_below
/-! is_left_by -/
abbrev S_is_left_by : Stmt := top 26
def N_is_left_by : List Str := ["game", "thing", "many", "one"]
def t_is_left_by : Sx := (sSeq (sIf (uNot (uVal (cCallP m_is_tuple_of 2 (aCons (cVar 1) (aCons (cCall gLen (aCons (cBin gIxB (cVar 0) (cDat (.int 0))) aNil)) aNil))))) (sRet (cDat (.bool false))) sPass)
  (sRet (cCall gAll (aCons (cLc (iZip (aCons (cBin gIxB (cVar 0) (cDat (.int 0))) (aCons (cVar 1) aNil))) (.tup [(.nm 2), (.nm 3)]) uYes (cAnd (cCallP m_is_set_below 2 (aCons (cVar 2) (aCons (cVar 3) aNil))) (cBin gGtA (cCall gLen (aCons (cVar 3) aNil)) (cDat (.int 0)))) [2, 3]) aNil))))
def m0_is_left_by : Fm := mFn false 2 t_is_left_by
def tb_is_left_by : List (List PD × PD) := []
def m_is_left_by : Fm := mHid m0_is_left_by tb_is_left_by
/-! want_left -/
abbrev S_want_left : Stmt := top 35
def N_want_left : List Str := ["game", "left"]
def t_want_left : Sx := (sExpr (cCallF m_want 2 0 [.a 0, .a 1, .d 0] [.int (-1)] [] (aCons (cOr (cBin gIsN (cVar 1) (cDat .none)) (cCallP m_is_left_by 2 (aCons (cVar 0) (aCons (cVar 1) aNil)))) (aCons (cDat (.str (⟨#[108, 101, 102, 116]⟩ : Str))) aNil)) aNil))
def m0_want_left : Fm := mFn false 0 t_want_left
def tb_want_left : List (List PD × PD) := []
def m_want_left : Fm := mHid m0_want_left tb_want_left
/-! all_by -/
abbrev S_all_by : Stmt := top 12
def N_all_by : List Str := ["counts", "many"]
def t_all_by : Sx := (sRet (cCall gTuple (aCons (cLc (iSeqS (cVar 0)) (.nm 1) uYes (cRg1 gTupRg (cVar 1)) [1]) aNil)))
def m0_all_by : Fm := mFn false 1 t_all_by
def tb_all_by : List (List PD × PD) := []
def m_all_by : Fm := mHid m0_all_by tb_all_by
/-! left_or_all -/
abbrev S_left_or_all : Stmt := top 13
def N_left_or_all : List Str := ["game", "left"]
def t_left_or_all : Sx := (sRet (cIf (uVal (cBin gIsN (cVar 1) (cDat .none))) (cCallP m_all_by 1 (aCons (cBin gIxB (cVar 0) (cDat (.int 0))) aNil)) (cVar 1)))
def m0_left_or_all : Fm := mFn false 0 t_left_or_all
def tb_left_or_all : List (List PD × PD) := []
def m_left_or_all : Fm := mHid m0_left_or_all tb_left_or_all
/-! others_by -/
abbrev S_others_by : Stmt := top 9
def N_others_by : List Str := ["counts", "player"]
def t_others_by : Sx := (sRet (cTup (aStar (cSlA false (cVar 0) pNone (pSome (cVar 1))) (aStar (cSlA false (cVar 0) (pSome (cBin (gAdd false) (cVar 1) (cDat (.int 1)))) pNone) aNil))))
def m0_others_by : Fm := mFn false 0 t_others_by
def tb_others_by : List (List PD × PD) := []
def m_others_by : Fm := mHid m0_others_by tb_others_by
/-! left_cases_by -/
abbrev S_left_cases_by : Stmt := top 14
def N_left_cases_by : List Str := ["game", "player", "left", "found", "choices", "case", "choice"]
def t_left_cases_by : Sx := (sSeq (sSet 3 (cLst false (aCons (cTup aNil) aNil)))
  (sSeq (sFor (iSeqS (cCallP m_others_by 2 (aCons (cCallP m_left_or_all 2 (aCons (cVar 0) (aCons (cVar 2) aNil))) (aCons (cVar 1) aNil)))) (.nm 4) (sSet 3 (cLc2 (iSeqS (cVar 3)) (.nm 5) uYes (iSeqS (cVar 4)) (.nm 6) uYes (cTup (aStar (cVar 5) (aCons (cVar 6) aNil))) [5, 6] [6])))
  (sRet (cCall gTuple (aCons (cVar 3) aNil)))))
def m0_left_cases_by : Fm := mFn false 4 t_left_cases_by
def tb_left_cases_by : List (List PD × PD) := []
def m_left_cases_by : Fm := mHid m0_left_cases_by tb_left_cases_by
/-! spot_by -/
abbrev S_spot_by : Stmt := top 8
def N_spot_by : List Str := ["counts", "cell", "spot", "many", "choice"]
def t_spot_by : Sx := (sSeq (sSet 2 (cDat (.int 0)))
  (sSeq (sFor (iZip (aCons (cVar 0) (aCons (cVar 1) aNil))) (.tup [(.nm 3), (.nm 4)]) (sSet 2 (cBin (gAdd false) (cBin (gMul false) (cVar 2) (cVar 3)) (cVar 4))))
  (sRet (cVar 2))))
def m0_spot_by : Fm := mFn false 3 t_spot_by
def tb_spot_by : List (List PD × PD) := []
def m_spot_by : Fm := mHid m0_spot_by tb_spot_by
/-! told_by -/
abbrev S_told_by : Stmt := top 11
def N_told_by : List Str := ["game", "player", "cell"]
def t_told_by : Sx := (sRet (cBin gIxB (cBin gIxB (cBin gIxB (cBin gIxB (cVar 0) (cDat (.int 1))) (cVar 1)) (cDat (.int 1))) (cCallP m_spot_by 2 (aCons (cBin gIxB (cVar 0) (cDat (.int 0))) (aCons (cVar 2) aNil)))))
def m0_told_by : Fm := mFn false 0 t_told_by
def tb_told_by : List (List PD × PD) := []
def m_told_by : Fm := mHid m0_told_by tb_told_by
/-! cell_by -/
abbrev S_cell_by : Stmt := top 10
def N_cell_by : List Str := ["player", "choice", "case"]
def t_cell_by : Sx := (sRet (cTup (aStar (cSlA false (cVar 2) pNone (pSome (cVar 0))) (aCons (cVar 1) (aStar (cSlA false (cVar 2) (pSome (cVar 0)) pNone) aNil)))))
def m0_cell_by : Fm := mFn false 0 t_cell_by
def tb_cell_by : List (List PD × PD) := []
def m_cell_by : Fm := mHid m0_cell_by tb_cell_by
/-! told_twice -/
abbrev S_told_twice : Stmt := top 37
def N_told_twice : List Str := ["game", "player", "one", "other", "left", "cases", "case", "choice"]
def t_told_twice : Sx := (sSeq (sSet 5 (cCallP m_left_cases_by 3 (aCons (cVar 0) (aCons (cVar 1) (aCons (cVar 4) aNil)))))
  (sRet (cLc (iSeqS (cVar 5)) (.nm 6) uYes (cLc (iSeqS (cTup (aCons (cVar 2) (aCons (cVar 3) aNil)))) (.nm 7) uYes (cCallP m_told_by 3 (aCons (cVar 0) (aCons (cVar 1) (aCons (cCallP m_cell_by 3 (aCons (cVar 1) (aCons (cVar 7) (aCons (cVar 6) aNil)))) aNil)))) [7]) [6])))
def m0_told_twice : Fm := mFn false 3 t_told_twice
def tb_told_twice : List (List PD × PD) := []
def m_told_twice : Fm := mHid m0_told_twice tb_told_twice
/-! leads_by -/
abbrev S_leads_by : Stmt := top 38
def N_leads_by : List Str := ["game", "player", "one", "other", "left", "pairs", "here", "there"]
def t_leads_by : Sx := (sSeq (sSet 5 (cCallP m_told_twice 5 (aCons (cVar 0) (aCons (cVar 1) (aCons (cVar 2) (aCons (cVar 3) (aCons (cVar 4) aNil)))))))
  (sSeq (sIf (uVal (cBin gEqA (cBin gIxB (cBin gIxB (cBin gIxB (cVar 0) (cDat (.int 1))) (cVar 1)) (cDat (.int 0))) (cDat (.str (⟨#[98, 111, 117, 110, 100, 115]⟩ : Str))))) (sRet (cLc (iSeqS (cVar 5)) (.tup [(.nm 6), (.nm 7)]) uYes (cBin gSub (cBin gIxB (cVar 6) (cDat (.int 0))) (cBin gIxB (cVar 7) (cDat (.int 1)))) [6, 7])) sPass)
  (sRet (cLc (iSeqS (cVar 5)) (.tup [(.nm 6), (.nm 7)]) uYes (cBin gSub (cVar 6) (cVar 7)) [6, 7]))))
def m0_leads_by : Fm := mFn false 3 t_leads_by
def tb_leads_by : List (List PD × PD) := []
def m_leads_by : Fm := mHid m0_leads_by tb_leads_by
/-! is_no_better_by -/
abbrev S_is_no_better_by : Stmt := top 39
def N_is_no_better_by : List Str := ["game", "player", "one", "other", "left", "leads", "lead"]
def t_is_no_better_by : Sx := (sSeq (sSet 5 (cCallP m_leads_by 5 (aCons (cVar 0) (aCons (cVar 1) (aCons (cVar 3) (aCons (cVar 2) (aCons (cVar 4) aNil)))))))
  (sRet (cAnd (cBin gNeA (cVar 2) (cVar 3)) (cAnd (cCall gAll (aCons (cLc (iSeqS (cVar 5)) (.nm 6) uYes (cBin gGeA (cVar 6) (cDat (.int 0))) [6]) aNil)) (cCall gAny (aCons (cLc (iSeqS (cVar 5)) (.nm 6) uYes (cBin gGtA (cVar 6) (cDat (.int 0))) [6]) aNil))))))
def m0_is_no_better_by : Fm := mFn false 2 t_is_no_better_by
def tb_is_no_better_by : List (List PD × PD) := []
def m_is_no_better_by : Fm := mHid m0_is_no_better_by tb_is_no_better_by
/-! is_weak -/
abbrev S_is_weak : Stmt := top 40
def N_is_weak : List Str := ["game", "player", "choice", "left", "other"]
def t_is_weak : Sx := (sRet (cCall gAny (aCons (cLc (iSeqS (cBin gIxB (cVar 3) (cVar 1))) (.nm 4) uYes (cCallP m_is_no_better_by 5 (aCons (cVar 0) (aCons (cVar 1) (aCons (cVar 2) (aCons (cVar 4) (aCons (cVar 3) aNil)))))) [4]) aNil)))
def m0_is_weak : Fm := mFn false 1 t_is_weak
def tb_is_weak : List (List PD × PD) := []
def m_is_weak : Fm := mHid m0_is_weak tb_is_weak
/-! weak_by -/
abbrev S_weak_by : Stmt := top 41
def N_weak_by : List Str := ["game", "left", "whole", "pairs", "player", "choices", "choice", "pair"]
def t_weak_by : Sx := (sSeq (sSet 2 (cCallP m_left_or_all 2 (aCons (cVar 0) (aCons (cVar 1) aNil))))
  (sSeq (sSet 3 (cLc2 (iEnumr (aCons (cVar 2) aNil)) (.tup [(.nm 4), (.nm 5)]) uYes (iSeqS (cVar 5)) (.nm 6) uYes (cTup (aCons (cVar 4) (aCons (cVar 6) aNil))) [4, 5, 6] [6]))
  (sRet (cLc (iSeqS (cVar 3)) (.nm 7) (uVal (cCallP m_is_weak 4 (aCons (cVar 0) (aCons (cBin gIxB (cVar 7) (cDat (.int 0))) (aCons (cBin gIxB (cVar 7) (cDat (.int 1))) (aCons (cVar 2) aNil)))))) (cVar 7) [7]))))
def m0_weak_by : Fm := mFn false 6 t_weak_by
def tb_weak_by : List (List PD × PD) := []
def m_weak_by : Fm := mHid m0_weak_by tb_weak_by
/-! weak_strikes -/
abbrev S_weak_strikes : Stmt := top 45
def N_weak_strikes : List Str := ["game", "left"]
def t_weak_strikes : Sx := (sSeq (sExpr (cCallF m_want_game 1 0 [.a 0, .d 0] [.str ("game" : Str)] [] (aCons (cVar 0) aNil) aNil))
  (sSeq (sExpr (cCallP m_want_left 2 (aCons (cVar 0) (aCons (cVar 1) aNil))))
  (sRet (cCall gTuple (aCons (cCallP m_weak_by 2 (aCons (cVar 0) (aCons (cVar 1) aNil))) aNil)))))
def m0_weak_strikes : Fm := mFn false 0 t_weak_strikes
def tb_weak_strikes : List (List PD × PD) := []
def m_weak_strikes : Fm := mHid m0_weak_strikes tb_weak_strikes
/-! struck_by -/
abbrev S_struck_by : Stmt := top 42
def N_struck_by : List Str := ["left", "pair", "player", "gone", "choice"]
def t_struck_by : Sx := (sSeq (sAsg (.tup [(.nm 2), (.nm 3)]) (cVar 1))
  (sRet (cTup (aStar (cSlA false (cVar 0) pNone (pSome (cVar 2))) (aCons (cCall gTuple (aCons (cLc (iSeqS (cBin gIxB (cVar 0) (cVar 2))) (.nm 4) (uVal (cBin gNeA (cVar 4) (cVar 3))) (cVar 4) [4]) aNil)) (aStar (cSlA false (cVar 0) (pSome (cBin (gAdd false) (cVar 2) (cDat (.int 1)))) pNone) aNil))))))
def m0_struck_by : Fm := mFn false 3 t_struck_by
def tb_struck_by : List (List PD × PD) := []
def m_struck_by : Fm := mHid m0_struck_by tb_struck_by
/-! ends_of_weak -/
abbrev S_ends_of_weak : Stmt := top 43
def N_ends_of_weak : List Str := ["game", "known", "found", "spot", "left", "pairs", "late", "pair"]
def t_ends_of_weak : Sx := (sSeq (sPar 1 2 (aCons (cLst true (aCons (cCallP m_all_by 1 (aCons (cBin gIxB (cVar 0) (cDat (.int 0))) aNil)) aNil)) (aCons (cLst true aNil) aNil)))
  (sSeq (sSet 3 (cDat (.int 0)))
  (sSeq (sWhile 100000 (uVal (cBin gLtA (cVar 3) (cCall gLen (aCons (cVar 1) aNil)))) (sSeq (sSet 4 (cBin gIxB (cVar 1) (cVar 3)))
  (sSeq (sAug 3 (fun i j => i + j) (cDat (.int 1)))
  (sSeq (sSet 5 (cCallP m_weak_by 2 (aCons (cVar 0) (aCons (cVar 4) aNil))))
  (sSeq (sIf (uVal (cBin gEqA (cCall gLen (aCons (cVar 5) aNil)) (cDat (.int 0)))) (sExpr (cApp (cVar 2) (aCons (cVar 4) aNil))) sPass)
  (sFor (iSeqS (cLc (iSeqS (cVar 5)) (.nm 7) uYes (cCallP m_struck_by 2 (aCons (cVar 4) (aCons (cVar 7) aNil))) [7])) (.nm 6) (sIf (uVal (cBin (gInB true) (cVar 6) (cVar 1))) (sExpr (cApp (cVar 1) (aCons (cVar 6) aNil))) sPass)))))))
  (sRet (cD (cVar 2))))))
def m0_ends_of_weak : Fm := mFn true 7 t_ends_of_weak
def tb_ends_of_weak : List (List PD × PD) := []
def m_ends_of_weak : Fm := mHid m0_ends_of_weak tb_ends_of_weak
/-! weak_ends -/
abbrev S_weak_ends : Stmt := top 46
def N_weak_ends : List Str := ["game"]
def t_weak_ends : Sx := (sSeq (sExpr (cCallF m_want_game 1 0 [.a 0, .d 0] [.str ("game" : Str)] [] (aCons (cVar 0) aNil) aNil))
  (sRet (cCall gTuple (aCons (cSM false (aCons (cCallP m_ends_of_weak 1 (aCons (cVar 0) aNil)) aNil)) aNil))))
def m0_weak_ends : Fm := mFn false 0 t_weak_ends
def tb_weak_ends : List (List PD × PD) := []
def m_weak_ends : Fm := mHid m0_weak_ends tb_weak_ends
/-! _law_is_right -/
abbrev S__law_is_right : Stmt := top 55
def N__law_is_right : List Str := ["_law_tab", "_law_rows", "_law_ends", "_law_rest", "_law_due"]
def t__law_is_right : Sx := (sSeq (sFor (iSeqS (cVar 1)) (.tup [(.nm 3), (.nm 4)]) (sIf (uNot (uVal (cCallP m__law_same 2 (aCons (cLst false (aCons (cCallP m_weak_strikes 2 (aCons (cVar 0) (aCons (cVar 3) aNil))) (aCons (cCallF m_weak_strikes 0 2 [.k 1, .k 0] [] [] aNil (aCons (cVar 3) (aCons (cVar 0) aNil))) aNil))) (aCons (cLst false (aCons (cVar 4) (aCons (cVar 4) aNil))) aNil))))) (sRet (cDat (.bool false))) sPass))
  (sRet (cCallP m__law_same 2 (aCons (cLst false (aCons (cCallP m_weak_ends 1 (aCons (cVar 0) aNil)) (aCons (cCallF m_weak_ends 0 1 [.k 0] [] [] aNil (aCons (cVar 0) aNil)) aNil))) (aCons (cLst false (aCons (cVar 2) (aCons (cVar 2) aNil))) aNil)))))
def m0__law_is_right : Fm := mFn false 2 t__law_is_right
def tb__law_is_right : List (List PD × PD) := []
def m__law_is_right : Fm := mHid m0__law_is_right tb__law_is_right
/-! law -/
abbrev S_law : Stmt := top 56
def N_law : List Str := ["_law_script", "_law_feed_here", "_law_move", "_law_tab", "_law_rows", "_law_ends"]
def t_law (mf : Fm) : Sx := (sSeq (sSet 1 (cCallF mf 1 0 [.a 0] [] [] (aCons (cVar 0) aNil) aNil))
  (sSeq (sSet 2 (cCallP m__law_pick 2 (aCons (cVar 1) (aCons (cLst false (aCons (cDat (.int 0)) (aCons (cDat (.int 1)) (aCons (cDat (.int 3)) (aCons (cDat (.int 8)) (aCons (cDat (.int 40)) aNil)))))) aNil))))
  (sSeq (sFor (iSeqS (cCallP m__law_games 1 (aCons (cVar 2) aNil))) (.tup [(.nm 3), (.nm 4), (.nm 5)]) (sIf (uNot (uVal (cCallP m__law_is_right 3 (aCons (cVar 3) (aCons (cVar 4) (aCons (cVar 5) aNil)))))) (sRet (cDat (.bool false))) sPass))
  (sRet (cDat (.bool true))))))
def m_law (mf : Fm) : Fm := mFn true 5 (t_law mf)
def XN : List Str := ["BestError", "GameError", "NotUsable"]
def XF : List (List Str) := [[], [], ["at", "word"]]
def tf : List He.Defn := []
def qn (x : Str) : Str := x ++ ".<locals>." ++ "<lambda>"
def KN : List Str := []
def FA : List Str := []
instance : Fed := { P := GD m__law_draw, xc := fun K i => He.ga K (XN.getD i ""), xf := fun i => XF.getD i [], tb := fun K => tf.map fun p => ((He.cT K p).2, qn p.1), fa := fun K i => He.ga K (FA.getD i ""), kc := fun K i => He.ga K (KN.getD i "") }
theorem hxc {K : PySem.W.Frag} : ∀ c x, XN[c]? = some x → Fed.xc K c = He.ga K x := fun c x h => by
  show He.ga K (XN.getD c "") = He.ga K x
  rw [List.getD_eq_getElem?_getD, h]
  rfl
theorem hxf : ∀ c x, XF[c]? = some x → Fed.xf c = x := fun c x h => by
  show XF.getD c [] = x
  rw [List.getD_eq_getElem?_getD, h]
  rfl
theorem tbok__law_pick : TbOk m0__law_pick tb__law_pick := tb_nil
theorem tbok__law_ranks : TbOk m0__law_ranks tb__law_ranks := tb_nil
theorem tbok__law_pairs : TbOk m0__law_pairs tb__law_pairs := tb_nil
theorem tbok__law_games : TbOk m0__law_games tb__law_games := tb_nil
theorem tbok__law_same : TbOk m0__law_same tb__law_same := tb_nil
theorem tbok_want : TbOk m0_want tb_want := tb_nil
theorem tbok_is_tuple_of : TbOk m0_is_tuple_of tb_is_tuple_of := tb_nil
theorem tbok_is_integer : TbOk m0_is_integer tb_is_integer := tb_nil
theorem tbok_is_above_nought : TbOk m0_is_above_nought tb_is_above_nought := tb_nil
theorem tbok_is_counts : TbOk m0_is_counts tb_is_counts := tb_nil
theorem tbok_size_of : TbOk m0_size_of tb_size_of := tb_nil
theorem tbok_is_telling_shape : TbOk m0_is_telling_shape tb_is_telling_shape := tb_nil
theorem tbok_is_number : TbOk m0_is_number tb_is_number := tb_nil
theorem tbok_is_pair_of_bounds : TbOk m0_is_pair_of_bounds tb_is_pair_of_bounds := tb_nil
theorem tbok_is_element : TbOk m0_is_element tb_is_element := tb_nil
theorem tbok_element_fault : TbOk m0_element_fault tb_element_fault := tb_nil
theorem tbok_tellings_fault : TbOk m0_tellings_fault tb_tellings_fault := tb_nil
theorem tbok_game_fault : TbOk m0_game_fault tb_game_fault := tb_nil
theorem tbok_want_game : TbOk m0_want_game tb_want_game := tb_nil
theorem tbok_is_index : TbOk m0_is_index tb_is_index := tb_nil
theorem tbok_are_ascending : TbOk m0_are_ascending tb_are_ascending := tb_nil
theorem tbok_is_set_below : TbOk m0_is_set_below tb_is_set_below := tb_nil
theorem tbok_is_left_by : TbOk m0_is_left_by tb_is_left_by := tb_nil
theorem tbok_want_left : TbOk m0_want_left tb_want_left := tb_nil
theorem tbok_all_by : TbOk m0_all_by tb_all_by := tb_nil
theorem tbok_left_or_all : TbOk m0_left_or_all tb_left_or_all := tb_nil
theorem tbok_others_by : TbOk m0_others_by tb_others_by := tb_nil
theorem tbok_left_cases_by : TbOk m0_left_cases_by tb_left_cases_by := tb_nil
theorem tbok_spot_by : TbOk m0_spot_by tb_spot_by := tb_nil
theorem tbok_told_by : TbOk m0_told_by tb_told_by := tb_nil
theorem tbok_cell_by : TbOk m0_cell_by tb_cell_by := tb_nil
theorem tbok_told_twice : TbOk m0_told_twice tb_told_twice := tb_nil
theorem tbok_leads_by : TbOk m0_leads_by tb_leads_by := tb_nil
theorem tbok_is_no_better_by : TbOk m0_is_no_better_by tb_is_no_better_by := tb_nil
theorem tbok_is_weak : TbOk m0_is_weak tb_is_weak := tb_nil
theorem tbok_weak_by : TbOk m0_weak_by tb_weak_by := tb_nil
theorem tbok_weak_strikes : TbOk m0_weak_strikes tb_weak_strikes := tb_nil
theorem tbok_struck_by : TbOk m0_struck_by tb_struck_by := tb_nil
theorem tbok_ends_of_weak : TbOk m0_ends_of_weak tb_ends_of_weak := tb_nil
theorem tbok_weak_ends : TbOk m0_weak_ends tb_weak_ends := tb_nil
theorem tbok__law_is_right : TbOk m0__law_is_right tb__law_is_right := tb_nil
def ks (c n r t : PD) : List (PD × PD) := [(.str (⟨#[99, 101, 108, 108, 115]⟩ : Str), c), (.str (⟨#[110, 101, 120, 116]⟩ : Str), n), (.str (⟨#[114, 101, 115, 116]⟩ : Str), r), (.str (⟨#[116, 117, 114, 110]⟩ : Str), t)]
theorem lk_cells (c n r t : PD) : lookP (ks c n r t) (.str (⟨#[99, 101, 108, 108, 115]⟩ : Str)) = some c := by kernel_rfl
theorem lk_next (c n r t : PD) : lookP (ks c n r t) (.str (⟨#[110, 101, 120, 116]⟩ : Str)) = some n := by kernel_rfl
theorem lk_rest (c n r t : PD) : lookP (ks c n r t) (.str (⟨#[114, 101, 115, 116]⟩ : Str)) = some r := by kernel_rfl
theorem lk_turn (c n r t : PD) : lookP (ks c n r t) (.str (⟨#[116, 117, 114, 110]⟩ : Str)) = some t := by kernel_rfl
theorem pt_next (c n r t v : PD) : putP (ks c n r t) (.str (⟨#[110, 101, 120, 116]⟩ : Str)) v = ks c v r t := by kernel_rfl
theorem pt_rest (c n r t v : PD) : putP (ks c n r t) (.str (⟨#[114, 101, 115, 116]⟩ : Str)) v = ks c n v t := by kernel_rfl
theorem pt_turn (c n r t v : PD) : putP (ks c n r t) (.str (⟨#[116, 117, 114, 110]⟩ : Str)) v = ks c n r v := by kernel_rfl
theorem ksl (c n r t : PD) : (ks c n r t).length < sizeLine := by rw [sizeLine_eq]; show 4 < _; decide
def Good (kvs : List (PD × PD)) (b : Nat) : Prop := ∃ (cs : List Int) (n r t : Int), kvs = ks (.list (cs.map PyData.int)) (.int n) (.int r) (.int t) ∧ cs.length ≤ 63 ∧ 0 ≤ n ∧ 0 ≤ r ∧ 0 ≤ t ∧ t + b ≤ 1000000
theorem draw_ok (kvs : List (PD × PD)) (b : Nat) (q : Int) (g : Good kvs (b + 1)) (hq : 1 ≤ q) (hq2 : q ≤ 1000000) : ∃ n kvs', Step m__law_draw kvs q n kvs' ∧ 0 ≤ n ∧ n < q ∧ Good kvs' b := by
  obtain ⟨cs, n, r, t, rfl, h1, h2, h3, h4, h5⟩ := g
  by_cases c1 : 0 < r
  · apply Exists.intro; apply Exists.intro; constructor
    · exact step_of (nN := 6) fun h k hl => (es_put hl (ei_add (ei_get hl (lk_turn _ _ _ _)) ei_dat) (pt_turn _ _ _ _ _) (ksl _ _ _ _)
      (es_ift ((et_val (eb_gt (ei_get hl (lk_rest _ _ _ _)) ei_dat)).to (decide_eq_true c1)) (es_set (ei_mod (ei_int (ei_get hl (lk_rest _ _ _ _))) (ei_var) (by first | decide | omega))
      (es_put hl (ei_div (ei_get hl (lk_rest _ _ _ _)) (ei_var) (by first | decide | omega) (by first | decide | omega)) (pt_rest _ _ _ _ _) (ksl _ _ _ _)
      (es_ret (ei_var))))))
    · refine ⟨(fmod_range (by omega)).1, (fmod_range (by omega)).2, cs, _, _, _, rfl, h1, ?_, ?_, ?_, ?_⟩ <;> first | omega | (apply Int.ediv_nonneg <;> omega)
  by_cases hc : cs = []
  · subst hc
    have c3 : ∀ g : Int, (decide ((10 : Int) ^ 18 ≤ g) && decide (n < (([] : List Int).length : Int))) = false := fun g => Bool.and_eq_false_iff.mpr (.inr (decide_eq_false (by show ¬ n < 0; omega)))
    · apply Exists.intro; apply Exists.intro; constructor
      · exact step_of (nN := 6) fun h k hl => (es_put hl (ei_add (ei_get hl (lk_turn _ _ _ _)) ei_dat) (pt_turn _ _ _ _ _) (ksl _ _ _ _)
        (es_iff ((et_val (eb_gt (ei_get hl (lk_rest _ _ _ _)) ei_dat)).to (decide_eq_false c1)) (es_set (ei_get hl (lk_next _ _ _ _))
        (es_put hl (ei_add (ei_var) ei_dat) (pt_next _ _ _ _ _) (ksl _ _ _ _)
        (es_set (ei_if_f ((et_val (eb_ne (el_get hl (lk_cells _ _ _ _)))).to rfl) ei_dat)
        (es_iff ((et_and (et_val (eb_ge (ei_var) ei_big)) (et_val (eb_lt (ei_var) (ei_len (el_get hl (lk_cells _ _ _ _)) h1)))).to (c3 _)) (es_set (ei_mod (ei_int (ei_add (ei_add (ei_mod (ei_int (ei_var)) ei_dat (by first | decide | omega)) (ei_mul ei_dat (ei_get hl (lk_turn _ _ _ _)) (mulOk (by first | decide | omega | exact small_fmod (by decide) (by decide)) (by first | decide | omega | exact small_fmod (by decide) (by decide))))) ei_dat)) ei_dat (by first | decide | omega))
        (es_set (ei_mod (ei_int (ei_add (ei_add (ei_mul (ei_var) (ei_var) (mulOk (by first | decide | omega | exact small_fmod (by decide) (by decide)) (by first | decide | omega | exact small_fmod (by decide) (by decide)))) (ei_mul ei_dat (ei_get hl (lk_turn _ _ _ _)) (mulOk (by first | decide | omega | exact small_fmod (by decide) (by decide)) (by first | decide | omega | exact small_fmod (by decide) (by decide))))) ei_dat)) ei_dat (by first | decide | omega))
        (es_ret (ei_mod (ei_int (ei_div (ei_mod (ei_int (ei_add (ei_mul (ei_var) (ei_var) (mulOk (by first | decide | omega | exact small_fmod (by decide) (by decide)) (by first | decide | omega | exact small_fmod (by decide) (by decide)))) (ei_mul ei_dat (ei_var) (mulOk (by first | decide | omega | exact small_fmod (by decide) (by decide)) (by first | decide | omega | exact small_fmod (by decide) (by decide)))))) ei_dat (by first | decide | omega)) ei_dat (by first | decide | omega) (by first | decide | omega))) (ei_var) (by first | decide | omega)))))))))))
      · refine ⟨(fmod_range (by omega)).1, (fmod_range (by omega)).2, [], _, _, _, rfl, h1, ?_, ?_, ?_, ?_⟩ <;> first | omega | (apply Int.ediv_nonneg <;> omega)
  obtain ⟨c, hix⟩ := fmod_at h2 hc
  have hne : (!cs.isEmpty) = true := by cases cs <;> simp_all
  have hlen : ((cs.length : Nat) : Int) ≠ 0 := by have := List.length_pos_iff.mpr hc; omega
  cases c3 : (decide ((10 : Int) ^ 18 ≤ c) && decide (n < (cs.length : Int)))
  · apply Exists.intro; apply Exists.intro; constructor
    · exact step_of (nN := 6) fun h k hl => (es_put hl (ei_add (ei_get hl (lk_turn _ _ _ _)) ei_dat) (pt_turn _ _ _ _ _) (ksl _ _ _ _)
      (es_iff ((et_val (eb_gt (ei_get hl (lk_rest _ _ _ _)) ei_dat)).to (decide_eq_false c1)) (es_set (ei_get hl (lk_next _ _ _ _))
      (es_put hl (ei_add (ei_var) ei_dat) (pt_next _ _ _ _ _) (ksl _ _ _ _)
      (es_set (ei_if_t ((et_val (eb_ne (el_get hl (lk_cells _ _ _ _)))).to hne) (ei_ix (el_get hl (lk_cells _ _ _ _)) (ei_mod (ei_int (ei_var)) (ei_len (el_get hl (lk_cells _ _ _ _)) h1) (by first | decide | omega)) hix))
      (es_iff ((et_and (et_val (eb_ge (ei_var) ei_big)) (et_val (eb_lt (ei_var) (ei_len (el_get hl (lk_cells _ _ _ _)) h1)))).to c3) (es_set (ei_mod (ei_int (ei_add (ei_add (ei_mod (ei_int (ei_var)) ei_dat (by first | decide | omega)) (ei_mul ei_dat (ei_get hl (lk_turn _ _ _ _)) (mulOk (by first | decide | omega | exact small_fmod (by decide) (by decide)) (by first | decide | omega | exact small_fmod (by decide) (by decide))))) ei_dat)) ei_dat (by first | decide | omega))
      (es_set (ei_mod (ei_int (ei_add (ei_add (ei_mul (ei_var) (ei_var) (mulOk (by first | decide | omega | exact small_fmod (by decide) (by decide)) (by first | decide | omega | exact small_fmod (by decide) (by decide)))) (ei_mul ei_dat (ei_get hl (lk_turn _ _ _ _)) (mulOk (by first | decide | omega | exact small_fmod (by decide) (by decide)) (by first | decide | omega | exact small_fmod (by decide) (by decide))))) ei_dat)) ei_dat (by first | decide | omega))
      (es_ret (ei_mod (ei_int (ei_div (ei_mod (ei_int (ei_add (ei_mul (ei_var) (ei_var) (mulOk (by first | decide | omega | exact small_fmod (by decide) (by decide)) (by first | decide | omega | exact small_fmod (by decide) (by decide)))) (ei_mul ei_dat (ei_var) (mulOk (by first | decide | omega | exact small_fmod (by decide) (by decide)) (by first | decide | omega | exact small_fmod (by decide) (by decide)))))) ei_dat (by first | decide | omega)) ei_dat (by first | decide | omega) (by first | decide | omega))) (ei_var) (by first | decide | omega)))))))))))
    · refine ⟨(fmod_range (by omega)).1, (fmod_range (by omega)).2, cs, _, _, _, rfl, h1, ?_, ?_, ?_, ?_⟩ <;> first | omega | (apply Int.ediv_nonneg <;> omega)
  · have h18 : (10 : Int) ^ 18 ≤ c := by rw [Bool.and_eq_true] at c3; exact of_decide_eq_true c3.1
    have h18b : (0 : Int) ≤ c := Int.le_trans (by decide) h18
    · apply Exists.intro; apply Exists.intro; constructor
      · exact step_of (nN := 6) fun h k hl => (es_put hl (ei_add (ei_get hl (lk_turn _ _ _ _)) ei_dat) (pt_turn _ _ _ _ _) (ksl _ _ _ _)
        (es_iff ((et_val (eb_gt (ei_get hl (lk_rest _ _ _ _)) ei_dat)).to (decide_eq_false c1)) (es_set (ei_get hl (lk_next _ _ _ _))
        (es_put hl (ei_add (ei_var) ei_dat) (pt_next _ _ _ _ _) (ksl _ _ _ _)
        (es_set (ei_if_t ((et_val (eb_ne (el_get hl (lk_cells _ _ _ _)))).to hne) (ei_ix (el_get hl (lk_cells _ _ _ _)) (ei_mod (ei_int (ei_var)) (ei_len (el_get hl (lk_cells _ _ _ _)) h1) (by first | decide | omega)) hix))
        (es_ift ((et_and (et_val (eb_ge (ei_var) ei_big)) (et_val (eb_lt (ei_var) (ei_len (el_get hl (lk_cells _ _ _ _)) h1)))).to c3) (es_put hl (ei_div (ei_var) (ei_var) (by first | decide | omega) (by first | decide | omega)) (pt_rest _ _ _ _ _) (ksl _ _ _ _)
        (es_ret (ei_mod (ei_int (ei_var)) (ei_var) (by first | decide | omega))))))))))
      · refine ⟨(fmod_range (by omega)).1, (fmod_range (by omega)).2, cs, _, _, _, rfl, h1, ?_, ?_, ?_, ?_⟩ <;> first | omega | (apply Int.ediv_nonneg <;> omega)
theorem feed_ok (ns : List Int) : ∃ kvs, Good kvs 1000000 ∧ ∀ h, m__law_feed [.scr ns] h = .ok (.obj h.length) (h ++ [.dct kvs]) := by
  have hz2 : (ns.take 63).length ≤ 63 := by rw [List.length_take]; omega
  refine ⟨ks (.list ((ns.take 63).map PyData.int)) (.int 0) (.int 0) (.int 0), ⟨ns.take 63, 0, 0, 0, rfl, hz2, by decide, by decide, by decide, by decide⟩, fun h => ?_⟩
  refine (feed_disp (nN := 1) (ns := ns) (cs := (ns.take 63).map PyData.int) fun h => ?_).trans (by kernel_rfl)
  exact list_scr
def fa : List He.Fa := [.glo "_law_feed", .glo "_law_draw", .glo "_law_pick", .glo "_law_ranks", .glo "_law_pairs", .glo "_law_games", .glo "_law_same", .glo "want", .glo "is_tuple_of", .glo "is_integer", .glo "is_above_nought", .glo "is_counts", .glo "size_of", .glo "is_telling_shape", .glo "is_number", .glo "is_pair_of_bounds", .glo "is_element", .glo "element_fault", .glo "tellings_fault", .glo "game_fault", .glo "want_game", .glo "is_index", .glo "are_ascending", .glo "is_set_below", .glo "is_left_by", .glo "want_left", .glo "all_by", .glo "left_or_all", .glo "others_by", .glo "left_cases_by", .glo "spot_by", .glo "told_by", .glo "cell_by", .glo "told_twice", .glo "leads_by", .glo "is_no_better_by", .glo "is_weak", .glo "weak_by", .glo "weak_strikes", .glo "struck_by", .glo "ends_of_weak", .glo "weak_ends", .glo "_law_is_right", .glo "law", .glo "NotUsable", .free "list", .free "int", .free "len", .free "tuple", .free "repr", .free "isinstance", .free "all", .free "bool", .free "enumerate", .free "str", .free "zip", .free "range", .free "any", .free "sorted", .free "set", .free "super", .str "BOUNDS" ("bounds" : Str), .str "ORDER" ("order" : Str)]
def d__law_feed : He.DefD := ⟨("_law_feed", none), "_law_feed", "_law_feed", defArgs S__law_feed, defBody S__law_feed, defScope S__law_feed, [], []⟩
def d__law_draw : He.DefD := ⟨("_law_draw", none), "_law_draw", "_law_draw", defArgs S__law_draw, defBody S__law_draw, defScope S__law_draw, [], []⟩
def d__law_pick : He.DefD := ⟨("_law_pick", none), "_law_pick", "_law_pick", defArgs S__law_pick, defBody S__law_pick, defScope S__law_pick, [], []⟩
def d__law_ranks : He.DefD := ⟨("_law_ranks", none), "_law_ranks", "_law_ranks", defArgs S__law_ranks, defBody S__law_ranks, defScope S__law_ranks, [], []⟩
def d__law_pairs : He.DefD := ⟨("_law_pairs", none), "_law_pairs", "_law_pairs", defArgs S__law_pairs, defBody S__law_pairs, defScope S__law_pairs, [], []⟩
def d__law_games : He.DefD := ⟨("_law_games", none), "_law_games", "_law_games", defArgs S__law_games, defBody S__law_games, defScope S__law_games, [], []⟩
def d__law_same : He.DefD := ⟨("_law_same", none), "_law_same", "_law_same", defArgs S__law_same, defBody S__law_same, defScope S__law_same, [], []⟩
def d_want : He.DefD := ⟨("want", none), "want", "want", defArgs S_want, defBody S_want, defScope S_want, [.int (-1)], []⟩
def d_is_tuple_of : He.DefD := ⟨("is_tuple_of", none), "is_tuple_of", "is_tuple_of", defArgs S_is_tuple_of, defBody S_is_tuple_of, defScope S_is_tuple_of, [], []⟩
def d_is_integer : He.DefD := ⟨("is_integer", none), "is_integer", "is_integer", defArgs S_is_integer, defBody S_is_integer, defScope S_is_integer, [], []⟩
def d_is_above_nought : He.DefD := ⟨("is_above_nought", none), "is_above_nought", "is_above_nought", defArgs S_is_above_nought, defBody S_is_above_nought, defScope S_is_above_nought, [], []⟩
def d_is_counts : He.DefD := ⟨("is_counts", none), "is_counts", "is_counts", defArgs S_is_counts, defBody S_is_counts, defScope S_is_counts, [], []⟩
def d_size_of : He.DefD := ⟨("size_of", none), "size_of", "size_of", defArgs S_size_of, defBody S_size_of, defScope S_size_of, [], []⟩
def d_is_telling_shape : He.DefD := ⟨("is_telling_shape", none), "is_telling_shape", "is_telling_shape", defArgs S_is_telling_shape, defBody S_is_telling_shape, defScope S_is_telling_shape, [], []⟩
def d_is_number : He.DefD := ⟨("is_number", none), "is_number", "is_number", defArgs S_is_number, defBody S_is_number, defScope S_is_number, [], []⟩
def d_is_pair_of_bounds : He.DefD := ⟨("is_pair_of_bounds", none), "is_pair_of_bounds", "is_pair_of_bounds", defArgs S_is_pair_of_bounds, defBody S_is_pair_of_bounds, defScope S_is_pair_of_bounds, [], []⟩
def d_is_element : He.DefD := ⟨("is_element", none), "is_element", "is_element", defArgs S_is_element, defBody S_is_element, defScope S_is_element, [], []⟩
def d_element_fault : He.DefD := ⟨("element_fault", none), "element_fault", "element_fault", defArgs S_element_fault, defBody S_element_fault, defScope S_element_fault, [], []⟩
def d_tellings_fault : He.DefD := ⟨("tellings_fault", none), "tellings_fault", "tellings_fault", defArgs S_tellings_fault, defBody S_tellings_fault, defScope S_tellings_fault, [], []⟩
def d_game_fault : He.DefD := ⟨("game_fault", none), "game_fault", "game_fault", defArgs S_game_fault, defBody S_game_fault, defScope S_game_fault, [], []⟩
def d_want_game : He.DefD := ⟨("want_game", none), "want_game", "want_game", defArgs S_want_game, defBody S_want_game, defScope S_want_game, [.str ("game" : Str)], []⟩
def d_is_index : He.DefD := ⟨("is_index", none), "is_index", "is_index", defArgs S_is_index, defBody S_is_index, defScope S_is_index, [], []⟩
def d_are_ascending : He.DefD := ⟨("are_ascending", none), "are_ascending", "are_ascending", defArgs S_are_ascending, defBody S_are_ascending, defScope S_are_ascending, [], []⟩
def d_is_set_below : He.DefD := ⟨("is_set_below", none), "is_set_below", "is_set_below", defArgs S_is_set_below, defBody S_is_set_below, defScope S_is_set_below, [], []⟩
def d_is_left_by : He.DefD := ⟨("is_left_by", none), "is_left_by", "is_left_by", defArgs S_is_left_by, defBody S_is_left_by, defScope S_is_left_by, [], []⟩
def d_want_left : He.DefD := ⟨("want_left", none), "want_left", "want_left", defArgs S_want_left, defBody S_want_left, defScope S_want_left, [], []⟩
def d_all_by : He.DefD := ⟨("all_by", none), "all_by", "all_by", defArgs S_all_by, defBody S_all_by, defScope S_all_by, [], []⟩
def d_left_or_all : He.DefD := ⟨("left_or_all", none), "left_or_all", "left_or_all", defArgs S_left_or_all, defBody S_left_or_all, defScope S_left_or_all, [], []⟩
def d_others_by : He.DefD := ⟨("others_by", none), "others_by", "others_by", defArgs S_others_by, defBody S_others_by, defScope S_others_by, [], []⟩
def d_left_cases_by : He.DefD := ⟨("left_cases_by", none), "left_cases_by", "left_cases_by", defArgs S_left_cases_by, defBody S_left_cases_by, defScope S_left_cases_by, [], []⟩
def d_spot_by : He.DefD := ⟨("spot_by", none), "spot_by", "spot_by", defArgs S_spot_by, defBody S_spot_by, defScope S_spot_by, [], []⟩
def d_told_by : He.DefD := ⟨("told_by", none), "told_by", "told_by", defArgs S_told_by, defBody S_told_by, defScope S_told_by, [], []⟩
def d_cell_by : He.DefD := ⟨("cell_by", none), "cell_by", "cell_by", defArgs S_cell_by, defBody S_cell_by, defScope S_cell_by, [], []⟩
def d_told_twice : He.DefD := ⟨("told_twice", none), "told_twice", "told_twice", defArgs S_told_twice, defBody S_told_twice, defScope S_told_twice, [], []⟩
def d_leads_by : He.DefD := ⟨("leads_by", none), "leads_by", "leads_by", defArgs S_leads_by, defBody S_leads_by, defScope S_leads_by, [], []⟩
def d_is_no_better_by : He.DefD := ⟨("is_no_better_by", none), "is_no_better_by", "is_no_better_by", defArgs S_is_no_better_by, defBody S_is_no_better_by, defScope S_is_no_better_by, [], []⟩
def d_is_weak : He.DefD := ⟨("is_weak", none), "is_weak", "is_weak", defArgs S_is_weak, defBody S_is_weak, defScope S_is_weak, [], []⟩
def d_weak_by : He.DefD := ⟨("weak_by", none), "weak_by", "weak_by", defArgs S_weak_by, defBody S_weak_by, defScope S_weak_by, [], []⟩
def d_weak_strikes : He.DefD := ⟨("weak_strikes", none), "weak_strikes", "weak_strikes", defArgs S_weak_strikes, defBody S_weak_strikes, defScope S_weak_strikes, [], []⟩
def d_struck_by : He.DefD := ⟨("struck_by", none), "struck_by", "struck_by", defArgs S_struck_by, defBody S_struck_by, defScope S_struck_by, [], []⟩
def d_ends_of_weak : He.DefD := ⟨("ends_of_weak", none), "ends_of_weak", "ends_of_weak", defArgs S_ends_of_weak, defBody S_ends_of_weak, defScope S_ends_of_weak, [], []⟩
def d_weak_ends : He.DefD := ⟨("weak_ends", none), "weak_ends", "weak_ends", defArgs S_weak_ends, defBody S_weak_ends, defScope S_weak_ends, [], []⟩
def d__law_is_right : He.DefD := ⟨("_law_is_right", none), "_law_is_right", "_law_is_right", defArgs S__law_is_right, defBody S__law_is_right, defScope S__law_is_right, [], []⟩
def d_law : He.DefD := ⟨("law", none), "law", "law", defArgs S_law, defBody S_law, defScope S_law, [], []⟩
def fn : List He.DefD := [d__law_feed, d__law_draw, d__law_pick, d__law_ranks, d__law_pairs, d__law_games, d__law_same, d_want, d_is_tuple_of, d_is_integer, d_is_above_nought, d_is_counts, d_size_of, d_is_telling_shape, d_is_number, d_is_pair_of_bounds, d_is_element, d_element_fault, d_tellings_fault, d_game_fault, d_want_game, d_is_index, d_are_ascending, d_is_set_below, d_is_left_by, d_want_left, d_all_by, d_left_or_all, d_others_by, d_left_cases_by, d_spot_by, d_told_by, d_cell_by, d_told_twice, d_leads_by, d_is_no_better_by, d_is_weak, d_weak_by, d_weak_strikes, d_struck_by, d_ends_of_weak, d_weak_ends, d__law_is_right, d_law]
abbrev Sc_NotUsable : Stmt := inClass (top 3) 0
def ic_NotUsable : IniD := ⟨"NotUsable", "NotUsable.__init__", defArgs Sc_NotUsable, defBody Sc_NotUsable, defScope Sc_NotUsable, ["word", "at"], none⟩
def ic : List IniD := [ic_NotUsable]
def fl : Str := (PySem.Challenge.pw_neverbest_k22_weak_strikes_told.main.file : Str)
def exl (K : PySem.W.Frag) : List Bool := [xcAll K XN, decide ((tf.map fun p => (He.cT K p).2).Nodup), iniB K fl ic_NotUsable]
def ex (K : PySem.W.Frag) : Bool := (exl K).all id
theorem ex_at {K : PySem.W.Frag} (h : ex K = true) (i : Nat) {b : Bool} (hi : (exl K)[i]? = some b := by rfl) : b = true := List.all_eq_true.mp h b (List.mem_of_getElem? hi)
structure EnvX (P : Program) (K : PySem.W.Frag) (mg : Str → Option Value) (base : Heap) : Prop where
  sp : SupP P mg fl
  tb : ∀ p ∈ tf, LamX.TabB base mg (He.cT K p).1 (He.cT K p).2
  nd : (tf.map fun p => (He.cT K p).2).Nodup
section
variable {P : Program} {w : World} {K : PySem.W.Frag} {h : Heap} {mg : Str → Option Value} {base : Heap}
abbrev C (K : PySem.W.Frag) : Cn := ⟨K⟩
theorem mkx_NotUsable (X : K.In h) (G : h.Ns mainGlobals mg) (c : SaysP fa fn ic tf ex h K) (E : EnvX P K mg base) : MkX P w K mg base "NotUsable" (He.ga K "NotUsable") ["word", "at"] := by
  obtain ⟨cc, cda, fd, T, iC, tI, hno⟩ := iniB_ok (c.ini_ 0 (d := ic_NotUsable) rfl) (ex_at c.more 2)
  have S : SupN (defScope Sc_NotUsable) (defArgs Sc_NotUsable) ["word", "at"] := ⟨NdefX.nscope_by (by decide +kernel), rfl, ⟨_, rfl, rfl⟩, by decide +kernel⟩
  have F := init2 (w := w) (base := base) T S E.sp rfl (hno _ (by decide)) (hno _ (by decide)) (fun _ => ⟨_, rfl⟩) (fun _ => rfl) (fun _ => rfl) (fun _ => rfl) (fun _ _ _ _ => rfl)
  refine ⟨T.ox, ⟨_, fd, iC, tI, F, ?_⟩, He.glo_ok X G (c.d.fact 44 (f := .glo "NotUsable") rfl)⟩
  obtain ⟨oc, od, osl, kV, doc, pm, an, ct, hlk, rfl⟩ := T.lk
  exact Binds.all fun us hl => match us, hl with | [_, _, _], _ => rfl
theorem sc__law_feed : FnScope N__law_feed ["_law_script"] (defScope S__law_feed) := ⟨rfl, rfl, rfl, by decide +kernel, rfl, by decide +kernel, by decide +kernel⟩
theorem ok__law_feed (X : K.In h) (G : h.Ns mainGlobals mg) (c : SaysP fa fn ic tf ex h K) (E : EnvX P K mg base) : ∃ fd, FunD K "_law_feed" "_law_feed" (defArgs S__law_feed) (defBody S__law_feed) (defScope S__law_feed) [] [] (He.ga K "_law_feed") fd ∧ FnV P w K mg base (C K) 1 (He.ga K "_law_feed") fd ["_law_script"] (m__law_feed) := by
  obtain ⟨fd, F⟩ := c.d.def_ 0 (d := d__law_feed) rfl
  have fr_list := He.free_ok X G (c.d.fact 45 (f := .free "list") rfl)
  have nd := sc__law_feed.nd
  refine ⟨fd, F, FnV.of F sc__law_feed fun cdv A outer s H E hr hg => ?_⟩
  exact (sb_one (ss_ret (se_disp (spp_cons se_str (se_callTy call_list_of (cd_list (ob := false)) rfl fr_list rfl (sa_cons (se_sl false (se_var 0) so_none (so_some se_int)) sa_nil)) (spp_cons se_str se_int (spp_cons se_str se_int (spp_cons se_str se_int spp_nil)))))))
theorem okV__law_feed {fd : FuncData} (F : FunD K "_law_feed" "_law_feed" (defArgs S__law_feed) (defBody S__law_feed) (defScope S__law_feed) [] [] (He.ga K "_law_feed") fd) (X : K.In h) (G : h.Ns mainGlobals mg) (c : SaysP fa fn ic tf ex h K) (E : EnvX P K mg base) : FnV P w K mg base (C K) 1 (He.ga K "_law_feed") fd ["_law_script"] m__law_feed := by
  have fr_list := He.free_ok X G (c.d.fact 45 (f := .free "list") rfl)
  have nd := sc__law_feed.nd
  refine FnV.of F sc__law_feed fun cdv A outer s H E hr hg => ?_
  exact (sb_one (ss_ret (se_disp (spp_cons se_str (se_callTy call_list_of (cd_list (ob := false)) rfl fr_list rfl (sa_cons (se_sl false (se_var 0) so_none (so_some se_int)) sa_nil)) (spp_cons se_str se_int (spp_cons se_str se_int (spp_cons se_str se_int spp_nil)))))))
theorem sc__law_draw : FnScope N__law_draw ["_law_feed_here", "_law_many"] (defScope S__law_draw) := ⟨rfl, rfl, rfl, by decide +kernel, rfl, by decide +kernel, by decide +kernel⟩
theorem okR__law_draw (X : K.In h) (G : h.Ns mainGlobals mg) (c : SaysP fa fn ic tf ex h K) (E : EnvX P K mg base) : ∃ fd, FunD K "_law_draw" "_law_draw" (defArgs S__law_draw) (defBody S__law_draw) (defScope S__law_draw) [] [] (He.ga K "_law_draw") fd ∧ FnV P w K mg base (C K) 1 (He.ga K "_law_draw") fd ["_law_feed_here", "_law_many"] (m__law_draw) := by
  obtain ⟨fd, F⟩ := c.d.def_ 1 (d := d__law_draw) rfl
  have fr_int := He.free_ok X G (c.d.fact 46 (f := .free "int") rfl)
  have fr_len := He.free_ok X G (c.d.fact 47 (f := .free "len") rfl)
  have nd := sc__law_draw.nd
  refine ⟨fd, F, FnV.of F sc__law_draw fun cdv A outer s H E hr hg => ?_⟩
  exact (sb_cons (ss_put (ru1 hr) (se_var 0) se_str (se_bin or_add (od_add (ob := false)) (se_get (ru1 hr) (se_var 0) se_str) se_int))
  (sb_cons (ss_if (st_cmp op_gt od_gt (se_get (ru1 hr) (se_var 0) se_str) se_int) (sb_cons (ss_set 2 nd (se_bin op_modN od_mod (se_callTy call_int1 cd_int rfl fr_int rfl (sa_cons (se_get (ru1 hr) (se_var 0) se_str) sa_nil)) (se_var 1)))
  (sb_cons (ss_put (ru1 hr) (se_var 0) se_str (se_bin op_fdivW od_div (se_get (ru1 hr) (se_var 0) se_str) (se_var 1)))
  (sb_one (ss_ret (se_var 2))))) sb_nil)
  (sb_cons (ss_set 3 nd (se_get (ru1 hr) (se_var 0) se_str))
  (sb_cons (ss_put (ru1 hr) (se_var 0) se_str (se_bin or_add (od_add (ob := false)) (se_var 3) se_int))
  (sb_cons (ss_set 4 nd (se_if (st_cmp (or_neA (ru64 hr)) od_neA (se_get (ru1 hr) (se_var 0) se_str) (se_lst false sa_nil)) (se_ix (se_get (ru1 hr) (se_var 0) se_str) (se_bin op_modN od_mod (se_callTy call_int1 cd_int rfl fr_int rfl (sa_cons (se_var 3) sa_nil)) (se_callB call_len cd_len rfl fr_len rfl (sa_cons (se_get (ru1 hr) (se_var 0) se_str) sa_nil)))) se_int))
  (sb_cons (ss_if (SW.pt (sw_and (st_cmp op_ge od_ge (se_var 4) (se_bin op_pow od_pow se_int se_int)) (sw_and1 (st_cmp op_lt od_lt (se_var 3) (se_callB call_len cd_len rfl fr_len rfl (sa_cons (se_get (ru1 hr) (se_var 0) se_str) sa_nil)))))) (sb_cons (ss_put (ru1 hr) (se_var 0) se_str (se_bin op_fdivW od_div (se_var 4) (se_var 1)))
  (sb_one (ss_ret (se_bin op_modN od_mod (se_callTy call_int1 cd_int rfl fr_int rfl (sa_cons (se_var 4) sa_nil)) (se_var 1))))) sb_nil)
  (sb_cons (ss_set 5 nd (se_bin op_modN od_mod (se_callTy call_int1 cd_int rfl fr_int rfl (sa_cons (se_bin or_add (od_add (ob := false)) (se_bin or_add (od_add (ob := false)) (se_bin op_modN od_mod (se_callTy call_int1 cd_int rfl fr_int rfl (sa_cons (se_var 4) sa_nil)) se_int) (se_bin or_mul (od_mul (ob := false)) se_int (se_get (ru1 hr) (se_var 0) se_str))) se_int) sa_nil)) se_int))
  (sb_cons (ss_set 5 nd (se_bin op_modN od_mod (se_callTy call_int1 cd_int rfl fr_int rfl (sa_cons (se_bin or_add (od_add (ob := false)) (se_bin or_add (od_add (ob := false)) (se_bin or_mul (od_mul (ob := false)) (se_var 5) (se_var 5)) (se_bin or_mul (od_mul (ob := false)) se_int (se_get (ru1 hr) (se_var 0) se_str))) se_int) sa_nil)) se_int))
  (sb_one (ss_ret (se_bin op_modN od_mod (se_callTy call_int1 cd_int rfl fr_int rfl (sa_cons (se_bin op_fdivW od_div (se_bin op_modN od_mod (se_callTy call_int1 cd_int rfl fr_int rfl (sa_cons (se_bin or_add (od_add (ob := false)) (se_bin or_mul (od_mul (ob := false)) (se_var 5) (se_var 5)) (se_bin or_mul (od_mul (ob := false)) se_int (se_var 5))) sa_nil)) se_int) se_int) sa_nil)) (se_var 1))))))))))))
theorem ok__law_draw (X : K.In h) (G : h.Ns mainGlobals mg) (c : SaysP fa fn ic tf ex h K) (E : EnvX P K mg base) : ∃ fd, FunD K "_law_draw" "_law_draw" (defArgs S__law_draw) (defBody S__law_draw) (defScope S__law_draw) [] [] (He.ga K "_law_draw") fd ∧ FnV P w K mg base (C K) 1 (He.ga K "_law_draw") fd ["_law_feed_here", "_law_many"] mDraw := by
  obtain ⟨fd, F, V⟩ := okR__law_draw (P := P) (w := w) (base := base) X G c E
  exact ⟨fd, F, V.draw (fun _ _ h => h) (fun _ _ h => h)⟩
theorem sc__law_pick : FnScope N__law_pick ["_law_feed_here", "_law_some"] (defScope S__law_pick) := ⟨rfl, rfl, rfl, by decide +kernel, rfl, by decide +kernel, by decide +kernel⟩
theorem ok__law_pick (X : K.In h) (G : h.Ns mainGlobals mg) (c : SaysP fa fn ic tf ex h K) (E : EnvX P K mg base) : ∃ fd, FunD K "_law_pick" "_law_pick" (defArgs S__law_pick) (defBody S__law_pick) (defScope S__law_pick) [] [] (He.ga K "_law_pick") fd ∧ FnV P w K mg base (C K) 2 (He.ga K "_law_pick") fd ["_law_feed_here", "_law_some"] (m__law_pick) := by
  obtain ⟨fd, F⟩ := c.d.def_ 2 (d := d__law_pick) rfl
  obtain ⟨fd__law_draw, F__law_draw, V__law_draw⟩ := ok__law_draw (P := P) (w := w) (base := base) X G c E
  have hm__law_draw := He.glo_ok X G (c.d.fact 1 (f := .glo "_law_draw") rfl)
  have fr_len := He.free_ok X G (c.d.fact 47 (f := .free "len") rfl)
  have b__law_draw_2 : Bnd K fd__law_draw ["_law_feed_here", "_law_many"] 2 [] [.a 0, .a 1] [] [] := FunD.bndN F__law_draw fun kV doc pm an cdv ct us ws h1 h3 => match us, ws, h1, h3 with | [u0, u1], [], _, _ => ⟨rfl, rfl⟩
  have nd := sc__law_pick.nd
  refine ⟨fd, F, (FnV.of F sc__law_pick fun cdv A outer s H E hr hg => ?_).hid tbok__law_pick⟩
  exact (sb_one (ss_ret (se_ixB (se_var 1) (se_callP V__law_draw (hr.mono (by decide)) hg passes_fn rfl hm__law_draw F__law_draw.kp b__law_draw_2 rfl (fun _ => .nil) (fun _ => .nil) (sa_cons (se_var 0) (sa_cons (se_callB call_len cd_len rfl fr_len rfl (sa_cons (se_var 1) sa_nil)) sa_nil))))))
theorem sc__law_ranks : FnScope N__law_ranks ["_law_rows", "_law_move"] (defScope S__law_ranks) := ⟨rfl, rfl, rfl, by decide +kernel, rfl, by decide +kernel, by decide +kernel⟩
theorem ok__law_ranks (X : K.In h) (G : h.Ns mainGlobals mg) (c : SaysP fa fn ic tf ex h K) (E : EnvX P K mg base) : ∃ fd, FunD K "_law_ranks" "_law_ranks" (defArgs S__law_ranks) (defBody S__law_ranks) (defScope S__law_ranks) [] [] (He.ga K "_law_ranks") fd ∧ FnV P w K mg base (C K) 1 (He.ga K "_law_ranks") fd ["_law_rows", "_law_move"] (m__law_ranks) := by
  obtain ⟨fd, F⟩ := c.d.def_ 3 (d := d__law_ranks) rfl
  have fr_tuple := He.free_ok X G (c.d.fact 48 (f := .free "tuple") rfl)
  have nd := sc__law_ranks.nd
  refine ⟨fd, F, (FnV.of F sc__law_ranks fun cdv A outer s H E hr hg => ?_).hid tbok__law_ranks⟩
  exact (sb_one (ss_ret (se_tup (sa_cons se_str (sa_cons (se_callTy call_tuple_of cd_tuple rfl fr_tuple rfl (sa_cons (se_lc (own := [(("_law_rank" : Str), 2)]) (t := (.nm 2))  nd (si_seqS (se_var 0)) (by kernel_rfl) (fun _ _ _ _ _ => (tg_nm 2 nd)) (fun _ _ _ _ _ => sts_nil) (fun _ _ _ _ _ => (se_bin or_add (od_add (ob := false)) (se_var 2) (se_var 1)))) sa_nil)) sa_nil)))))
theorem sc__law_pairs : FnScope N__law_pairs ["_law_rows", "_law_move"] (defScope S__law_pairs) := ⟨rfl, rfl, rfl, by decide +kernel, rfl, by decide +kernel, by decide +kernel⟩
theorem ok__law_pairs (X : K.In h) (G : h.Ns mainGlobals mg) (c : SaysP fa fn ic tf ex h K) (E : EnvX P K mg base) : ∃ fd, FunD K "_law_pairs" "_law_pairs" (defArgs S__law_pairs) (defBody S__law_pairs) (defScope S__law_pairs) [] [] (He.ga K "_law_pairs") fd ∧ FnV P w K mg base (C K) 1 (He.ga K "_law_pairs") fd ["_law_rows", "_law_move"] (m__law_pairs) := by
  obtain ⟨fd, F⟩ := c.d.def_ 4 (d := d__law_pairs) rfl
  have fr_tuple := He.free_ok X G (c.d.fact 48 (f := .free "tuple") rfl)
  have nd := sc__law_pairs.nd
  refine ⟨fd, F, (FnV.of F sc__law_pairs fun cdv A outer s H E hr hg => ?_).hid tbok__law_pairs⟩
  exact (sb_one (ss_ret (se_tup (sa_cons se_str (sa_cons (se_callTy call_tuple_of cd_tuple rfl fr_tuple rfl (sa_cons (se_lc (own := [(("_law_low" : Str), 2), (("_law_high" : Str), 3)]) (t := (.tup [(.nm 2), (.nm 3)]))  nd (si_seqS (se_var 0)) (by kernel_rfl) (fun _ _ _ _ _ => (tg_tup (tg_cons (tg_nm 2 nd) (tg_cons (tg_nm 3 nd) tg_nil)))) (fun _ _ _ _ _ => sts_nil) (fun _ _ _ _ _ => (se_tup (sa_cons (se_bin or_add (od_add (ob := false)) (se_var 2) (se_var 1)) (sa_cons (se_bin or_add (od_add (ob := false)) (se_var 3) (se_var 1)) sa_nil))))) sa_nil)) sa_nil)))))
theorem sc__law_games : FnScope N__law_games ["_law_move"] (defScope S__law_games) := ⟨rfl, rfl, rfl, by decide +kernel, rfl, by decide +kernel, by decide +kernel⟩
theorem ok__law_games (X : K.In h) (G : h.Ns mainGlobals mg) (c : SaysP fa fn ic tf ex h K) (E : EnvX P K mg base) : ∃ fd, FunD K "_law_games" "_law_games" (defArgs S__law_games) (defBody S__law_games) (defScope S__law_games) [] [] (He.ga K "_law_games") fd ∧ FnV P w K mg base (C K) 2 (He.ga K "_law_games") fd ["_law_move"] (m__law_games) := by
  obtain ⟨fd, F⟩ := c.d.def_ 5 (d := d__law_games) rfl
  obtain ⟨fd__law_ranks, F__law_ranks, V__law_ranks⟩ := ok__law_ranks (P := P) (w := w) (base := base) X G c E
  have hm__law_ranks := He.glo_ok X G (c.d.fact 3 (f := .glo "_law_ranks") rfl)
  obtain ⟨fd__law_pairs, F__law_pairs, V__law_pairs⟩ := ok__law_pairs (P := P) (w := w) (base := base) X G c E
  have hm__law_pairs := He.glo_ok X G (c.d.fact 4 (f := .glo "_law_pairs") rfl)
  have b__law_ranks_2 : Bnd K fd__law_ranks ["_law_rows", "_law_move"] 2 [] [.a 0, .a 1] [] [] := FunD.bndN F__law_ranks fun kV doc pm an cdv ct us ws h1 h3 => match us, ws, h1, h3 with | [u0, u1], [], _, _ => ⟨rfl, rfl⟩
  have b__law_pairs_2 : Bnd K fd__law_pairs ["_law_rows", "_law_move"] 2 [] [.a 0, .a 1] [] [] := FunD.bndN F__law_pairs fun kV doc pm an cdv ct us ws h1 h3 => match us, ws, h1, h3 with | [u0, u1], [], _, _ => ⟨rfl, rfl⟩
  have nd := sc__law_games.nd
  refine ⟨fd, F, (FnV.of F sc__law_games fun cdv A outer s H E hr hg => ?_).hid tbok__law_games⟩
  exact (sb_cons (ss_set 1 nd (se_tup (sa_cons (se_tup (sa_cons se_int (sa_cons se_int sa_nil))) (sa_cons (se_tup (sa_cons (se_callP V__law_ranks (hr.mono (by decide)) hg passes_fn rfl hm__law_ranks F__law_ranks.kp b__law_ranks_2 rfl (fun _ => .nil) (fun _ => .nil) (sa_cons (se_lst false (sa_cons se_int (sa_cons se_int (sa_cons se_int (sa_cons se_int (sa_cons se_int (sa_cons se_int sa_nil))))))) (sa_cons (se_var 0) sa_nil))) (sa_cons (se_callP V__law_ranks (hr.mono (by decide)) hg passes_fn rfl hm__law_ranks F__law_ranks.kp b__law_ranks_2 rfl (fun _ => .nil) (fun _ => .nil) (sa_cons (se_lst false (sa_cons se_int (sa_cons se_int (sa_cons se_int (sa_cons se_int (sa_cons se_int (sa_cons se_int sa_nil))))))) (sa_cons (se_var 0) sa_nil))) sa_nil))) sa_nil))))
  (sb_cons (ss_set 2 nd (se_tup (sa_cons (se_tup (sa_cons se_int (sa_cons se_int sa_nil))) (sa_cons (se_tup (sa_cons (se_callP V__law_ranks (hr.mono (by decide)) hg passes_fn rfl hm__law_ranks F__law_ranks.kp b__law_ranks_2 rfl (fun _ => .nil) (fun _ => .nil) (sa_cons (se_lst false (sa_cons se_int (sa_cons se_int (sa_cons se_int (sa_cons se_int (sa_cons se_int (sa_cons se_int sa_nil))))))) (sa_cons (se_var 0) sa_nil))) (sa_cons (se_callP V__law_pairs (hr.mono (by decide)) hg passes_fn rfl hm__law_pairs F__law_pairs.kp b__law_pairs_2 rfl (fun _ => .nil) (fun _ => .nil) (sa_cons (se_bin or_mul (od_mul (ob := false)) (se_lst false (sa_cons (se_tup (sa_cons se_int (sa_cons se_int sa_nil))) sa_nil)) se_int) (sa_cons (se_var 0) sa_nil))) sa_nil))) sa_nil))))
  (sb_cons (ss_set 3 nd (se_lst false (sa_cons (se_tup (sa_cons (se_var 1) (sa_cons (se_lst false (sa_cons (se_tup (sa_cons se_non (sa_cons (se_tup (sa_cons (se_tup (sa_cons se_int (sa_cons se_int sa_nil))) (sa_cons (se_tup (sa_cons se_int (sa_cons se_int sa_nil))) sa_nil))) sa_nil))) (sa_cons (se_tup (sa_cons (se_tup (sa_cons (se_tup (sa_cons se_int (sa_cons se_int sa_nil))) (sa_cons (se_tup (sa_cons se_int (sa_cons se_int sa_nil))) sa_nil))) (sa_cons (se_tup (sa_cons (se_tup (sa_cons se_int (sa_cons se_int sa_nil))) (sa_cons (se_tup (sa_cons se_int (sa_cons se_int sa_nil))) sa_nil))) sa_nil))) (sa_cons (se_tup (sa_cons (se_tup (sa_cons (se_tup (sa_cons se_int (sa_cons se_int sa_nil))) (sa_cons (se_tup (sa_cons se_int (sa_cons se_int sa_nil))) sa_nil))) (sa_cons (se_tup (sa_cons (se_tup (sa_cons se_int (sa_cons se_int sa_nil))) (sa_cons (se_tup (sa_cons se_int (sa_cons se_int sa_nil))) sa_nil))) sa_nil))) (sa_cons (se_tup (sa_cons (se_tup (sa_cons (se_tup (sa_cons se_int (sa_cons se_int sa_nil))) (sa_cons (se_tup (sa_cons se_int sa_nil)) sa_nil))) (sa_cons (se_tup sa_nil) sa_nil))) (sa_cons (se_tup (sa_cons (se_tup (sa_cons (se_tup (sa_cons se_int sa_nil)) (sa_cons (se_tup (sa_cons se_int (sa_cons se_int sa_nil))) sa_nil))) (sa_cons (se_tup sa_nil) sa_nil))) (sa_cons (se_tup (sa_cons (se_tup (sa_cons (se_tup (sa_cons se_int (sa_cons se_int sa_nil))) (sa_cons (se_tup (sa_cons se_int (sa_cons se_int sa_nil))) sa_nil))) (sa_cons (se_tup sa_nil) sa_nil))) sa_nil))))))) (sa_cons (se_tup (sa_cons (se_tup (sa_cons (se_tup (sa_cons se_int (sa_cons se_int sa_nil))) (sa_cons (se_tup (sa_cons se_int sa_nil)) sa_nil))) (sa_cons (se_tup (sa_cons (se_tup (sa_cons se_int sa_nil)) (sa_cons (se_tup (sa_cons se_int (sa_cons se_int sa_nil))) sa_nil))) (sa_cons (se_tup (sa_cons (se_tup (sa_cons se_int (sa_cons se_int sa_nil))) (sa_cons (se_tup (sa_cons se_int sa_nil)) sa_nil))) sa_nil)))) sa_nil)))) sa_nil)))
  (sb_cons (ss_set 3 nd (se_bin or_add (od_add (ob := false)) (se_var 3) (se_lst false (sa_cons (se_tup (sa_cons (se_var 2) (sa_cons (se_lst false (sa_cons (se_tup (sa_cons se_non (sa_cons (se_tup sa_nil) sa_nil))) (sa_cons (se_tup (sa_cons (se_tup (sa_cons (se_tup (sa_cons se_int (sa_cons se_int sa_nil))) (sa_cons (se_tup (sa_cons se_int sa_nil)) sa_nil))) (sa_cons (se_tup (sa_cons (se_tup (sa_cons se_int (sa_cons se_int sa_nil))) sa_nil)) sa_nil))) (sa_cons (se_tup (sa_cons (se_tup (sa_cons (se_tup (sa_cons se_int (sa_cons se_int sa_nil))) (sa_cons (se_tup (sa_cons se_int sa_nil)) sa_nil))) (sa_cons (se_tup (sa_cons (se_tup (sa_cons se_int (sa_cons se_int sa_nil))) sa_nil)) sa_nil))) (sa_cons (se_tup (sa_cons (se_tup (sa_cons (se_tup (sa_cons se_int (sa_cons se_int sa_nil))) (sa_cons (se_tup (sa_cons se_int sa_nil)) sa_nil))) (sa_cons (se_tup (sa_cons (se_tup (sa_cons se_int (sa_cons se_int sa_nil))) sa_nil)) sa_nil))) sa_nil))))) (sa_cons (se_tup (sa_cons (se_tup (sa_cons (se_tup (sa_cons se_int (sa_cons se_int (sa_cons se_int sa_nil)))) (sa_cons (se_tup (sa_cons se_int (sa_cons se_int sa_nil))) sa_nil))) sa_nil)) sa_nil)))) sa_nil))))
  (sb_cons (ss_set 4 nd (se_tup (sa_cons (se_tup (sa_cons se_int (sa_cons se_int sa_nil))) (sa_cons (se_tup (sa_cons (se_callP V__law_pairs (hr.mono (by decide)) hg passes_fn rfl hm__law_pairs F__law_pairs.kp b__law_pairs_2 rfl (fun _ => .nil) (fun _ => .nil) (sa_cons (se_lst false (sa_cons (se_tup (sa_cons se_int (sa_cons se_int sa_nil))) (sa_cons (se_tup (sa_cons se_int (sa_cons se_int sa_nil))) (sa_cons (se_tup (sa_cons se_int (sa_cons se_int sa_nil))) (sa_cons (se_tup (sa_cons se_int (sa_cons se_int sa_nil))) sa_nil))))) (sa_cons (se_var 0) sa_nil))) (sa_cons (se_callP V__law_pairs (hr.mono (by decide)) hg passes_fn rfl hm__law_pairs F__law_pairs.kp b__law_pairs_2 rfl (fun _ => .nil) (fun _ => .nil) (sa_cons (se_lst false (sa_cons (se_tup (sa_cons se_int (sa_cons se_int sa_nil))) (sa_cons (se_tup (sa_cons se_int (sa_cons se_int sa_nil))) (sa_cons (se_tup (sa_cons se_int (sa_cons se_int sa_nil))) (sa_cons (se_tup (sa_cons se_int (sa_cons se_int sa_nil))) sa_nil))))) (sa_cons (se_var 0) sa_nil))) sa_nil))) sa_nil))))
  (sb_cons (ss_set 3 nd (se_bin or_add (od_add (ob := false)) (se_var 3) (se_lst false (sa_cons (se_tup (sa_cons (se_var 4) (sa_cons (se_lst false (sa_cons (se_tup (sa_cons se_non (sa_cons (se_tup (sa_cons (se_tup (sa_cons se_int (sa_cons se_int sa_nil))) (sa_cons (se_tup (sa_cons se_int (sa_cons se_int sa_nil))) sa_nil))) sa_nil))) (sa_cons (se_tup (sa_cons (se_tup (sa_cons (se_tup (sa_cons se_int sa_nil)) (sa_cons (se_tup (sa_cons se_int (sa_cons se_int sa_nil))) sa_nil))) (sa_cons (se_tup (sa_cons (se_tup (sa_cons se_int (sa_cons se_int sa_nil))) sa_nil)) sa_nil))) (sa_cons (se_tup (sa_cons (se_tup (sa_cons (se_tup (sa_cons se_int sa_nil)) (sa_cons (se_tup (sa_cons se_int sa_nil)) sa_nil))) (sa_cons (se_tup sa_nil) sa_nil))) sa_nil)))) (sa_cons (se_tup (sa_cons (se_tup (sa_cons (se_tup (sa_cons se_int sa_nil)) (sa_cons (se_tup (sa_cons se_int sa_nil)) sa_nil))) sa_nil)) sa_nil)))) sa_nil))))
  (sb_cons (ss_set 5 nd (se_tup (sa_cons (se_tup (sa_cons se_int (sa_cons se_int sa_nil))) (sa_cons (se_tup (sa_cons (se_callP V__law_pairs (hr.mono (by decide)) hg passes_fn rfl hm__law_pairs F__law_pairs.kp b__law_pairs_2 rfl (fun _ => .nil) (fun _ => .nil) (sa_cons (se_lst false (sa_cons (se_tup (sa_cons se_int (sa_cons se_int sa_nil))) (sa_cons (se_tup (sa_cons se_int (sa_cons se_int sa_nil))) (sa_cons (se_tup (sa_cons se_int (sa_cons se_int sa_nil))) (sa_cons (se_tup (sa_cons se_int (sa_cons se_int sa_nil))) sa_nil))))) (sa_cons (se_var 0) sa_nil))) (sa_cons (se_callP V__law_pairs (hr.mono (by decide)) hg passes_fn rfl hm__law_pairs F__law_pairs.kp b__law_pairs_2 rfl (fun _ => .nil) (fun _ => .nil) (sa_cons (se_lst false (sa_cons (se_tup (sa_cons se_int (sa_cons se_int sa_nil))) (sa_cons (se_tup (sa_cons se_int (sa_cons se_int sa_nil))) (sa_cons (se_tup (sa_cons se_int (sa_cons se_int sa_nil))) (sa_cons (se_tup (sa_cons se_int (sa_cons se_int sa_nil))) sa_nil))))) (sa_cons (se_var 0) sa_nil))) sa_nil))) sa_nil))))
  (sb_cons (ss_set 3 nd (se_bin or_add (od_add (ob := false)) (se_var 3) (se_lst false (sa_cons (se_tup (sa_cons (se_var 5) (sa_cons (se_lst false (sa_cons (se_tup (sa_cons se_non (sa_cons (se_tup (sa_cons (se_tup (sa_cons se_int (sa_cons se_int sa_nil))) sa_nil)) sa_nil))) (sa_cons (se_tup (sa_cons (se_tup (sa_cons (se_tup (sa_cons se_int sa_nil)) (sa_cons (se_tup (sa_cons se_int (sa_cons se_int sa_nil))) sa_nil))) (sa_cons (se_tup sa_nil) sa_nil))) (sa_cons (se_tup (sa_cons (se_tup (sa_cons (se_tup (sa_cons se_int sa_nil)) (sa_cons (se_tup (sa_cons se_int (sa_cons se_int sa_nil))) sa_nil))) (sa_cons (se_tup (sa_cons (se_tup (sa_cons se_int (sa_cons se_int sa_nil))) sa_nil)) sa_nil))) sa_nil)))) (sa_cons (se_tup (sa_cons (se_tup (sa_cons (se_tup (sa_cons se_int (sa_cons se_int sa_nil))) (sa_cons (se_tup (sa_cons se_int sa_nil)) sa_nil))) sa_nil)) sa_nil)))) sa_nil))))
  (sb_cons (ss_set 6 nd (se_tup (sa_cons (se_tup (sa_cons se_int (sa_cons se_int (sa_cons se_int sa_nil)))) (sa_cons (se_tup (sa_cons (se_callP V__law_ranks (hr.mono (by decide)) hg passes_fn rfl hm__law_ranks F__law_ranks.kp b__law_ranks_2 rfl (fun _ => .nil) (fun _ => .nil) (sa_cons (se_lst false (sa_cons se_int (sa_cons se_int (sa_cons se_int (sa_cons se_int (sa_cons se_int (sa_cons se_int (sa_cons se_int (sa_cons se_int sa_nil))))))))) (sa_cons (se_var 0) sa_nil))) (sa_cons (se_callP V__law_ranks (hr.mono (by decide)) hg passes_fn rfl hm__law_ranks F__law_ranks.kp b__law_ranks_2 rfl (fun _ => .nil) (fun _ => .nil) (sa_cons (se_bin or_mul (od_mul (ob := false)) (se_lst false (sa_cons se_int sa_nil)) se_int) (sa_cons (se_var 0) sa_nil))) (sa_cons (se_callP V__law_pairs (hr.mono (by decide)) hg passes_fn rfl hm__law_pairs F__law_pairs.kp b__law_pairs_2 rfl (fun _ => .nil) (fun _ => .nil) (sa_cons (se_bin or_mul (od_mul (ob := false)) (se_lst false (sa_cons (se_tup (sa_cons se_int (sa_cons se_int sa_nil))) sa_nil)) se_int) (sa_cons (se_var 0) sa_nil))) sa_nil)))) sa_nil))))
  (sb_cons (ss_set 3 nd (se_bin or_add (od_add (ob := false)) (se_var 3) (se_lst false (sa_cons (se_tup (sa_cons (se_var 6) (sa_cons (se_lst false (sa_cons (se_tup (sa_cons se_non (sa_cons (se_tup (sa_cons (se_tup (sa_cons se_int (sa_cons se_int sa_nil))) sa_nil)) sa_nil))) (sa_cons (se_tup (sa_cons (se_tup (sa_cons (se_tup (sa_cons se_int (sa_cons se_int sa_nil))) (sa_cons (se_tup (sa_cons se_int (sa_cons se_int sa_nil))) (sa_cons (se_tup (sa_cons se_int sa_nil)) sa_nil)))) (sa_cons (se_tup sa_nil) sa_nil))) (sa_cons (se_tup (sa_cons (se_tup (sa_cons (se_tup (sa_cons se_int (sa_cons se_int sa_nil))) (sa_cons (se_tup (sa_cons se_int sa_nil)) (sa_cons (se_tup (sa_cons se_int sa_nil)) sa_nil)))) (sa_cons (se_tup (sa_cons (se_tup (sa_cons se_int (sa_cons se_int sa_nil))) sa_nil)) sa_nil))) sa_nil)))) (sa_cons (se_tup (sa_cons (se_tup (sa_cons (se_tup (sa_cons se_int sa_nil)) (sa_cons (se_tup (sa_cons se_int (sa_cons se_int sa_nil))) (sa_cons (se_tup (sa_cons se_int (sa_cons se_int sa_nil))) sa_nil)))) sa_nil)) sa_nil)))) sa_nil))))
  (sb_cons (ss_set 7 nd (se_tup (sa_cons (se_tup (sa_cons se_int (sa_cons se_int sa_nil))) (sa_cons (se_tup (sa_cons (se_callP V__law_ranks (hr.mono (by decide)) hg passes_fn rfl hm__law_ranks F__law_ranks.kp b__law_ranks_2 rfl (fun _ => .nil) (fun _ => .nil) (sa_cons (se_lst false (sa_cons se_int sa_nil)) (sa_cons (se_var 0) sa_nil))) (sa_cons (se_callP V__law_pairs (hr.mono (by decide)) hg passes_fn rfl hm__law_pairs F__law_pairs.kp b__law_pairs_2 rfl (fun _ => .nil) (fun _ => .nil) (sa_cons (se_lst false (sa_cons (se_tup (sa_cons se_int (sa_cons se_int sa_nil))) sa_nil)) (sa_cons (se_var 0) sa_nil))) sa_nil))) sa_nil))))
  (sb_one (ss_ret (se_bin or_add (od_add (ob := false)) (se_var 3) (se_lst false (sa_cons (se_tup (sa_cons (se_var 7) (sa_cons (se_lst false (sa_cons (se_tup (sa_cons se_non (sa_cons (se_tup sa_nil) sa_nil))) (sa_cons (se_tup (sa_cons (se_tup (sa_cons (se_tup (sa_cons se_int sa_nil)) (sa_cons (se_tup (sa_cons se_int sa_nil)) sa_nil))) (sa_cons (se_tup sa_nil) sa_nil))) sa_nil))) (sa_cons (se_tup (sa_cons (se_tup (sa_cons (se_tup (sa_cons se_int sa_nil)) (sa_cons (se_tup (sa_cons se_int sa_nil)) sa_nil))) sa_nil)) sa_nil)))) sa_nil))))))))))))))))
theorem sc__law_same : FnScope N__law_same ["_law_got", "_law_due"] (defScope S__law_same) := ⟨rfl, rfl, rfl, by decide +kernel, rfl, by decide +kernel, by decide +kernel⟩
theorem ok__law_same (X : K.In h) (G : h.Ns mainGlobals mg) (c : SaysP fa fn ic tf ex h K) (E : EnvX P K mg base) : ∃ fd, FunD K "_law_same" "_law_same" (defArgs S__law_same) (defBody S__law_same) (defScope S__law_same) [] [] (He.ga K "_law_same") fd ∧ FnV P w K mg base (C K) 1 (He.ga K "_law_same") fd ["_law_got", "_law_due"] (m__law_same) := by
  obtain ⟨fd, F⟩ := c.d.def_ 6 (d := d__law_same) rfl
  have fr_repr := He.free_ok X G (c.d.fact 49 (f := .free "repr") rfl)
  have nd := sc__law_same.nd
  refine ⟨fd, F, (FnV.of F sc__law_same fun cdv A outer s H E hr hg => ?_).hid tbok__law_same⟩
  exact (sb_one (ss_ret (se_cmp op_eq od_eqR (se_callB (call_repr hg (ru66 hr)) cd_repr rfl fr_repr rfl (sa_cons (se_var 0) sa_nil)) (se_callB (call_repr hg (ru66 hr)) cd_repr rfl fr_repr rfl (sa_cons (se_var 1) sa_nil)))))
theorem sc_want : FnScope N_want ["is_right", "name", "place"] (defScope S_want) := ⟨rfl, rfl, rfl, by decide +kernel, rfl, by decide +kernel, by decide +kernel⟩
theorem ok_want (X : K.In h) (G : h.Ns mainGlobals mg) (c : SaysP fa fn ic tf ex h K) (E : EnvX P K mg base) : ∃ fd, FunD K "want" "want" (defArgs S_want) (defBody S_want) (defScope S_want) [.int (-1)] [] (He.ga K "want") fd ∧ FnV P w K mg base (C K) 3 (He.ga K "want") fd ["is_right", "name", "place"] (m_want) := by
  obtain ⟨fd, F⟩ := c.d.def_ 7 (d := d_want) rfl
  have mx_NotUsable := mkx_NotUsable (P := P) (w := w) (base := base) X G c E
  have nd := sc_want.nd
  refine ⟨fd, F, (FnV.of F sc_want fun cdv A outer s H E hr hg => ?_).hid tbok_want⟩
  exact (sb_one (ss_if (st_not (st_val (se_var 0))) (sb_one (ss_raise (c := 2) mx_NotUsable rfl rfl rfl rfl rfl takes_fn (hr.mono (by decide)) rfl (sa_cons (se_var 1) (sa_cons (se_var 2) sa_nil)))) sb_nil))
theorem sc_is_tuple_of : FnScope N_is_tuple_of ["thing", "size"] (defScope S_is_tuple_of) := ⟨rfl, rfl, rfl, by decide +kernel, rfl, by decide +kernel, by decide +kernel⟩
theorem ok_is_tuple_of (X : K.In h) (G : h.Ns mainGlobals mg) (c : SaysP fa fn ic tf ex h K) (E : EnvX P K mg base) : ∃ fd, FunD K "is_tuple_of" "is_tuple_of" (defArgs S_is_tuple_of) (defBody S_is_tuple_of) (defScope S_is_tuple_of) [] [] (He.ga K "is_tuple_of") fd ∧ FnV P w K mg base (C K) 1 (He.ga K "is_tuple_of") fd ["thing", "size"] (m_is_tuple_of) := by
  obtain ⟨fd, F⟩ := c.d.def_ 8 (d := d_is_tuple_of) rfl
  have fr_isinstance := He.free_ok X G (c.d.fact 50 (f := .free "isinstance") rfl)
  have fr_tuple := He.free_ok X G (c.d.fact 48 (f := .free "tuple") rfl)
  have fr_len := He.free_ok X G (c.d.fact 47 (f := .free "len") rfl)
  have nd := sc_is_tuple_of.nd
  refine ⟨fd, F, (FnV.of F sc_is_tuple_of fun cdv A outer s H E hr hg => ?_).hid tbok_is_tuple_of⟩
  exact (sb_one (ss_ret (se_and (se_isi is_tuple rfl fr_isinstance rfl fr_tuple rfl (se_var 0)) (se_one (se_cmp (or_eqA (ru64 hr)) od_eqA (se_callB call_len cd_len rfl fr_len rfl (sa_cons (se_var 0) sa_nil)) (se_var 1))))))
theorem sc_is_integer : FnScope N_is_integer ["thing"] (defScope S_is_integer) := ⟨rfl, rfl, rfl, by decide +kernel, rfl, by decide +kernel, by decide +kernel⟩
theorem ok_is_integer (X : K.In h) (G : h.Ns mainGlobals mg) (c : SaysP fa fn ic tf ex h K) (E : EnvX P K mg base) : ∃ fd, FunD K "is_integer" "is_integer" (defArgs S_is_integer) (defBody S_is_integer) (defScope S_is_integer) [] [] (He.ga K "is_integer") fd ∧ FnV P w K mg base (C K) 1 (He.ga K "is_integer") fd ["thing"] (m_is_integer) := by
  obtain ⟨fd, F⟩ := c.d.def_ 9 (d := d_is_integer) rfl
  have fr_isinstance := He.free_ok X G (c.d.fact 50 (f := .free "isinstance") rfl)
  have fr_int := He.free_ok X G (c.d.fact 46 (f := .free "int") rfl)
  have fr_bool := He.free_ok X G (c.d.fact 52 (f := .free "bool") rfl)
  have nd := sc_is_integer.nd
  refine ⟨fd, F, (FnV.of F sc_is_integer fun cdv A outer s H E hr hg => ?_).hid tbok_is_integer⟩
  exact (sb_one (ss_ret (se_and (se_isi is_int rfl fr_isinstance rfl fr_int rfl (se_var 0)) (se_one (se_not (se_isi is_bool rfl fr_isinstance rfl fr_bool rfl (se_var 0)))))))
theorem sc_is_above_nought : FnScope N_is_above_nought ["thing"] (defScope S_is_above_nought) := ⟨rfl, rfl, rfl, by decide +kernel, rfl, by decide +kernel, by decide +kernel⟩
theorem ok_is_above_nought (X : K.In h) (G : h.Ns mainGlobals mg) (c : SaysP fa fn ic tf ex h K) (E : EnvX P K mg base) : ∃ fd, FunD K "is_above_nought" "is_above_nought" (defArgs S_is_above_nought) (defBody S_is_above_nought) (defScope S_is_above_nought) [] [] (He.ga K "is_above_nought") fd ∧ FnV P w K mg base (C K) 2 (He.ga K "is_above_nought") fd ["thing"] (m_is_above_nought) := by
  obtain ⟨fd, F⟩ := c.d.def_ 10 (d := d_is_above_nought) rfl
  obtain ⟨fd_is_integer, F_is_integer, V_is_integer⟩ := ok_is_integer (P := P) (w := w) (base := base) X G c E
  have hm_is_integer := He.glo_ok X G (c.d.fact 9 (f := .glo "is_integer") rfl)
  have b_is_integer_1 : Bnd K fd_is_integer ["thing"] 1 [] [.a 0] [] [] := FunD.bndN F_is_integer fun kV doc pm an cdv ct us ws h1 h3 => match us, ws, h1, h3 with | [u0], [], _, _ => ⟨rfl, rfl⟩
  have nd := sc_is_above_nought.nd
  refine ⟨fd, F, (FnV.of F sc_is_above_nought fun cdv A outer s H E hr hg => ?_).hid tbok_is_above_nought⟩
  exact (sb_one (ss_ret (se_and (se_callP V_is_integer (hr.mono (by decide)) hg passes_fn rfl hm_is_integer F_is_integer.kp b_is_integer_1 rfl (fun _ => .nil) (fun _ => .nil) (sa_cons (se_var 0) sa_nil)) (se_one (se_cmp (or_gtA (ru64 hr)) od_gtA (se_var 0) se_int)))))
theorem sc_is_counts : FnScope N_is_counts ["thing"] (defScope S_is_counts) := ⟨rfl, rfl, rfl, by decide +kernel, rfl, by decide +kernel, by decide +kernel⟩
theorem ok_is_counts (X : K.In h) (G : h.Ns mainGlobals mg) (c : SaysP fa fn ic tf ex h K) (E : EnvX P K mg base) : ∃ fd, FunD K "is_counts" "is_counts" (defArgs S_is_counts) (defBody S_is_counts) (defScope S_is_counts) [] [] (He.ga K "is_counts") fd ∧ FnV P w K mg base (C K) 3 (He.ga K "is_counts") fd ["thing"] (m_is_counts) := by
  obtain ⟨fd, F⟩ := c.d.def_ 11 (d := d_is_counts) rfl
  obtain ⟨fd_is_above_nought, F_is_above_nought, V_is_above_nought⟩ := ok_is_above_nought (P := P) (w := w) (base := base) X G c E
  have hm_is_above_nought := He.glo_ok X G (c.d.fact 10 (f := .glo "is_above_nought") rfl)
  have fr_isinstance := He.free_ok X G (c.d.fact 50 (f := .free "isinstance") rfl)
  have fr_tuple := He.free_ok X G (c.d.fact 48 (f := .free "tuple") rfl)
  have fr_len := He.free_ok X G (c.d.fact 47 (f := .free "len") rfl)
  have fr_all := He.free_ok X G (c.d.fact 51 (f := .free "all") rfl)
  have b_is_above_nought_1 : Bnd K fd_is_above_nought ["thing"] 1 [] [.a 0] [] [] := FunD.bndN F_is_above_nought fun kV doc pm an cdv ct us ws h1 h3 => match us, ws, h1, h3 with | [u0], [], _, _ => ⟨rfl, rfl⟩
  have nd := sc_is_counts.nd
  refine ⟨fd, F, (FnV.of F sc_is_counts fun cdv A outer s H E hr hg => ?_).hid tbok_is_counts⟩
  exact (sb_one (ss_ret (se_and (se_isi is_tuple rfl fr_isinstance rfl fr_tuple rfl (se_var 0)) (se_and (se_cmp (or_inB (ru65 hr)) (od_inB (neg := false)) (se_callB call_len cd_len rfl fr_len rfl (sa_cons (se_var 0) sa_nil)) (se_tup (sa_cons se_int (sa_cons se_int sa_nil)))) (se_one (se_callB (cr_all rfl) cd_all rfl fr_all rfl (sa_cons (se_lc (own := [(("one" : Str), 1)]) (t := (.nm 1))  nd (si_seqS (se_var 0)) (by kernel_rfl) (fun _ _ _ _ _ => (tg_nm 1 nd)) (fun _ _ _ _ _ => sts_nil) (fun _ _ _ _ _ => (se_callP V_is_above_nought (hr.mono (by decide)) hg passes_no rfl hm_is_above_nought F_is_above_nought.kp b_is_above_nought_1 rfl (fun _ => .nil) (fun _ => .nil) (sa_cons (se_var 1) sa_nil)))) sa_nil)))))))
theorem sc_size_of : FnScope N_size_of ["counts"] (defScope S_size_of) := ⟨rfl, rfl, rfl, by decide +kernel, rfl, by decide +kernel, by decide +kernel⟩
theorem ok_size_of (X : K.In h) (G : h.Ns mainGlobals mg) (c : SaysP fa fn ic tf ex h K) (E : EnvX P K mg base) : ∃ fd, FunD K "size_of" "size_of" (defArgs S_size_of) (defBody S_size_of) (defScope S_size_of) [] [] (He.ga K "size_of") fd ∧ FnV P w K mg base (C K) 1 (He.ga K "size_of") fd ["counts"] (m_size_of) := by
  obtain ⟨fd, F⟩ := c.d.def_ 12 (d := d_size_of) rfl
  have nd := sc_size_of.nd
  refine ⟨fd, F, (FnV.of F sc_size_of fun cdv A outer s H E hr hg => ?_).hid tbok_size_of⟩
  exact (sb_cons (ss_set 1 nd se_int)
  (sb_cons (ss_for (t := (.nm 2)) owns_fn (si_seqS (se_var 0)) (tg_nm 2 nd) (sb_one (ss_set 1 nd (se_bin or_mul (od_mul (ob := false)) (se_var 1) (se_var 2)))))
  (sb_one (ss_ret (se_var 1)))))
theorem sc_is_telling_shape : FnScope N_is_telling_shape ["counts", "thing"] (defScope S_is_telling_shape) := ⟨rfl, rfl, rfl, by decide +kernel, rfl, by decide +kernel, by decide +kernel⟩
theorem ok_is_telling_shape (X : K.In h) (G : h.Ns mainGlobals mg) (c : SaysP fa fn ic tf ex h K) (E : EnvX P K mg base) : ∃ fd, FunD K "is_telling_shape" "is_telling_shape" (defArgs S_is_telling_shape) (defBody S_is_telling_shape) (defScope S_is_telling_shape) [] [] (He.ga K "is_telling_shape") fd ∧ FnV P w K mg base (C K) 2 (He.ga K "is_telling_shape") fd ["counts", "thing"] (m_is_telling_shape) := by
  obtain ⟨fd, F⟩ := c.d.def_ 13 (d := d_is_telling_shape) rfl
  obtain ⟨fd_is_tuple_of, F_is_tuple_of, V_is_tuple_of⟩ := ok_is_tuple_of (P := P) (w := w) (base := base) X G c E
  have hm_is_tuple_of := He.glo_ok X G (c.d.fact 8 (f := .glo "is_tuple_of") rfl)
  obtain ⟨fd_size_of, F_size_of, V_size_of⟩ := ok_size_of (P := P) (w := w) (base := base) X G c E
  have hm_size_of := He.glo_ok X G (c.d.fact 12 (f := .glo "size_of") rfl)
  have fr_isinstance := He.free_ok X G (c.d.fact 50 (f := .free "isinstance") rfl)
  have fr_str := He.free_ok X G (c.d.fact 54 (f := .free "str") rfl)
  obtain ⟨_, gs_BOUNDS⟩ := He.str_ok X G (c.d.fact 61 (f := .str "BOUNDS" ("bounds" : Str)) rfl)
  obtain ⟨_, gs_ORDER⟩ := He.str_ok X G (c.d.fact 62 (f := .str "ORDER" ("order" : Str)) rfl)
  have b_is_tuple_of_2 : Bnd K fd_is_tuple_of ["thing", "size"] 2 [] [.a 0, .a 1] [] [] := FunD.bndN F_is_tuple_of fun kV doc pm an cdv ct us ws h1 h3 => match us, ws, h1, h3 with | [u0, u1], [], _, _ => ⟨rfl, rfl⟩
  have b_size_of_1 : Bnd K fd_size_of ["counts"] 1 [] [.a 0] [] [] := FunD.bndN F_size_of fun kV doc pm an cdv ct us ws h1 h3 => match us, ws, h1, h3 with | [u0], [], _, _ => ⟨rfl, rfl⟩
  have nd := sc_is_telling_shape.nd
  refine ⟨fd, F, (FnV.of F sc_is_telling_shape fun cdv A outer s H E hr hg => ?_).hid tbok_is_telling_shape⟩
  exact (sb_cons (ss_if (SW.pt (sw_or (st_not (st_val (se_callP V_is_tuple_of (hr.mono (by decide)) hg passes_fn rfl hm_is_tuple_of F_is_tuple_of.kp b_is_tuple_of_2 rfl (fun _ => .nil) (fun _ => .nil) (sa_cons (se_var 1) (sa_cons se_int sa_nil))))) (sw_or (st_not (st_val (se_isi is_str rfl fr_isinstance rfl fr_str rfl (se_ixB (se_var 1) se_int)))) (sw_or1 (st_cmp (or_notInB (ru65 hr)) (od_inB (neg := true)) (se_ixB (se_var 1) se_int) (se_tup (sa_cons (se_gstr rfl gs_ORDER) (sa_cons (se_gstr rfl gs_BOUNDS) sa_nil)))))))) (sb_one (ss_ret se_bl)) sb_nil)
  (sb_one (ss_ret (se_callP V_is_tuple_of (hr.mono (by decide)) hg passes_fn rfl hm_is_tuple_of F_is_tuple_of.kp b_is_tuple_of_2 rfl (fun _ => .nil) (fun _ => .nil) (sa_cons (se_ixB (se_var 1) se_int) (sa_cons (se_callP V_size_of (hr.mono (by decide)) hg passes_fn rfl hm_size_of F_size_of.kp b_size_of_1 rfl (fun _ => .nil) (fun _ => .nil) (sa_cons (se_var 0) sa_nil)) sa_nil))))))
theorem sc_is_number : FnScope N_is_number ["thing"] (defScope S_is_number) := ⟨rfl, rfl, rfl, by decide +kernel, rfl, by decide +kernel, by decide +kernel⟩
theorem ok_is_number (X : K.In h) (G : h.Ns mainGlobals mg) (c : SaysP fa fn ic tf ex h K) (E : EnvX P K mg base) : ∃ fd, FunD K "is_number" "is_number" (defArgs S_is_number) (defBody S_is_number) (defScope S_is_number) [] [] (He.ga K "is_number") fd ∧ FnV P w K mg base (C K) 2 (He.ga K "is_number") fd ["thing"] (m_is_number) := by
  obtain ⟨fd, F⟩ := c.d.def_ 14 (d := d_is_number) rfl
  obtain ⟨fd_is_integer, F_is_integer, V_is_integer⟩ := ok_is_integer (P := P) (w := w) (base := base) X G c E
  have hm_is_integer := He.glo_ok X G (c.d.fact 9 (f := .glo "is_integer") rfl)
  have b_is_integer_1 : Bnd K fd_is_integer ["thing"] 1 [] [.a 0] [] [] := FunD.bndN F_is_integer fun kV doc pm an cdv ct us ws h1 h3 => match us, ws, h1, h3 with | [u0], [], _, _ => ⟨rfl, rfl⟩
  have nd := sc_is_number.nd
  refine ⟨fd, F, (FnV.of F sc_is_number fun cdv A outer s H E hr hg => ?_).hid tbok_is_number⟩
  exact (sb_one (ss_ret (se_and (se_callP V_is_integer (hr.mono (by decide)) hg passes_fn rfl hm_is_integer F_is_integer.kp b_is_integer_1 rfl (fun _ => .nil) (fun _ => .nil) (sa_cons (se_var 0) sa_nil)) (se_one (se_cmp (or_geA (ru64 hr)) od_geA (se_var 0) se_int)))))
theorem sc_is_pair_of_bounds : FnScope N_is_pair_of_bounds ["thing"] (defScope S_is_pair_of_bounds) := ⟨rfl, rfl, rfl, by decide +kernel, rfl, by decide +kernel, by decide +kernel⟩
theorem ok_is_pair_of_bounds (X : K.In h) (G : h.Ns mainGlobals mg) (c : SaysP fa fn ic tf ex h K) (E : EnvX P K mg base) : ∃ fd, FunD K "is_pair_of_bounds" "is_pair_of_bounds" (defArgs S_is_pair_of_bounds) (defBody S_is_pair_of_bounds) (defScope S_is_pair_of_bounds) [] [] (He.ga K "is_pair_of_bounds") fd ∧ FnV P w K mg base (C K) 2 (He.ga K "is_pair_of_bounds") fd ["thing"] (m_is_pair_of_bounds) := by
  obtain ⟨fd, F⟩ := c.d.def_ 15 (d := d_is_pair_of_bounds) rfl
  obtain ⟨fd_is_tuple_of, F_is_tuple_of, V_is_tuple_of⟩ := ok_is_tuple_of (P := P) (w := w) (base := base) X G c E
  have hm_is_tuple_of := He.glo_ok X G (c.d.fact 8 (f := .glo "is_tuple_of") rfl)
  obtain ⟨fd_is_integer, F_is_integer, V_is_integer⟩ := ok_is_integer (P := P) (w := w) (base := base) X G c E
  have hm_is_integer := He.glo_ok X G (c.d.fact 9 (f := .glo "is_integer") rfl)
  have b_is_tuple_of_2 : Bnd K fd_is_tuple_of ["thing", "size"] 2 [] [.a 0, .a 1] [] [] := FunD.bndN F_is_tuple_of fun kV doc pm an cdv ct us ws h1 h3 => match us, ws, h1, h3 with | [u0, u1], [], _, _ => ⟨rfl, rfl⟩
  have b_is_integer_1 : Bnd K fd_is_integer ["thing"] 1 [] [.a 0] [] [] := FunD.bndN F_is_integer fun kV doc pm an cdv ct us ws h1 h3 => match us, ws, h1, h3 with | [u0], [], _, _ => ⟨rfl, rfl⟩
  have nd := sc_is_pair_of_bounds.nd
  refine ⟨fd, F, (FnV.of F sc_is_pair_of_bounds fun cdv A outer s H E hr hg => ?_).hid tbok_is_pair_of_bounds⟩
  exact (sb_one (ss_ret (se_and (se_callP V_is_tuple_of (hr.mono (by decide)) hg passes_fn rfl hm_is_tuple_of F_is_tuple_of.kp b_is_tuple_of_2 rfl (fun _ => .nil) (fun _ => .nil) (sa_cons (se_var 0) (sa_cons se_int sa_nil))) (se_and (se_callP V_is_integer (hr.mono (by decide)) hg passes_fn rfl hm_is_integer F_is_integer.kp b_is_integer_1 rfl (fun _ => .nil) (fun _ => .nil) (sa_cons (se_ixB (se_var 0) se_int) sa_nil)) (se_and (se_callP V_is_integer (hr.mono (by decide)) hg passes_fn rfl hm_is_integer F_is_integer.kp b_is_integer_1 rfl (fun _ => .nil) (fun _ => .nil) (sa_cons (se_ixB (se_var 0) se_int) sa_nil)) (se_one (se_cmp (or_leA (ru64 hr)) od_leA (se_ixB (se_var 0) se_int) (se_ixB (se_var 0) se_int))))))))
theorem sc_is_element : FnScope N_is_element ["kind", "thing"] (defScope S_is_element) := ⟨rfl, rfl, rfl, by decide +kernel, rfl, by decide +kernel, by decide +kernel⟩
theorem ok_is_element (X : K.In h) (G : h.Ns mainGlobals mg) (c : SaysP fa fn ic tf ex h K) (E : EnvX P K mg base) : ∃ fd, FunD K "is_element" "is_element" (defArgs S_is_element) (defBody S_is_element) (defScope S_is_element) [] [] (He.ga K "is_element") fd ∧ FnV P w K mg base (C K) 3 (He.ga K "is_element") fd ["kind", "thing"] (m_is_element) := by
  obtain ⟨fd, F⟩ := c.d.def_ 16 (d := d_is_element) rfl
  obtain ⟨fd_is_number, F_is_number, V_is_number⟩ := ok_is_number (P := P) (w := w) (base := base) X G c E
  have hm_is_number := He.glo_ok X G (c.d.fact 14 (f := .glo "is_number") rfl)
  obtain ⟨fd_is_pair_of_bounds, F_is_pair_of_bounds, V_is_pair_of_bounds⟩ := ok_is_pair_of_bounds (P := P) (w := w) (base := base) X G c E
  have hm_is_pair_of_bounds := He.glo_ok X G (c.d.fact 15 (f := .glo "is_pair_of_bounds") rfl)
  obtain ⟨_, gs_ORDER⟩ := He.str_ok X G (c.d.fact 62 (f := .str "ORDER" ("order" : Str)) rfl)
  have b_is_number_1 : Bnd K fd_is_number ["thing"] 1 [] [.a 0] [] [] := FunD.bndN F_is_number fun kV doc pm an cdv ct us ws h1 h3 => match us, ws, h1, h3 with | [u0], [], _, _ => ⟨rfl, rfl⟩
  have b_is_pair_of_bounds_1 : Bnd K fd_is_pair_of_bounds ["thing"] 1 [] [.a 0] [] [] := FunD.bndN F_is_pair_of_bounds fun kV doc pm an cdv ct us ws h1 h3 => match us, ws, h1, h3 with | [u0], [], _, _ => ⟨rfl, rfl⟩
  have nd := sc_is_element.nd
  refine ⟨fd, F, (FnV.of F sc_is_element fun cdv A outer s H E hr hg => ?_).hid tbok_is_element⟩
  exact (sb_one (ss_ret (se_if (st_cmp (or_eqA (ru64 hr)) od_eqA (se_var 0) (se_gstr rfl gs_ORDER)) (se_callP V_is_number (hr.mono (by decide)) hg passes_fn rfl hm_is_number F_is_number.kp b_is_number_1 rfl (fun _ => .nil) (fun _ => .nil) (sa_cons (se_var 1) sa_nil)) (se_callP V_is_pair_of_bounds (hr.mono (by decide)) hg passes_fn rfl hm_is_pair_of_bounds F_is_pair_of_bounds.kp b_is_pair_of_bounds_1 rfl (fun _ => .nil) (fun _ => .nil) (sa_cons (se_var 1) sa_nil)))))
theorem sc_element_fault : FnScope N_element_fault ["telling"] (defScope S_element_fault) := ⟨rfl, rfl, rfl, by decide +kernel, rfl, by decide +kernel, by decide +kernel⟩
theorem ok_element_fault (X : K.In h) (G : h.Ns mainGlobals mg) (c : SaysP fa fn ic tf ex h K) (E : EnvX P K mg base) : ∃ fd, FunD K "element_fault" "element_fault" (defArgs S_element_fault) (defBody S_element_fault) (defScope S_element_fault) [] [] (He.ga K "element_fault") fd ∧ FnV P w K mg base (C K) 4 (He.ga K "element_fault") fd ["telling"] (m_element_fault) := by
  obtain ⟨fd, F⟩ := c.d.def_ 17 (d := d_element_fault) rfl
  obtain ⟨fd_is_element, F_is_element, V_is_element⟩ := ok_is_element (P := P) (w := w) (base := base) X G c E
  have hm_is_element := He.glo_ok X G (c.d.fact 16 (f := .glo "is_element") rfl)
  have fr_enumerate := He.free_ok X G (c.d.fact 53 (f := .free "enumerate") rfl)
  have fr_len := He.free_ok X G (c.d.fact 47 (f := .free "len") rfl)
  have b_is_element_2 : Bnd K fd_is_element ["kind", "thing"] 2 [] [.a 0, .a 1] [] [] := FunD.bndN F_is_element fun kV doc pm an cdv ct us ws h1 h3 => match us, ws, h1, h3 with | [u0, u1], [], _, _ => ⟨rfl, rfl⟩
  have nd := sc_element_fault.nd
  refine ⟨fd, F, (FnV.of F sc_element_fault fun cdv A outer s H E hr hg => ?_).hid tbok_element_fault⟩
  exact (sb_cons (ss_setLc (own := [(("k" : Str), 2), (("one" : Str), 3)]) (t := (.tup [(.nm 2), (.nm 3)])) (i := 1) nd (si_enum rfl fr_enumerate (sa_cons (se_ixB (se_var 0) se_int) sa_nil)) (by kernel_rfl) (fun _ _ _ _ _ => (tg_tup (tg_cons (tg_nm 2 nd) (tg_cons (tg_nm 3 nd) tg_nil)))) (fun _ _ _ _ _ => (sts_one (st_not (st_val (se_callP V_is_element (hr.mono (by decide)) hg passes_no rfl hm_is_element F_is_element.kp b_is_element_2 rfl (fun _ => .nil) (fun _ => .nil) (sa_cons (se_ixB (se_var 0) se_int) (sa_cons (se_var 3) sa_nil))))))) (fun _ _ _ _ _ => (se_var 2)))
  (sb_one (ss_ret (se_if (st_cmp (or_gtA (ru64 hr)) od_gtA (se_callB call_len cd_len rfl fr_len rfl (sa_cons (se_var 1) sa_nil)) se_int) (se_ixB (se_var 1) se_int) se_non))))
theorem sc_tellings_fault : FnScope N_tellings_fault ["counts", "tellings"] (defScope S_tellings_fault) := ⟨rfl, rfl, rfl, by decide +kernel, rfl, by decide +kernel, by decide +kernel⟩
theorem ok_tellings_fault (X : K.In h) (G : h.Ns mainGlobals mg) (c : SaysP fa fn ic tf ex h K) (E : EnvX P K mg base) : ∃ fd, FunD K "tellings_fault" "tellings_fault" (defArgs S_tellings_fault) (defBody S_tellings_fault) (defScope S_tellings_fault) [] [] (He.ga K "tellings_fault") fd ∧ FnV P w K mg base (C K) 5 (He.ga K "tellings_fault") fd ["counts", "tellings"] (m_tellings_fault) := by
  obtain ⟨fd, F⟩ := c.d.def_ 18 (d := d_tellings_fault) rfl
  obtain ⟨fd_is_telling_shape, F_is_telling_shape, V_is_telling_shape⟩ := ok_is_telling_shape (P := P) (w := w) (base := base) X G c E
  have hm_is_telling_shape := He.glo_ok X G (c.d.fact 13 (f := .glo "is_telling_shape") rfl)
  obtain ⟨fd_element_fault, F_element_fault, V_element_fault⟩ := ok_element_fault (P := P) (w := w) (base := base) X G c E
  have hm_element_fault := He.glo_ok X G (c.d.fact 17 (f := .glo "element_fault") rfl)
  have fr_enumerate := He.free_ok X G (c.d.fact 53 (f := .free "enumerate") rfl)
  have b_is_telling_shape_2 : Bnd K fd_is_telling_shape ["counts", "thing"] 2 [] [.a 0, .a 1] [] [] := FunD.bndN F_is_telling_shape fun kV doc pm an cdv ct us ws h1 h3 => match us, ws, h1, h3 with | [u0, u1], [], _, _ => ⟨rfl, rfl⟩
  have b_element_fault_1 : Bnd K fd_element_fault ["telling"] 1 [] [.a 0] [] [] := FunD.bndN F_element_fault fun kV doc pm an cdv ct us ws h1 h3 => match us, ws, h1, h3 with | [u0], [], _, _ => ⟨rfl, rfl⟩
  have nd := sc_tellings_fault.nd
  refine ⟨fd, F, (FnV.of F sc_tellings_fault fun cdv A outer s H E hr hg => ?_).hid tbok_tellings_fault⟩
  exact (sb_cons (ss_for (t := (.tup [(.nm 2), (.nm 3)])) owns_fn (si_enum rfl fr_enumerate (sa_cons (se_var 1) sa_nil)) (tg_tup (tg_cons (tg_nm 2 nd) (tg_cons (tg_nm 3 nd) tg_nil))) (sb_cons (ss_if (st_not (st_val (se_callP V_is_telling_shape (hr.mono (by decide)) hg passes_fn rfl hm_is_telling_shape F_is_telling_shape.kp b_is_telling_shape_2 rfl (fun _ => .nil) (fun _ => .nil) (sa_cons (se_var 0) (sa_cons (se_var 3) sa_nil))))) (sb_one (ss_ret (se_tup (sa_cons se_str (sa_cons (se_var 2) sa_nil))))) sb_nil)
  (sb_cons (ss_set 4 nd (se_callP V_element_fault (hr.mono (by decide)) hg passes_fn rfl hm_element_fault F_element_fault.kp b_element_fault_1 rfl (fun _ => .nil) (fun _ => .nil) (sa_cons (se_var 3) sa_nil)))
  (sb_one (ss_if (st_cmp op_notN od_notN (se_var 4) se_non) (sb_one (ss_ret (se_tup (sa_cons se_str (sa_cons (se_tup (sa_cons (se_var 2) (sa_cons (se_var 4) sa_nil))) sa_nil))))) sb_nil)))))
  (sb_one (ss_ret se_non)))
theorem sc_game_fault : FnScope N_game_fault ["thing"] (defScope S_game_fault) := ⟨rfl, rfl, rfl, by decide +kernel, rfl, by decide +kernel, by decide +kernel⟩
theorem ok_game_fault (X : K.In h) (G : h.Ns mainGlobals mg) (c : SaysP fa fn ic tf ex h K) (E : EnvX P K mg base) : ∃ fd, FunD K "game_fault" "game_fault" (defArgs S_game_fault) (defBody S_game_fault) (defScope S_game_fault) [] [] (He.ga K "game_fault") fd ∧ FnV P w K mg base (C K) 6 (He.ga K "game_fault") fd ["thing"] (m_game_fault) := by
  obtain ⟨fd, F⟩ := c.d.def_ 19 (d := d_game_fault) rfl
  obtain ⟨fd_is_tuple_of, F_is_tuple_of, V_is_tuple_of⟩ := ok_is_tuple_of (P := P) (w := w) (base := base) X G c E
  have hm_is_tuple_of := He.glo_ok X G (c.d.fact 8 (f := .glo "is_tuple_of") rfl)
  obtain ⟨fd_is_counts, F_is_counts, V_is_counts⟩ := ok_is_counts (P := P) (w := w) (base := base) X G c E
  have hm_is_counts := He.glo_ok X G (c.d.fact 11 (f := .glo "is_counts") rfl)
  obtain ⟨fd_tellings_fault, F_tellings_fault, V_tellings_fault⟩ := ok_tellings_fault (P := P) (w := w) (base := base) X G c E
  have hm_tellings_fault := He.glo_ok X G (c.d.fact 18 (f := .glo "tellings_fault") rfl)
  have fr_len := He.free_ok X G (c.d.fact 47 (f := .free "len") rfl)
  have b_is_tuple_of_2 : Bnd K fd_is_tuple_of ["thing", "size"] 2 [] [.a 0, .a 1] [] [] := FunD.bndN F_is_tuple_of fun kV doc pm an cdv ct us ws h1 h3 => match us, ws, h1, h3 with | [u0, u1], [], _, _ => ⟨rfl, rfl⟩
  have b_is_counts_1 : Bnd K fd_is_counts ["thing"] 1 [] [.a 0] [] [] := FunD.bndN F_is_counts fun kV doc pm an cdv ct us ws h1 h3 => match us, ws, h1, h3 with | [u0], [], _, _ => ⟨rfl, rfl⟩
  have b_tellings_fault_2 : Bnd K fd_tellings_fault ["counts", "tellings"] 2 [] [.a 0, .a 1] [] [] := FunD.bndN F_tellings_fault fun kV doc pm an cdv ct us ws h1 h3 => match us, ws, h1, h3 with | [u0, u1], [], _, _ => ⟨rfl, rfl⟩
  have nd := sc_game_fault.nd
  refine ⟨fd, F, (FnV.of F sc_game_fault fun cdv A outer s H E hr hg => ?_).hid tbok_game_fault⟩
  exact (sb_cons (ss_if (st_not (st_val (se_callP V_is_tuple_of (hr.mono (by decide)) hg passes_fn rfl hm_is_tuple_of F_is_tuple_of.kp b_is_tuple_of_2 rfl (fun _ => .nil) (fun _ => .nil) (sa_cons (se_var 0) (sa_cons se_int sa_nil))))) (sb_one (ss_ret (se_tup (sa_cons se_str (sa_cons (se_neg se_int) sa_nil))))) sb_nil)
  (sb_cons (ss_if (st_not (st_val (se_callP V_is_counts (hr.mono (by decide)) hg passes_fn rfl hm_is_counts F_is_counts.kp b_is_counts_1 rfl (fun _ => .nil) (fun _ => .nil) (sa_cons (se_ixB (se_var 0) se_int) sa_nil)))) (sb_one (ss_ret (se_tup (sa_cons se_str (sa_cons (se_neg se_int) sa_nil))))) sb_nil)
  (sb_cons (ss_if (st_not (st_val (se_callP V_is_tuple_of (hr.mono (by decide)) hg passes_fn rfl hm_is_tuple_of F_is_tuple_of.kp b_is_tuple_of_2 rfl (fun _ => .nil) (fun _ => .nil) (sa_cons (se_ixB (se_var 0) se_int) (sa_cons (se_callB call_len cd_len rfl fr_len rfl (sa_cons (se_ixB (se_var 0) se_int) sa_nil)) sa_nil))))) (sb_one (ss_ret (se_tup (sa_cons se_str (sa_cons (se_neg se_int) sa_nil))))) sb_nil)
  (sb_one (ss_ret (se_callP V_tellings_fault (hr.mono (by decide)) hg passes_fn rfl hm_tellings_fault F_tellings_fault.kp b_tellings_fault_2 rfl (fun _ => .nil) (fun _ => .nil) (sa_cons (se_ixB (se_var 0) se_int) (sa_cons (se_ixB (se_var 0) se_int) sa_nil))))))))
theorem sc_want_game : FnScope N_want_game ["game", "name"] (defScope S_want_game) := ⟨rfl, rfl, rfl, by decide +kernel, rfl, by decide +kernel, by decide +kernel⟩
theorem ok_want_game (X : K.In h) (G : h.Ns mainGlobals mg) (c : SaysP fa fn ic tf ex h K) (E : EnvX P K mg base) : ∃ fd, FunD K "want_game" "want_game" (defArgs S_want_game) (defBody S_want_game) (defScope S_want_game) [.str ("game" : Str)] [] (He.ga K "want_game") fd ∧ FnV P w K mg base (C K) 7 (He.ga K "want_game") fd ["game", "name"] (m_want_game) := by
  obtain ⟨fd, F⟩ := c.d.def_ 20 (d := d_want_game) rfl
  obtain ⟨fd_want, F_want, V_want⟩ := ok_want (P := P) (w := w) (base := base) X G c E
  have hm_want := He.glo_ok X G (c.d.fact 7 (f := .glo "want") rfl)
  obtain ⟨fd_game_fault, F_game_fault, V_game_fault⟩ := ok_game_fault (P := P) (w := w) (base := base) X G c E
  have hm_game_fault := He.glo_ok X G (c.d.fact 19 (f := .glo "game_fault") rfl)
  have b_want_2 : Bnd K fd_want ["is_right", "name", "place"] 2 [] [.a 0, .a 1, .d 0] [.int (-1)] [] := FunD.bndD F_want (by simp) fun T kV doc pm an cdv ct us its ws h1 h2 h3 => match us, its, ws, h1, h2, h3 with | [u0, u1], [d0], [], _, _, _ => ⟨⟨_, rfl, rfl⟩, rfl⟩
  have b_game_fault_1 : Bnd K fd_game_fault ["thing"] 1 [] [.a 0] [] [] := FunD.bndN F_game_fault fun kV doc pm an cdv ct us ws h1 h3 => match us, ws, h1, h3 with | [u0], [], _, _ => ⟨rfl, rfl⟩
  have nd := sc_want_game.nd
  refine ⟨fd, F, (FnV.of F sc_want_game fun cdv A outer s H E hr hg => ?_).hid tbok_want_game⟩
  exact (sb_one (ss_expr (se_call V_want (hr.mono (by decide)) hg passes_fn rfl hm_want F_want.kp b_want_2 (fun _ => (.cons (.int _) .nil)) (fun _ => .nil) (sa_cons (se_cmp op_isN od_isN (se_callP V_game_fault (hr.mono (by decide)) hg passes_fn rfl hm_game_fault F_game_fault.kp b_game_fault_1 rfl (fun _ => .nil) (fun _ => .nil) (sa_cons (se_var 0) sa_nil)) se_non) (sa_cons (se_var 1) sa_nil)))))
theorem sc_is_index : FnScope N_is_index ["many", "thing"] (defScope S_is_index) := ⟨rfl, rfl, rfl, by decide +kernel, rfl, by decide +kernel, by decide +kernel⟩
theorem ok_is_index (X : K.In h) (G : h.Ns mainGlobals mg) (c : SaysP fa fn ic tf ex h K) (E : EnvX P K mg base) : ∃ fd, FunD K "is_index" "is_index" (defArgs S_is_index) (defBody S_is_index) (defScope S_is_index) [] [] (He.ga K "is_index") fd ∧ FnV P w K mg base (C K) 3 (He.ga K "is_index") fd ["many", "thing"] (m_is_index) := by
  obtain ⟨fd, F⟩ := c.d.def_ 21 (d := d_is_index) rfl
  obtain ⟨fd_is_number, F_is_number, V_is_number⟩ := ok_is_number (P := P) (w := w) (base := base) X G c E
  have hm_is_number := He.glo_ok X G (c.d.fact 14 (f := .glo "is_number") rfl)
  have b_is_number_1 : Bnd K fd_is_number ["thing"] 1 [] [.a 0] [] [] := FunD.bndN F_is_number fun kV doc pm an cdv ct us ws h1 h3 => match us, ws, h1, h3 with | [u0], [], _, _ => ⟨rfl, rfl⟩
  have nd := sc_is_index.nd
  refine ⟨fd, F, (FnV.of F sc_is_index fun cdv A outer s H E hr hg => ?_).hid tbok_is_index⟩
  exact (sb_one (ss_ret (se_and (se_callP V_is_number (hr.mono (by decide)) hg passes_fn rfl hm_is_number F_is_number.kp b_is_number_1 rfl (fun _ => .nil) (fun _ => .nil) (sa_cons (se_var 1) sa_nil)) (se_one (se_cmp (or_ltA (ru64 hr)) od_ltA (se_var 1) (se_var 0))))))
theorem sc_are_ascending : FnScope N_are_ascending ["things"] (defScope S_are_ascending) := ⟨rfl, rfl, rfl, by decide +kernel, rfl, by decide +kernel, by decide +kernel⟩
theorem ok_are_ascending (X : K.In h) (G : h.Ns mainGlobals mg) (c : SaysP fa fn ic tf ex h K) (E : EnvX P K mg base) : ∃ fd, FunD K "are_ascending" "are_ascending" (defArgs S_are_ascending) (defBody S_are_ascending) (defScope S_are_ascending) [] [] (He.ga K "are_ascending") fd ∧ FnV P w K mg base (C K) 1 (He.ga K "are_ascending") fd ["things"] (m_are_ascending) := by
  obtain ⟨fd, F⟩ := c.d.def_ 22 (d := d_are_ascending) rfl
  have fr_all := He.free_ok X G (c.d.fact 51 (f := .free "all") rfl)
  have fr_zip := He.free_ok X G (c.d.fact 55 (f := .free "zip") rfl)
  have nd := sc_are_ascending.nd
  refine ⟨fd, F, (FnV.of F sc_are_ascending fun cdv A outer s H E hr hg => ?_).hid tbok_are_ascending⟩
  exact (sb_one (ss_ret (se_callB (cr_all rfl) cd_all rfl fr_all rfl (sa_cons (se_lc (own := [(("one" : Str), 1), (("other" : Str), 2)]) (t := (.tup [(.nm 1), (.nm 2)]))  nd (si_zip rfl fr_zip (sa_cons (se_var 0) (sa_cons (se_slA false (se_var 0) (so_some se_int) so_none) sa_nil))) (by kernel_rfl) (fun _ _ _ _ _ => (tg_tup (tg_cons (tg_nm 1 nd) (tg_cons (tg_nm 2 nd) tg_nil)))) (fun _ _ _ _ _ => sts_nil) (fun _ _ _ _ _ => (se_cmp (or_ltA (ru64 hr)) od_ltA (se_var 1) (se_var 2)))) sa_nil))))
theorem sc_is_set_below : FnScope N_is_set_below ["many", "thing"] (defScope S_is_set_below) := ⟨rfl, rfl, rfl, by decide +kernel, rfl, by decide +kernel, by decide +kernel⟩
theorem ok_is_set_below (X : K.In h) (G : h.Ns mainGlobals mg) (c : SaysP fa fn ic tf ex h K) (E : EnvX P K mg base) : ∃ fd, FunD K "is_set_below" "is_set_below" (defArgs S_is_set_below) (defBody S_is_set_below) (defScope S_is_set_below) [] [] (He.ga K "is_set_below") fd ∧ FnV P w K mg base (C K) 4 (He.ga K "is_set_below") fd ["many", "thing"] (m_is_set_below) := by
  obtain ⟨fd, F⟩ := c.d.def_ 23 (d := d_is_set_below) rfl
  obtain ⟨fd_is_index, F_is_index, V_is_index⟩ := ok_is_index (P := P) (w := w) (base := base) X G c E
  have hm_is_index := He.glo_ok X G (c.d.fact 21 (f := .glo "is_index") rfl)
  obtain ⟨fd_are_ascending, F_are_ascending, V_are_ascending⟩ := ok_are_ascending (P := P) (w := w) (base := base) X G c E
  have hm_are_ascending := He.glo_ok X G (c.d.fact 22 (f := .glo "are_ascending") rfl)
  have fr_isinstance := He.free_ok X G (c.d.fact 50 (f := .free "isinstance") rfl)
  have fr_tuple := He.free_ok X G (c.d.fact 48 (f := .free "tuple") rfl)
  have fr_all := He.free_ok X G (c.d.fact 51 (f := .free "all") rfl)
  have b_is_index_2 : Bnd K fd_is_index ["many", "thing"] 2 [] [.a 0, .a 1] [] [] := FunD.bndN F_is_index fun kV doc pm an cdv ct us ws h1 h3 => match us, ws, h1, h3 with | [u0, u1], [], _, _ => ⟨rfl, rfl⟩
  have b_are_ascending_1 : Bnd K fd_are_ascending ["things"] 1 [] [.a 0] [] [] := FunD.bndN F_are_ascending fun kV doc pm an cdv ct us ws h1 h3 => match us, ws, h1, h3 with | [u0], [], _, _ => ⟨rfl, rfl⟩
  have nd := sc_is_set_below.nd
  refine ⟨fd, F, (FnV.of F sc_is_set_below fun cdv A outer s H E hr hg => ?_).hid tbok_is_set_below⟩
  exact (sb_one (ss_ret (se_and (se_isi is_tuple rfl fr_isinstance rfl fr_tuple rfl (se_var 1)) (se_and (se_callB (cr_all rfl) cd_all rfl fr_all rfl (sa_cons (se_lc (own := [(("one" : Str), 2)]) (t := (.nm 2))  nd (si_seqS (se_var 1)) (by kernel_rfl) (fun _ _ _ _ _ => (tg_nm 2 nd)) (fun _ _ _ _ _ => sts_nil) (fun _ _ _ _ _ => (se_callP V_is_index (hr.mono (by decide)) hg passes_no rfl hm_is_index F_is_index.kp b_is_index_2 rfl (fun _ => .nil) (fun _ => .nil) (sa_cons (se_var 0) (sa_cons (se_var 2) sa_nil))))) sa_nil)) (se_one (se_callP V_are_ascending (hr.mono (by decide)) hg passes_fn rfl hm_are_ascending F_are_ascending.kp b_are_ascending_1 rfl (fun _ => .nil) (fun _ => .nil) (sa_cons (se_var 1) sa_nil)))))))
theorem sc_is_left_by : FnScope N_is_left_by ["game", "thing"] (defScope S_is_left_by) := ⟨rfl, rfl, rfl, by decide +kernel, rfl, by decide +kernel, by decide +kernel⟩
theorem ok_is_left_by (X : K.In h) (G : h.Ns mainGlobals mg) (c : SaysP fa fn ic tf ex h K) (E : EnvX P K mg base) : ∃ fd, FunD K "is_left_by" "is_left_by" (defArgs S_is_left_by) (defBody S_is_left_by) (defScope S_is_left_by) [] [] (He.ga K "is_left_by") fd ∧ FnV P w K mg base (C K) 5 (He.ga K "is_left_by") fd ["game", "thing"] (m_is_left_by) := by
  obtain ⟨fd, F⟩ := c.d.def_ 24 (d := d_is_left_by) rfl
  obtain ⟨fd_is_tuple_of, F_is_tuple_of, V_is_tuple_of⟩ := ok_is_tuple_of (P := P) (w := w) (base := base) X G c E
  have hm_is_tuple_of := He.glo_ok X G (c.d.fact 8 (f := .glo "is_tuple_of") rfl)
  obtain ⟨fd_is_set_below, F_is_set_below, V_is_set_below⟩ := ok_is_set_below (P := P) (w := w) (base := base) X G c E
  have hm_is_set_below := He.glo_ok X G (c.d.fact 23 (f := .glo "is_set_below") rfl)
  have fr_len := He.free_ok X G (c.d.fact 47 (f := .free "len") rfl)
  have fr_all := He.free_ok X G (c.d.fact 51 (f := .free "all") rfl)
  have fr_zip := He.free_ok X G (c.d.fact 55 (f := .free "zip") rfl)
  have b_is_tuple_of_2 : Bnd K fd_is_tuple_of ["thing", "size"] 2 [] [.a 0, .a 1] [] [] := FunD.bndN F_is_tuple_of fun kV doc pm an cdv ct us ws h1 h3 => match us, ws, h1, h3 with | [u0, u1], [], _, _ => ⟨rfl, rfl⟩
  have b_is_set_below_2 : Bnd K fd_is_set_below ["many", "thing"] 2 [] [.a 0, .a 1] [] [] := FunD.bndN F_is_set_below fun kV doc pm an cdv ct us ws h1 h3 => match us, ws, h1, h3 with | [u0, u1], [], _, _ => ⟨rfl, rfl⟩
  have nd := sc_is_left_by.nd
  refine ⟨fd, F, (FnV.of F sc_is_left_by fun cdv A outer s H E hr hg => ?_).hid tbok_is_left_by⟩
  exact (sb_cons (ss_if (st_not (st_val (se_callP V_is_tuple_of (hr.mono (by decide)) hg passes_fn rfl hm_is_tuple_of F_is_tuple_of.kp b_is_tuple_of_2 rfl (fun _ => .nil) (fun _ => .nil) (sa_cons (se_var 1) (sa_cons (se_callB call_len cd_len rfl fr_len rfl (sa_cons (se_ixB (se_var 0) se_int) sa_nil)) sa_nil))))) (sb_one (ss_ret se_bl)) sb_nil)
  (sb_one (ss_ret (se_callB (cr_all rfl) cd_all rfl fr_all rfl (sa_cons (se_lc (own := [(("many" : Str), 2), (("one" : Str), 3)]) (t := (.tup [(.nm 2), (.nm 3)]))  nd (si_zip rfl fr_zip (sa_cons (se_ixB (se_var 0) se_int) (sa_cons (se_var 1) sa_nil))) (by kernel_rfl) (fun _ _ _ _ _ => (tg_tup (tg_cons (tg_nm 2 nd) (tg_cons (tg_nm 3 nd) tg_nil)))) (fun _ _ _ _ _ => sts_nil) (fun _ _ _ _ _ => (se_and (se_callP V_is_set_below (hr.mono (by decide)) hg passes_no rfl hm_is_set_below F_is_set_below.kp b_is_set_below_2 rfl (fun _ => .nil) (fun _ => .nil) (sa_cons (se_var 2) (sa_cons (se_var 3) sa_nil))) (se_one (se_cmp (or_gtA (ru64 hr)) od_gtA (se_callB call_len cd_len rfl fr_len rfl (sa_cons (se_var 3) sa_nil)) se_int))))) sa_nil)))))
theorem sc_want_left : FnScope N_want_left ["game", "left"] (defScope S_want_left) := ⟨rfl, rfl, rfl, by decide +kernel, rfl, by decide +kernel, by decide +kernel⟩
theorem ok_want_left (X : K.In h) (G : h.Ns mainGlobals mg) (c : SaysP fa fn ic tf ex h K) (E : EnvX P K mg base) : ∃ fd, FunD K "want_left" "want_left" (defArgs S_want_left) (defBody S_want_left) (defScope S_want_left) [] [] (He.ga K "want_left") fd ∧ FnV P w K mg base (C K) 6 (He.ga K "want_left") fd ["game", "left"] (m_want_left) := by
  obtain ⟨fd, F⟩ := c.d.def_ 25 (d := d_want_left) rfl
  obtain ⟨fd_want, F_want, V_want⟩ := ok_want (P := P) (w := w) (base := base) X G c E
  have hm_want := He.glo_ok X G (c.d.fact 7 (f := .glo "want") rfl)
  obtain ⟨fd_is_left_by, F_is_left_by, V_is_left_by⟩ := ok_is_left_by (P := P) (w := w) (base := base) X G c E
  have hm_is_left_by := He.glo_ok X G (c.d.fact 24 (f := .glo "is_left_by") rfl)
  have b_want_2 : Bnd K fd_want ["is_right", "name", "place"] 2 [] [.a 0, .a 1, .d 0] [.int (-1)] [] := FunD.bndD F_want (by simp) fun T kV doc pm an cdv ct us its ws h1 h2 h3 => match us, its, ws, h1, h2, h3 with | [u0, u1], [d0], [], _, _, _ => ⟨⟨_, rfl, rfl⟩, rfl⟩
  have b_is_left_by_2 : Bnd K fd_is_left_by ["game", "thing"] 2 [] [.a 0, .a 1] [] [] := FunD.bndN F_is_left_by fun kV doc pm an cdv ct us ws h1 h3 => match us, ws, h1, h3 with | [u0, u1], [], _, _ => ⟨rfl, rfl⟩
  have nd := sc_want_left.nd
  refine ⟨fd, F, (FnV.of F sc_want_left fun cdv A outer s H E hr hg => ?_).hid tbok_want_left⟩
  exact (sb_one (ss_expr (se_call V_want (hr.mono (by decide)) hg passes_fn rfl hm_want F_want.kp b_want_2 (fun _ => (.cons (.int _) .nil)) (fun _ => .nil) (sa_cons (se_or (se_cmp op_isN od_isN (se_var 1) se_non) (se_one (se_callP V_is_left_by (hr.mono (by decide)) hg passes_fn rfl hm_is_left_by F_is_left_by.kp b_is_left_by_2 rfl (fun _ => .nil) (fun _ => .nil) (sa_cons (se_var 0) (sa_cons (se_var 1) sa_nil))))) (sa_cons se_str sa_nil)))))
theorem sc_all_by : FnScope N_all_by ["counts"] (defScope S_all_by) := ⟨rfl, rfl, rfl, by decide +kernel, rfl, by decide +kernel, by decide +kernel⟩
theorem ok_all_by (X : K.In h) (G : h.Ns mainGlobals mg) (c : SaysP fa fn ic tf ex h K) (E : EnvX P K mg base) : ∃ fd, FunD K "all_by" "all_by" (defArgs S_all_by) (defBody S_all_by) (defScope S_all_by) [] [] (He.ga K "all_by") fd ∧ FnV P w K mg base (C K) 1 (He.ga K "all_by") fd ["counts"] (m_all_by) := by
  obtain ⟨fd, F⟩ := c.d.def_ 26 (d := d_all_by) rfl
  have fr_tuple := He.free_ok X G (c.d.fact 48 (f := .free "tuple") rfl)
  have fr_range := He.free_ok X G (c.d.fact 56 (f := .free "range") rfl)
  have nd := sc_all_by.nd
  refine ⟨fd, F, (FnV.of F sc_all_by fun cdv A outer s H E hr hg => ?_).hid tbok_all_by⟩
  exact (sb_one (ss_ret (se_callTy call_tuple_of cd_tuple rfl fr_tuple rfl (sa_cons (se_lc (own := [(("many" : Str), 1)]) (t := (.nm 1))  nd (si_seqS (se_var 0)) (by kernel_rfl) (fun _ _ _ _ _ => (tg_nm 1 nd)) (fun _ _ _ _ _ => sts_nil) (fun _ _ _ _ _ => (se_tupRg1 rfl fr_tuple rfl fr_range (se_var 1)))) sa_nil))))
theorem sc_left_or_all : FnScope N_left_or_all ["game", "left"] (defScope S_left_or_all) := ⟨rfl, rfl, rfl, by decide +kernel, rfl, by decide +kernel, by decide +kernel⟩
theorem ok_left_or_all (X : K.In h) (G : h.Ns mainGlobals mg) (c : SaysP fa fn ic tf ex h K) (E : EnvX P K mg base) : ∃ fd, FunD K "left_or_all" "left_or_all" (defArgs S_left_or_all) (defBody S_left_or_all) (defScope S_left_or_all) [] [] (He.ga K "left_or_all") fd ∧ FnV P w K mg base (C K) 2 (He.ga K "left_or_all") fd ["game", "left"] (m_left_or_all) := by
  obtain ⟨fd, F⟩ := c.d.def_ 27 (d := d_left_or_all) rfl
  obtain ⟨fd_all_by, F_all_by, V_all_by⟩ := ok_all_by (P := P) (w := w) (base := base) X G c E
  have hm_all_by := He.glo_ok X G (c.d.fact 26 (f := .glo "all_by") rfl)
  have b_all_by_1 : Bnd K fd_all_by ["counts"] 1 [] [.a 0] [] [] := FunD.bndN F_all_by fun kV doc pm an cdv ct us ws h1 h3 => match us, ws, h1, h3 with | [u0], [], _, _ => ⟨rfl, rfl⟩
  have nd := sc_left_or_all.nd
  refine ⟨fd, F, (FnV.of F sc_left_or_all fun cdv A outer s H E hr hg => ?_).hid tbok_left_or_all⟩
  exact (sb_one (ss_ret (se_if (st_cmp op_isN od_isN (se_var 1) se_non) (se_callP V_all_by (hr.mono (by decide)) hg passes_fn rfl hm_all_by F_all_by.kp b_all_by_1 rfl (fun _ => .nil) (fun _ => .nil) (sa_cons (se_ixB (se_var 0) se_int) sa_nil)) (se_var 1))))
theorem sc_others_by : FnScope N_others_by ["counts", "player"] (defScope S_others_by) := ⟨rfl, rfl, rfl, by decide +kernel, rfl, by decide +kernel, by decide +kernel⟩
theorem ok_others_by (X : K.In h) (G : h.Ns mainGlobals mg) (c : SaysP fa fn ic tf ex h K) (E : EnvX P K mg base) : ∃ fd, FunD K "others_by" "others_by" (defArgs S_others_by) (defBody S_others_by) (defScope S_others_by) [] [] (He.ga K "others_by") fd ∧ FnV P w K mg base (C K) 1 (He.ga K "others_by") fd ["counts", "player"] (m_others_by) := by
  obtain ⟨fd, F⟩ := c.d.def_ 28 (d := d_others_by) rfl
  have nd := sc_others_by.nd
  refine ⟨fd, F, (FnV.of F sc_others_by fun cdv A outer s H E hr hg => ?_).hid tbok_others_by⟩
  exact (sb_one (ss_ret (se_tup (sa_star (se_slA false (se_var 0) so_none (so_some (se_var 1))) (sa_star (se_slA false (se_var 0) (so_some (se_bin or_add (od_add (ob := false)) (se_var 1) se_int)) so_none) sa_nil)))))
theorem sc_left_cases_by : FnScope N_left_cases_by ["game", "player", "left"] (defScope S_left_cases_by) := ⟨rfl, rfl, rfl, by decide +kernel, rfl, by decide +kernel, by decide +kernel⟩
theorem ok_left_cases_by (X : K.In h) (G : h.Ns mainGlobals mg) (c : SaysP fa fn ic tf ex h K) (E : EnvX P K mg base) : ∃ fd, FunD K "left_cases_by" "left_cases_by" (defArgs S_left_cases_by) (defBody S_left_cases_by) (defScope S_left_cases_by) [] [] (He.ga K "left_cases_by") fd ∧ FnV P w K mg base (C K) 3 (He.ga K "left_cases_by") fd ["game", "player", "left"] (m_left_cases_by) := by
  obtain ⟨fd, F⟩ := c.d.def_ 29 (d := d_left_cases_by) rfl
  obtain ⟨fd_others_by, F_others_by, V_others_by⟩ := ok_others_by (P := P) (w := w) (base := base) X G c E
  have hm_others_by := He.glo_ok X G (c.d.fact 28 (f := .glo "others_by") rfl)
  obtain ⟨fd_left_or_all, F_left_or_all, V_left_or_all⟩ := ok_left_or_all (P := P) (w := w) (base := base) X G c E
  have hm_left_or_all := He.glo_ok X G (c.d.fact 27 (f := .glo "left_or_all") rfl)
  have fr_tuple := He.free_ok X G (c.d.fact 48 (f := .free "tuple") rfl)
  have b_others_by_2 : Bnd K fd_others_by ["counts", "player"] 2 [] [.a 0, .a 1] [] [] := FunD.bndN F_others_by fun kV doc pm an cdv ct us ws h1 h3 => match us, ws, h1, h3 with | [u0, u1], [], _, _ => ⟨rfl, rfl⟩
  have b_left_or_all_2 : Bnd K fd_left_or_all ["game", "left"] 2 [] [.a 0, .a 1] [] [] := FunD.bndN F_left_or_all fun kV doc pm an cdv ct us ws h1 h3 => match us, ws, h1, h3 with | [u0, u1], [], _, _ => ⟨rfl, rfl⟩
  have nd := sc_left_cases_by.nd
  refine ⟨fd, F, (FnV.of F sc_left_cases_by fun cdv A outer s H E hr hg => ?_).hid tbok_left_cases_by⟩
  exact (sb_cons (ss_set 3 nd (se_lst false (sa_cons (se_tup sa_nil) sa_nil)))
  (sb_cons (ss_for (t := (.nm 4)) owns_fn (si_seqS (se_callP V_others_by (hr.mono (by decide)) hg passes_fn rfl hm_others_by F_others_by.kp b_others_by_2 rfl (fun _ => .nil) (fun _ => .nil) (sa_cons (se_callP V_left_or_all (hr.mono (by decide)) hg passes_fn rfl hm_left_or_all F_left_or_all.kp b_left_or_all_2 rfl (fun _ => .nil) (fun _ => .nil) (sa_cons (se_var 0) (sa_cons (se_var 2) sa_nil))) (sa_cons (se_var 1) sa_nil)))) (tg_nm 4 nd) (sb_one (ss_setLc2 (own := [(("case" : Str), 5), (("choice" : Str), 6)]) (t := (.nm 5)) (t1 := (.nm 6)) (vs1 := [6]) (i := 3) nd (si_seqS (se_var 3)) (by kernel_rfl) (by decide) (fun _ _ _ _ _ => (tg_nm 5 nd)) (fun _ _ _ _ _ => sts_nil) (fun _ _ _ _ _ => (si_seqS (se_var 4))) (fun _ _ _ _ _ => (tg_nm 6 nd)) (fun _ _ _ _ _ => sts_nil) (fun _ _ _ _ _ => (se_tup (sa_star (se_var 5) (sa_cons (se_var 6) sa_nil)))))))
  (sb_one (ss_ret (se_callTy call_tuple_of cd_tuple rfl fr_tuple rfl (sa_cons (se_var 3) sa_nil))))))
theorem sc_spot_by : FnScope N_spot_by ["counts", "cell"] (defScope S_spot_by) := ⟨rfl, rfl, rfl, by decide +kernel, rfl, by decide +kernel, by decide +kernel⟩
theorem ok_spot_by (X : K.In h) (G : h.Ns mainGlobals mg) (c : SaysP fa fn ic tf ex h K) (E : EnvX P K mg base) : ∃ fd, FunD K "spot_by" "spot_by" (defArgs S_spot_by) (defBody S_spot_by) (defScope S_spot_by) [] [] (He.ga K "spot_by") fd ∧ FnV P w K mg base (C K) 1 (He.ga K "spot_by") fd ["counts", "cell"] (m_spot_by) := by
  obtain ⟨fd, F⟩ := c.d.def_ 30 (d := d_spot_by) rfl
  have fr_zip := He.free_ok X G (c.d.fact 55 (f := .free "zip") rfl)
  have nd := sc_spot_by.nd
  refine ⟨fd, F, (FnV.of F sc_spot_by fun cdv A outer s H E hr hg => ?_).hid tbok_spot_by⟩
  exact (sb_cons (ss_set 2 nd se_int)
  (sb_cons (ss_for (t := (.tup [(.nm 3), (.nm 4)])) owns_fn (si_zip rfl fr_zip (sa_cons (se_var 0) (sa_cons (se_var 1) sa_nil))) (tg_tup (tg_cons (tg_nm 3 nd) (tg_cons (tg_nm 4 nd) tg_nil))) (sb_one (ss_set 2 nd (se_bin or_add (od_add (ob := false)) (se_bin or_mul (od_mul (ob := false)) (se_var 2) (se_var 3)) (se_var 4)))))
  (sb_one (ss_ret (se_var 2)))))
theorem sc_told_by : FnScope N_told_by ["game", "player", "cell"] (defScope S_told_by) := ⟨rfl, rfl, rfl, by decide +kernel, rfl, by decide +kernel, by decide +kernel⟩
theorem ok_told_by (X : K.In h) (G : h.Ns mainGlobals mg) (c : SaysP fa fn ic tf ex h K) (E : EnvX P K mg base) : ∃ fd, FunD K "told_by" "told_by" (defArgs S_told_by) (defBody S_told_by) (defScope S_told_by) [] [] (He.ga K "told_by") fd ∧ FnV P w K mg base (C K) 2 (He.ga K "told_by") fd ["game", "player", "cell"] (m_told_by) := by
  obtain ⟨fd, F⟩ := c.d.def_ 31 (d := d_told_by) rfl
  obtain ⟨fd_spot_by, F_spot_by, V_spot_by⟩ := ok_spot_by (P := P) (w := w) (base := base) X G c E
  have hm_spot_by := He.glo_ok X G (c.d.fact 30 (f := .glo "spot_by") rfl)
  have b_spot_by_2 : Bnd K fd_spot_by ["counts", "cell"] 2 [] [.a 0, .a 1] [] [] := FunD.bndN F_spot_by fun kV doc pm an cdv ct us ws h1 h3 => match us, ws, h1, h3 with | [u0, u1], [], _, _ => ⟨rfl, rfl⟩
  have nd := sc_told_by.nd
  refine ⟨fd, F, (FnV.of F sc_told_by fun cdv A outer s H E hr hg => ?_).hid tbok_told_by⟩
  exact (sb_one (ss_ret (se_ixB (se_ixB (se_ixB (se_ixB (se_var 0) se_int) (se_var 1)) se_int) (se_callP V_spot_by (hr.mono (by decide)) hg passes_fn rfl hm_spot_by F_spot_by.kp b_spot_by_2 rfl (fun _ => .nil) (fun _ => .nil) (sa_cons (se_ixB (se_var 0) se_int) (sa_cons (se_var 2) sa_nil))))))
theorem sc_cell_by : FnScope N_cell_by ["player", "choice", "case"] (defScope S_cell_by) := ⟨rfl, rfl, rfl, by decide +kernel, rfl, by decide +kernel, by decide +kernel⟩
theorem ok_cell_by (X : K.In h) (G : h.Ns mainGlobals mg) (c : SaysP fa fn ic tf ex h K) (E : EnvX P K mg base) : ∃ fd, FunD K "cell_by" "cell_by" (defArgs S_cell_by) (defBody S_cell_by) (defScope S_cell_by) [] [] (He.ga K "cell_by") fd ∧ FnV P w K mg base (C K) 1 (He.ga K "cell_by") fd ["player", "choice", "case"] (m_cell_by) := by
  obtain ⟨fd, F⟩ := c.d.def_ 32 (d := d_cell_by) rfl
  have nd := sc_cell_by.nd
  refine ⟨fd, F, (FnV.of F sc_cell_by fun cdv A outer s H E hr hg => ?_).hid tbok_cell_by⟩
  exact (sb_one (ss_ret (se_tup (sa_star (se_slA false (se_var 2) so_none (so_some (se_var 0))) (sa_cons (se_var 1) (sa_star (se_slA false (se_var 2) (so_some (se_var 0)) so_none) sa_nil))))))
theorem sc_told_twice : FnScope N_told_twice ["game", "player", "one", "other", "left"] (defScope S_told_twice) := ⟨rfl, rfl, rfl, by decide +kernel, rfl, by decide +kernel, by decide +kernel⟩
theorem ok_told_twice (X : K.In h) (G : h.Ns mainGlobals mg) (c : SaysP fa fn ic tf ex h K) (E : EnvX P K mg base) : ∃ fd, FunD K "told_twice" "told_twice" (defArgs S_told_twice) (defBody S_told_twice) (defScope S_told_twice) [] [] (He.ga K "told_twice") fd ∧ FnV P w K mg base (C K) 4 (He.ga K "told_twice") fd ["game", "player", "one", "other", "left"] (m_told_twice) := by
  obtain ⟨fd, F⟩ := c.d.def_ 33 (d := d_told_twice) rfl
  obtain ⟨fd_left_cases_by, F_left_cases_by, V_left_cases_by⟩ := ok_left_cases_by (P := P) (w := w) (base := base) X G c E
  have hm_left_cases_by := He.glo_ok X G (c.d.fact 29 (f := .glo "left_cases_by") rfl)
  obtain ⟨fd_told_by, F_told_by, V_told_by⟩ := ok_told_by (P := P) (w := w) (base := base) X G c E
  have hm_told_by := He.glo_ok X G (c.d.fact 31 (f := .glo "told_by") rfl)
  obtain ⟨fd_cell_by, F_cell_by, V_cell_by⟩ := ok_cell_by (P := P) (w := w) (base := base) X G c E
  have hm_cell_by := He.glo_ok X G (c.d.fact 32 (f := .glo "cell_by") rfl)
  have b_left_cases_by_3 : Bnd K fd_left_cases_by ["game", "player", "left"] 3 [] [.a 0, .a 1, .a 2] [] [] := FunD.bndN F_left_cases_by fun kV doc pm an cdv ct us ws h1 h3 => match us, ws, h1, h3 with | [u0, u1, u2], [], _, _ => ⟨rfl, rfl⟩
  have b_told_by_3 : Bnd K fd_told_by ["game", "player", "cell"] 3 [] [.a 0, .a 1, .a 2] [] [] := FunD.bndN F_told_by fun kV doc pm an cdv ct us ws h1 h3 => match us, ws, h1, h3 with | [u0, u1, u2], [], _, _ => ⟨rfl, rfl⟩
  have b_cell_by_3 : Bnd K fd_cell_by ["player", "choice", "case"] 3 [] [.a 0, .a 1, .a 2] [] [] := FunD.bndN F_cell_by fun kV doc pm an cdv ct us ws h1 h3 => match us, ws, h1, h3 with | [u0, u1, u2], [], _, _ => ⟨rfl, rfl⟩
  have nd := sc_told_twice.nd
  refine ⟨fd, F, (FnV.of F sc_told_twice fun cdv A outer s H E hr hg => ?_).hid tbok_told_twice⟩
  exact (sb_cons (ss_set 5 nd (se_callP V_left_cases_by (hr.mono (by decide)) hg passes_fn rfl hm_left_cases_by F_left_cases_by.kp b_left_cases_by_3 rfl (fun _ => .nil) (fun _ => .nil) (sa_cons (se_var 0) (sa_cons (se_var 1) (sa_cons (se_var 4) sa_nil)))))
  (sb_one (ss_ret (se_lc (own := [(("case" : Str), 6)]) (t := (.nm 6))  nd (si_seqS (se_var 5)) (by kernel_rfl) (fun _ _ _ _ _ => (tg_nm 6 nd)) (fun _ _ _ _ _ => sts_nil) (fun _ _ _ _ _ => (se_lc (own := [(("choice" : Str), 7)]) (t := (.nm 7))  nd (si_seqS (se_tup (sa_cons (se_var 2) (sa_cons (se_var 3) sa_nil)))) (by kernel_rfl) (fun _ _ _ _ _ => (tg_nm 7 nd)) (fun _ _ _ _ _ => sts_nil) (fun _ _ _ _ _ => (se_callP V_told_by (hr.mono (by decide)) hg passes_no rfl hm_told_by F_told_by.kp b_told_by_3 rfl (fun _ => .nil) (fun _ => .nil) (sa_cons (se_var 0) (sa_cons (se_var 1) (sa_cons (se_callP V_cell_by (hr.mono (by decide)) hg passes_no rfl hm_cell_by F_cell_by.kp b_cell_by_3 rfl (fun _ => .nil) (fun _ => .nil) (sa_cons (se_var 1) (sa_cons (se_var 7) (sa_cons (se_var 6) sa_nil)))) sa_nil)))))))))))
theorem sc_leads_by : FnScope N_leads_by ["game", "player", "one", "other", "left"] (defScope S_leads_by) := ⟨rfl, rfl, rfl, by decide +kernel, rfl, by decide +kernel, by decide +kernel⟩
theorem ok_leads_by (X : K.In h) (G : h.Ns mainGlobals mg) (c : SaysP fa fn ic tf ex h K) (E : EnvX P K mg base) : ∃ fd, FunD K "leads_by" "leads_by" (defArgs S_leads_by) (defBody S_leads_by) (defScope S_leads_by) [] [] (He.ga K "leads_by") fd ∧ FnV P w K mg base (C K) 5 (He.ga K "leads_by") fd ["game", "player", "one", "other", "left"] (m_leads_by) := by
  obtain ⟨fd, F⟩ := c.d.def_ 34 (d := d_leads_by) rfl
  obtain ⟨fd_told_twice, F_told_twice, V_told_twice⟩ := ok_told_twice (P := P) (w := w) (base := base) X G c E
  have hm_told_twice := He.glo_ok X G (c.d.fact 33 (f := .glo "told_twice") rfl)
  obtain ⟨_, gs_BOUNDS⟩ := He.str_ok X G (c.d.fact 61 (f := .str "BOUNDS" ("bounds" : Str)) rfl)
  have b_told_twice_5 : Bnd K fd_told_twice ["game", "player", "one", "other", "left"] 5 [] [.a 0, .a 1, .a 2, .a 3, .a 4] [] [] := FunD.bndN F_told_twice fun kV doc pm an cdv ct us ws h1 h3 => match us, ws, h1, h3 with | [u0, u1, u2, u3, u4], [], _, _ => ⟨rfl, rfl⟩
  have nd := sc_leads_by.nd
  refine ⟨fd, F, (FnV.of F sc_leads_by fun cdv A outer s H E hr hg => ?_).hid tbok_leads_by⟩
  exact (sb_cons (ss_set 5 nd (se_callP V_told_twice (hr.mono (by decide)) hg passes_fn rfl hm_told_twice F_told_twice.kp b_told_twice_5 rfl (fun _ => .nil) (fun _ => .nil) (sa_cons (se_var 0) (sa_cons (se_var 1) (sa_cons (se_var 2) (sa_cons (se_var 3) (sa_cons (se_var 4) sa_nil)))))))
  (sb_cons (ss_if (st_cmp (or_eqA (ru64 hr)) od_eqA (se_ixB (se_ixB (se_ixB (se_var 0) se_int) (se_var 1)) se_int) (se_gstr rfl gs_BOUNDS)) (sb_one (ss_ret (se_lc (own := [(("here" : Str), 6), (("there" : Str), 7)]) (t := (.tup [(.nm 6), (.nm 7)]))  nd (si_seqS (se_var 5)) (by kernel_rfl) (fun _ _ _ _ _ => (tg_tup (tg_cons (tg_nm 6 nd) (tg_cons (tg_nm 7 nd) tg_nil)))) (fun _ _ _ _ _ => sts_nil) (fun _ _ _ _ _ => (se_bin op_sub od_sub (se_ixB (se_var 6) se_int) (se_ixB (se_var 7) se_int)))))) sb_nil)
  (sb_one (ss_ret (se_lc (own := [(("here" : Str), 6), (("there" : Str), 7)]) (t := (.tup [(.nm 6), (.nm 7)]))  nd (si_seqS (se_var 5)) (by kernel_rfl) (fun _ _ _ _ _ => (tg_tup (tg_cons (tg_nm 6 nd) (tg_cons (tg_nm 7 nd) tg_nil)))) (fun _ _ _ _ _ => sts_nil) (fun _ _ _ _ _ => (se_bin op_sub od_sub (se_var 6) (se_var 7))))))))
theorem sc_is_no_better_by : FnScope N_is_no_better_by ["game", "player", "one", "other", "left"] (defScope S_is_no_better_by) := ⟨rfl, rfl, rfl, by decide +kernel, rfl, by decide +kernel, by decide +kernel⟩
theorem ok_is_no_better_by (X : K.In h) (G : h.Ns mainGlobals mg) (c : SaysP fa fn ic tf ex h K) (E : EnvX P K mg base) : ∃ fd, FunD K "is_no_better_by" "is_no_better_by" (defArgs S_is_no_better_by) (defBody S_is_no_better_by) (defScope S_is_no_better_by) [] [] (He.ga K "is_no_better_by") fd ∧ FnV P w K mg base (C K) 6 (He.ga K "is_no_better_by") fd ["game", "player", "one", "other", "left"] (m_is_no_better_by) := by
  obtain ⟨fd, F⟩ := c.d.def_ 35 (d := d_is_no_better_by) rfl
  obtain ⟨fd_leads_by, F_leads_by, V_leads_by⟩ := ok_leads_by (P := P) (w := w) (base := base) X G c E
  have hm_leads_by := He.glo_ok X G (c.d.fact 34 (f := .glo "leads_by") rfl)
  have fr_all := He.free_ok X G (c.d.fact 51 (f := .free "all") rfl)
  have fr_any := He.free_ok X G (c.d.fact 57 (f := .free "any") rfl)
  have b_leads_by_5 : Bnd K fd_leads_by ["game", "player", "one", "other", "left"] 5 [] [.a 0, .a 1, .a 2, .a 3, .a 4] [] [] := FunD.bndN F_leads_by fun kV doc pm an cdv ct us ws h1 h3 => match us, ws, h1, h3 with | [u0, u1, u2, u3, u4], [], _, _ => ⟨rfl, rfl⟩
  have nd := sc_is_no_better_by.nd
  refine ⟨fd, F, (FnV.of F sc_is_no_better_by fun cdv A outer s H E hr hg => ?_).hid tbok_is_no_better_by⟩
  exact (sb_cons (ss_set 5 nd (se_callP V_leads_by (hr.mono (by decide)) hg passes_fn rfl hm_leads_by F_leads_by.kp b_leads_by_5 rfl (fun _ => .nil) (fun _ => .nil) (sa_cons (se_var 0) (sa_cons (se_var 1) (sa_cons (se_var 3) (sa_cons (se_var 2) (sa_cons (se_var 4) sa_nil)))))))
  (sb_one (ss_ret (se_and (se_cmp (or_neA (ru64 hr)) od_neA (se_var 2) (se_var 3)) (se_and (se_callB (cr_all rfl) cd_all rfl fr_all rfl (sa_cons (se_lc (own := [(("lead" : Str), 6)]) (t := (.nm 6))  nd (si_seqS (se_var 5)) (by kernel_rfl) (fun _ _ _ _ _ => (tg_nm 6 nd)) (fun _ _ _ _ _ => sts_nil) (fun _ _ _ _ _ => (se_cmp (or_geA (ru64 hr)) od_geA (se_var 6) se_int))) sa_nil)) (se_one (se_callB (cr_any rfl) cd_any rfl fr_any rfl (sa_cons (se_lc (own := [(("lead" : Str), 6)]) (t := (.nm 6))  nd (si_seqS (se_var 5)) (by kernel_rfl) (fun _ _ _ _ _ => (tg_nm 6 nd)) (fun _ _ _ _ _ => sts_nil) (fun _ _ _ _ _ => (se_cmp (or_gtA (ru64 hr)) od_gtA (se_var 6) se_int))) sa_nil))))))))
theorem sc_is_weak : FnScope N_is_weak ["game", "player", "choice", "left"] (defScope S_is_weak) := ⟨rfl, rfl, rfl, by decide +kernel, rfl, by decide +kernel, by decide +kernel⟩
theorem ok_is_weak (X : K.In h) (G : h.Ns mainGlobals mg) (c : SaysP fa fn ic tf ex h K) (E : EnvX P K mg base) : ∃ fd, FunD K "is_weak" "is_weak" (defArgs S_is_weak) (defBody S_is_weak) (defScope S_is_weak) [] [] (He.ga K "is_weak") fd ∧ FnV P w K mg base (C K) 7 (He.ga K "is_weak") fd ["game", "player", "choice", "left"] (m_is_weak) := by
  obtain ⟨fd, F⟩ := c.d.def_ 36 (d := d_is_weak) rfl
  obtain ⟨fd_is_no_better_by, F_is_no_better_by, V_is_no_better_by⟩ := ok_is_no_better_by (P := P) (w := w) (base := base) X G c E
  have hm_is_no_better_by := He.glo_ok X G (c.d.fact 35 (f := .glo "is_no_better_by") rfl)
  have fr_any := He.free_ok X G (c.d.fact 57 (f := .free "any") rfl)
  have b_is_no_better_by_5 : Bnd K fd_is_no_better_by ["game", "player", "one", "other", "left"] 5 [] [.a 0, .a 1, .a 2, .a 3, .a 4] [] [] := FunD.bndN F_is_no_better_by fun kV doc pm an cdv ct us ws h1 h3 => match us, ws, h1, h3 with | [u0, u1, u2, u3, u4], [], _, _ => ⟨rfl, rfl⟩
  have nd := sc_is_weak.nd
  refine ⟨fd, F, (FnV.of F sc_is_weak fun cdv A outer s H E hr hg => ?_).hid tbok_is_weak⟩
  exact (sb_one (ss_ret (se_callB (cr_any rfl) cd_any rfl fr_any rfl (sa_cons (se_lc (own := [(("other" : Str), 4)]) (t := (.nm 4))  nd (si_seqS (se_ixB (se_var 3) (se_var 1))) (by kernel_rfl) (fun _ _ _ _ _ => (tg_nm 4 nd)) (fun _ _ _ _ _ => sts_nil) (fun _ _ _ _ _ => (se_callP V_is_no_better_by (hr.mono (by decide)) hg passes_no rfl hm_is_no_better_by F_is_no_better_by.kp b_is_no_better_by_5 rfl (fun _ => .nil) (fun _ => .nil) (sa_cons (se_var 0) (sa_cons (se_var 1) (sa_cons (se_var 2) (sa_cons (se_var 4) (sa_cons (se_var 3) sa_nil)))))))) sa_nil))))
theorem sc_weak_by : FnScope N_weak_by ["game", "left"] (defScope S_weak_by) := ⟨rfl, rfl, rfl, by decide +kernel, rfl, by decide +kernel, by decide +kernel⟩
theorem ok_weak_by (X : K.In h) (G : h.Ns mainGlobals mg) (c : SaysP fa fn ic tf ex h K) (E : EnvX P K mg base) : ∃ fd, FunD K "weak_by" "weak_by" (defArgs S_weak_by) (defBody S_weak_by) (defScope S_weak_by) [] [] (He.ga K "weak_by") fd ∧ FnV P w K mg base (C K) 8 (He.ga K "weak_by") fd ["game", "left"] (m_weak_by) := by
  obtain ⟨fd, F⟩ := c.d.def_ 37 (d := d_weak_by) rfl
  obtain ⟨fd_left_or_all, F_left_or_all, V_left_or_all⟩ := ok_left_or_all (P := P) (w := w) (base := base) X G c E
  have hm_left_or_all := He.glo_ok X G (c.d.fact 27 (f := .glo "left_or_all") rfl)
  obtain ⟨fd_is_weak, F_is_weak, V_is_weak⟩ := ok_is_weak (P := P) (w := w) (base := base) X G c E
  have hm_is_weak := He.glo_ok X G (c.d.fact 36 (f := .glo "is_weak") rfl)
  have fr_enumerate := He.free_ok X G (c.d.fact 53 (f := .free "enumerate") rfl)
  have b_left_or_all_2 : Bnd K fd_left_or_all ["game", "left"] 2 [] [.a 0, .a 1] [] [] := FunD.bndN F_left_or_all fun kV doc pm an cdv ct us ws h1 h3 => match us, ws, h1, h3 with | [u0, u1], [], _, _ => ⟨rfl, rfl⟩
  have b_is_weak_4 : Bnd K fd_is_weak ["game", "player", "choice", "left"] 4 [] [.a 0, .a 1, .a 2, .a 3] [] [] := FunD.bndN F_is_weak fun kV doc pm an cdv ct us ws h1 h3 => match us, ws, h1, h3 with | [u0, u1, u2, u3], [], _, _ => ⟨rfl, rfl⟩
  have nd := sc_weak_by.nd
  refine ⟨fd, F, (FnV.of F sc_weak_by fun cdv A outer s H E hr hg => ?_).hid tbok_weak_by⟩
  exact (sb_cons (ss_set 2 nd (se_callP V_left_or_all (hr.mono (by decide)) hg passes_fn rfl hm_left_or_all F_left_or_all.kp b_left_or_all_2 rfl (fun _ => .nil) (fun _ => .nil) (sa_cons (se_var 0) (sa_cons (se_var 1) sa_nil))))
  (sb_cons (ss_setLc2 (own := [(("player" : Str), 4), (("choices" : Str), 5), (("choice" : Str), 6)]) (t := (.tup [(.nm 4), (.nm 5)])) (t1 := (.nm 6)) (vs1 := [6]) (i := 3) nd (si_enum rfl fr_enumerate (sa_cons (se_var 2) sa_nil)) (by kernel_rfl) (by decide) (fun _ _ _ _ _ => (tg_tup (tg_cons (tg_nm 4 nd) (tg_cons (tg_nm 5 nd) tg_nil)))) (fun _ _ _ _ _ => sts_nil) (fun _ _ _ _ _ => (si_seqS (se_var 5))) (fun _ _ _ _ _ => (tg_nm 6 nd)) (fun _ _ _ _ _ => sts_nil) (fun _ _ _ _ _ => (se_tup (sa_cons (se_var 4) (sa_cons (se_var 6) sa_nil)))))
  (sb_one (ss_ret (se_lc (own := [(("pair" : Str), 7)]) (t := (.nm 7))  nd (si_seqS (se_var 3)) (by kernel_rfl) (fun _ _ _ _ _ => (tg_nm 7 nd)) (fun _ _ _ _ _ => (sts_one (st_val (se_callP V_is_weak (hr.mono (by decide)) hg passes_no rfl hm_is_weak F_is_weak.kp b_is_weak_4 rfl (fun _ => .nil) (fun _ => .nil) (sa_cons (se_var 0) (sa_cons (se_ixB (se_var 7) se_int) (sa_cons (se_ixB (se_var 7) se_int) (sa_cons (se_var 2) sa_nil)))))))) (fun _ _ _ _ _ => (se_var 7)))))))
theorem sc_weak_strikes : FnScope N_weak_strikes ["game", "left"] (defScope S_weak_strikes) := ⟨rfl, rfl, rfl, by decide +kernel, rfl, by decide +kernel, by decide +kernel⟩
theorem ok_weak_strikes (X : K.In h) (G : h.Ns mainGlobals mg) (c : SaysP fa fn ic tf ex h K) (E : EnvX P K mg base) : ∃ fd, FunD K "weak_strikes" "weak_strikes" (defArgs S_weak_strikes) (defBody S_weak_strikes) (defScope S_weak_strikes) [] [] (He.ga K "weak_strikes") fd ∧ FnV P w K mg base (C K) 9 (He.ga K "weak_strikes") fd ["game", "left"] (m_weak_strikes) := by
  obtain ⟨fd, F⟩ := c.d.def_ 38 (d := d_weak_strikes) rfl
  obtain ⟨fd_want_game, F_want_game, V_want_game⟩ := ok_want_game (P := P) (w := w) (base := base) X G c E
  have hm_want_game := He.glo_ok X G (c.d.fact 20 (f := .glo "want_game") rfl)
  obtain ⟨fd_want_left, F_want_left, V_want_left⟩ := ok_want_left (P := P) (w := w) (base := base) X G c E
  have hm_want_left := He.glo_ok X G (c.d.fact 25 (f := .glo "want_left") rfl)
  obtain ⟨fd_weak_by, F_weak_by, V_weak_by⟩ := ok_weak_by (P := P) (w := w) (base := base) X G c E
  have hm_weak_by := He.glo_ok X G (c.d.fact 37 (f := .glo "weak_by") rfl)
  have fr_tuple := He.free_ok X G (c.d.fact 48 (f := .free "tuple") rfl)
  have b_want_game_1 : Bnd K fd_want_game ["game", "name"] 1 [] [.a 0, .d 0] [.str ("game" : Str)] [] := FunD.bndD F_want_game (by simp) fun T kV doc pm an cdv ct us its ws h1 h2 h3 => match us, its, ws, h1, h2, h3 with | [u0], [d0], [], _, _, _ => ⟨⟨_, rfl, rfl⟩, rfl⟩
  have b_want_left_2 : Bnd K fd_want_left ["game", "left"] 2 [] [.a 0, .a 1] [] [] := FunD.bndN F_want_left fun kV doc pm an cdv ct us ws h1 h3 => match us, ws, h1, h3 with | [u0, u1], [], _, _ => ⟨rfl, rfl⟩
  have b_weak_by_2 : Bnd K fd_weak_by ["game", "left"] 2 [] [.a 0, .a 1] [] [] := FunD.bndN F_weak_by fun kV doc pm an cdv ct us ws h1 h3 => match us, ws, h1, h3 with | [u0, u1], [], _, _ => ⟨rfl, rfl⟩
  have nd := sc_weak_strikes.nd
  refine ⟨fd, F, (FnV.of F sc_weak_strikes fun cdv A outer s H E hr hg => ?_).hid tbok_weak_strikes⟩
  exact (sb_cons (ss_expr (se_call V_want_game (hr.mono (by decide)) hg passes_fn rfl hm_want_game F_want_game.kp b_want_game_1 (fun _ => (.cons (.str _) .nil)) (fun _ => .nil) (sa_cons (se_var 0) sa_nil)))
  (sb_cons (ss_expr (se_callP V_want_left (hr.mono (by decide)) hg passes_fn rfl hm_want_left F_want_left.kp b_want_left_2 rfl (fun _ => .nil) (fun _ => .nil) (sa_cons (se_var 0) (sa_cons (se_var 1) sa_nil))))
  (sb_one (ss_ret (se_callTy call_tuple_of cd_tuple rfl fr_tuple rfl (sa_cons (se_callP V_weak_by (hr.mono (by decide)) hg passes_fn rfl hm_weak_by F_weak_by.kp b_weak_by_2 rfl (fun _ => .nil) (fun _ => .nil) (sa_cons (se_var 0) (sa_cons (se_var 1) sa_nil))) sa_nil))))))
theorem sc_struck_by : FnScope N_struck_by ["left", "pair"] (defScope S_struck_by) := ⟨rfl, rfl, rfl, by decide +kernel, rfl, by decide +kernel, by decide +kernel⟩
theorem ok_struck_by (X : K.In h) (G : h.Ns mainGlobals mg) (c : SaysP fa fn ic tf ex h K) (E : EnvX P K mg base) : ∃ fd, FunD K "struck_by" "struck_by" (defArgs S_struck_by) (defBody S_struck_by) (defScope S_struck_by) [] [] (He.ga K "struck_by") fd ∧ FnV P w K mg base (C K) 1 (He.ga K "struck_by") fd ["left", "pair"] (m_struck_by) := by
  obtain ⟨fd, F⟩ := c.d.def_ 39 (d := d_struck_by) rfl
  have fr_tuple := He.free_ok X G (c.d.fact 48 (f := .free "tuple") rfl)
  have nd := sc_struck_by.nd
  refine ⟨fd, F, (FnV.of F sc_struck_by fun cdv A outer s H E hr hg => ?_).hid tbok_struck_by⟩
  exact (sb_cons (ss_asg (t := (.tup [(.nm 2), (.nm 3)])) (se_var 1) (tg_tup (tg_cons (tg_nm 2 nd) (tg_cons (tg_nm 3 nd) tg_nil))))
  (sb_one (ss_ret (se_tup (sa_star (se_slA false (se_var 0) so_none (so_some (se_var 2))) (sa_cons (se_callTy call_tuple_of cd_tuple rfl fr_tuple rfl (sa_cons (se_lc (own := [(("choice" : Str), 4)]) (t := (.nm 4))  nd (si_seqS (se_ixB (se_var 0) (se_var 2))) (by kernel_rfl) (fun _ _ _ _ _ => (tg_nm 4 nd)) (fun _ _ _ _ _ => (sts_one (st_cmp (or_neA (ru64 hr)) od_neA (se_var 4) (se_var 3)))) (fun _ _ _ _ _ => (se_var 4))) sa_nil)) (sa_star (se_slA false (se_var 0) (so_some (se_bin or_add (od_add (ob := false)) (se_var 2) se_int)) so_none) sa_nil)))))))
theorem sc_ends_of_weak : FnScope N_ends_of_weak ["game"] (defScope S_ends_of_weak) := ⟨rfl, rfl, rfl, by decide +kernel, rfl, by decide +kernel, by decide +kernel⟩
theorem ok_ends_of_weak (X : K.In h) (G : h.Ns mainGlobals mg) (c : SaysP fa fn ic tf ex h K) (E : EnvX P K mg base) : ∃ fd, FunD K "ends_of_weak" "ends_of_weak" (defArgs S_ends_of_weak) (defBody S_ends_of_weak) (defScope S_ends_of_weak) [] [] (He.ga K "ends_of_weak") fd ∧ FnV P w K mg base (C K) 9 (He.ga K "ends_of_weak") fd ["game"] (m_ends_of_weak) := by
  obtain ⟨fd, F⟩ := c.d.def_ 40 (d := d_ends_of_weak) rfl
  obtain ⟨fd_all_by, F_all_by, V_all_by⟩ := ok_all_by (P := P) (w := w) (base := base) X G c E
  have hm_all_by := He.glo_ok X G (c.d.fact 26 (f := .glo "all_by") rfl)
  obtain ⟨fd_weak_by, F_weak_by, V_weak_by⟩ := ok_weak_by (P := P) (w := w) (base := base) X G c E
  have hm_weak_by := He.glo_ok X G (c.d.fact 37 (f := .glo "weak_by") rfl)
  obtain ⟨fd_struck_by, F_struck_by, V_struck_by⟩ := ok_struck_by (P := P) (w := w) (base := base) X G c E
  have hm_struck_by := He.glo_ok X G (c.d.fact 39 (f := .glo "struck_by") rfl)
  have fr_len := He.free_ok X G (c.d.fact 47 (f := .free "len") rfl)
  have b_all_by_1 : Bnd K fd_all_by ["counts"] 1 [] [.a 0] [] [] := FunD.bndN F_all_by fun kV doc pm an cdv ct us ws h1 h3 => match us, ws, h1, h3 with | [u0], [], _, _ => ⟨rfl, rfl⟩
  have b_weak_by_2 : Bnd K fd_weak_by ["game", "left"] 2 [] [.a 0, .a 1] [] [] := FunD.bndN F_weak_by fun kV doc pm an cdv ct us ws h1 h3 => match us, ws, h1, h3 with | [u0, u1], [], _, _ => ⟨rfl, rfl⟩
  have b_struck_by_2 : Bnd K fd_struck_by ["left", "pair"] 2 [] [.a 0, .a 1] [] [] := FunD.bndN F_struck_by fun kV doc pm an cdv ct us ws h1 h3 => match us, ws, h1, h3 with | [u0, u1], [], _, _ => ⟨rfl, rfl⟩
  have nd := sc_ends_of_weak.nd
  refine ⟨fd, F, (FnV.of F sc_ends_of_weak fun cdv A outer s H E hr hg => ?_).hid tbok_ends_of_weak⟩
  exact (sb_cons (ss_par 1 2 nd rfl rfl (by decide) (sa_cons (se_lst true (sa_cons (se_callP V_all_by (hr.mono (by decide)) hg passes_fn rfl hm_all_by F_all_by.kp b_all_by_1 rfl (fun _ => .nil) (fun _ => .nil) (sa_cons (se_ixB (se_var 0) se_int) sa_nil)) sa_nil)) (sa_cons (se_lst true sa_nil) sa_nil)))
  (sb_cons (ss_set 3 nd se_int)
  (sb_cons (ss_while 100000 owns_fn (st_cmp (or_ltA (ru64 hr)) od_ltA (se_var 3) (se_callB call_len cd_len rfl fr_len rfl (sa_cons (se_var 1) sa_nil))) (sb_cons (ss_set 4 nd (se_ixB (se_var 1) (se_var 3)))
  (sb_cons (ss_aug 3 nd ip_add se_int)
  (sb_cons (ss_set 5 nd (se_callP V_weak_by (hr.mono (by decide)) hg passes_fn rfl hm_weak_by F_weak_by.kp b_weak_by_2 rfl (fun _ => .nil) (fun _ => .nil) (sa_cons (se_var 0) (sa_cons (se_var 4) sa_nil))))
  (sb_cons (ss_if (st_cmp (or_eqA (ru64 hr)) od_eqA (se_callB call_len cd_len rfl fr_len rfl (sa_cons (se_var 5) sa_nil)) se_int) (sb_one (ss_expr (se_app PySem.F.plainAttrs_list (se_var 2) (sa_cons (se_var 4) sa_nil)))) sb_nil)
  (sb_one (ss_for (t := (.nm 6)) owns_fn (si_seqS (se_lc (own := [(("pair" : Str), 7)]) (t := (.nm 7))  nd (si_seqS (se_var 5)) (by kernel_rfl) (fun _ _ _ _ _ => (tg_nm 7 nd)) (fun _ _ _ _ _ => sts_nil) (fun _ _ _ _ _ => (se_callP V_struck_by (hr.mono (by decide)) hg passes_no rfl hm_struck_by F_struck_by.kp b_struck_by_2 rfl (fun _ => .nil) (fun _ => .nil) (sa_cons (se_var 4) (sa_cons (se_var 7) sa_nil)))))) (tg_nm 6 nd) (sb_one (ss_if (st_cmp (or_notInB (ru65 hr)) (od_inB (neg := true)) (se_var 6) (se_var 1)) (sb_one (ss_expr (se_app PySem.F.plainAttrs_list (se_var 1) (sa_cons (se_var 6) sa_nil)))) sb_nil)))))))))
  (sb_one (ss_ret (se_dat (se_var 2)))))))
theorem sc_weak_ends : FnScope N_weak_ends ["game"] (defScope S_weak_ends) := ⟨rfl, rfl, rfl, by decide +kernel, rfl, by decide +kernel, by decide +kernel⟩
theorem ok_weak_ends (X : K.In h) (G : h.Ns mainGlobals mg) (c : SaysP fa fn ic tf ex h K) (E : EnvX P K mg base) : ∃ fd, FunD K "weak_ends" "weak_ends" (defArgs S_weak_ends) (defBody S_weak_ends) (defScope S_weak_ends) [] [] (He.ga K "weak_ends") fd ∧ FnV P w K mg base (C K) 10 (He.ga K "weak_ends") fd ["game"] (m_weak_ends) := by
  obtain ⟨fd, F⟩ := c.d.def_ 41 (d := d_weak_ends) rfl
  obtain ⟨fd_want_game, F_want_game, V_want_game⟩ := ok_want_game (P := P) (w := w) (base := base) X G c E
  have hm_want_game := He.glo_ok X G (c.d.fact 20 (f := .glo "want_game") rfl)
  obtain ⟨fd_ends_of_weak, F_ends_of_weak, V_ends_of_weak⟩ := ok_ends_of_weak (P := P) (w := w) (base := base) X G c E
  have hm_ends_of_weak := He.glo_ok X G (c.d.fact 40 (f := .glo "ends_of_weak") rfl)
  have fr_tuple := He.free_ok X G (c.d.fact 48 (f := .free "tuple") rfl)
  have fr_sorted := He.free_ok X G (c.d.fact 58 (f := .free "sorted") rfl)
  have fr_set := He.free_ok X G (c.d.fact 59 (f := .free "set") rfl)
  have b_want_game_1 : Bnd K fd_want_game ["game", "name"] 1 [] [.a 0, .d 0] [.str ("game" : Str)] [] := FunD.bndD F_want_game (by simp) fun T kV doc pm an cdv ct us its ws h1 h2 h3 => match us, its, ws, h1, h2, h3 with | [u0], [d0], [], _, _, _ => ⟨⟨_, rfl, rfl⟩, rfl⟩
  have b_ends_of_weak_1 : Bnd K fd_ends_of_weak ["game"] 1 [] [.a 0] [] [] := FunD.bndN F_ends_of_weak fun kV doc pm an cdv ct us ws h1 h3 => match us, ws, h1, h3 with | [u0], [], _, _ => ⟨rfl, rfl⟩
  have nd := sc_weak_ends.nd
  refine ⟨fd, F, (FnV.of F sc_weak_ends fun cdv A outer s H E hr hg => ?_).hid tbok_weak_ends⟩
  exact (sb_cons (ss_expr (se_call V_want_game (hr.mono (by decide)) hg passes_fn rfl hm_want_game F_want_game.kp b_want_game_1 (fun _ => (.cons (.str _) .nil)) (fun _ => .nil) (sa_cons (se_var 0) sa_nil)))
  (sb_one (ss_ret (se_callTy call_tuple_of cd_tuple rfl fr_tuple rfl (sa_cons (se_sortSetM false hr rfl fr_sorted rfl fr_set (sa_cons (se_callP V_ends_of_weak (hr.mono (by decide)) hg passes_fn rfl hm_ends_of_weak F_ends_of_weak.kp b_ends_of_weak_1 rfl (fun _ => .nil) (fun _ => .nil) (sa_cons (se_var 0) sa_nil)) sa_nil)) sa_nil)))))
theorem sc__law_is_right : FnScope N__law_is_right ["_law_tab", "_law_rows", "_law_ends"] (defScope S__law_is_right) := ⟨rfl, rfl, rfl, by decide +kernel, rfl, by decide +kernel, by decide +kernel⟩
theorem ok__law_is_right (X : K.In h) (G : h.Ns mainGlobals mg) (c : SaysP fa fn ic tf ex h K) (E : EnvX P K mg base) : ∃ fd, FunD K "_law_is_right" "_law_is_right" (defArgs S__law_is_right) (defBody S__law_is_right) (defScope S__law_is_right) [] [] (He.ga K "_law_is_right") fd ∧ FnV P w K mg base (C K) 11 (He.ga K "_law_is_right") fd ["_law_tab", "_law_rows", "_law_ends"] (m__law_is_right) := by
  obtain ⟨fd, F⟩ := c.d.def_ 42 (d := d__law_is_right) rfl
  obtain ⟨fd__law_same, F__law_same, V__law_same⟩ := ok__law_same (P := P) (w := w) (base := base) X G c E
  have hm__law_same := He.glo_ok X G (c.d.fact 6 (f := .glo "_law_same") rfl)
  obtain ⟨fd_weak_strikes, F_weak_strikes, V_weak_strikes⟩ := ok_weak_strikes (P := P) (w := w) (base := base) X G c E
  have hm_weak_strikes := He.glo_ok X G (c.d.fact 38 (f := .glo "weak_strikes") rfl)
  obtain ⟨fd_weak_ends, F_weak_ends, V_weak_ends⟩ := ok_weak_ends (P := P) (w := w) (base := base) X G c E
  have hm_weak_ends := He.glo_ok X G (c.d.fact 41 (f := .glo "weak_ends") rfl)
  have b__law_same_2 : Bnd K fd__law_same ["_law_got", "_law_due"] 2 [] [.a 0, .a 1] [] [] := FunD.bndN F__law_same fun kV doc pm an cdv ct us ws h1 h3 => match us, ws, h1, h3 with | [u0, u1], [], _, _ => ⟨rfl, rfl⟩
  have b_weak_strikes_0_left_game : Bnd K fd_weak_strikes ["game", "left"] 0 ["left", "game"] [.k 1, .k 0] [] [] := FunD.bndN F_weak_strikes fun kV doc pm an cdv ct us ws h1 h3 => match us, ws, h1, h3 with | [], [k0, k1], _, _ => ⟨rfl, rfl⟩
  have b_weak_strikes_2 : Bnd K fd_weak_strikes ["game", "left"] 2 [] [.a 0, .a 1] [] [] := FunD.bndN F_weak_strikes fun kV doc pm an cdv ct us ws h1 h3 => match us, ws, h1, h3 with | [u0, u1], [], _, _ => ⟨rfl, rfl⟩
  have b_weak_ends_0_game : Bnd K fd_weak_ends ["game"] 0 ["game"] [.k 0] [] [] := FunD.bndN F_weak_ends fun kV doc pm an cdv ct us ws h1 h3 => match us, ws, h1, h3 with | [], [k0], _, _ => ⟨rfl, rfl⟩
  have b_weak_ends_1 : Bnd K fd_weak_ends ["game"] 1 [] [.a 0] [] [] := FunD.bndN F_weak_ends fun kV doc pm an cdv ct us ws h1 h3 => match us, ws, h1, h3 with | [u0], [], _, _ => ⟨rfl, rfl⟩
  have nd := sc__law_is_right.nd
  refine ⟨fd, F, (FnV.of F sc__law_is_right fun cdv A outer s H E hr hg => ?_).hid tbok__law_is_right⟩
  exact (sb_cons (ss_for (t := (.tup [(.nm 3), (.nm 4)])) owns_fn (si_seqS (se_var 1)) (tg_tup (tg_cons (tg_nm 3 nd) (tg_cons (tg_nm 4 nd) tg_nil))) (sb_one (ss_if (st_not (st_val (se_callP V__law_same (hr.mono (by decide)) hg passes_fn rfl hm__law_same F__law_same.kp b__law_same_2 rfl (fun _ => .nil) (fun _ => .nil) (sa_cons (se_lst false (sa_cons (se_callP V_weak_strikes (hr.mono (by decide)) hg passes_fn rfl hm_weak_strikes F_weak_strikes.kp b_weak_strikes_2 rfl (fun _ => .nil) (fun _ => .nil) (sa_cons (se_var 0) (sa_cons (se_var 3) sa_nil))) (sa_cons (se_callK0 (ks := ["left", "game"]) V_weak_strikes (hr.mono (by decide)) hg passes_fn rfl hm_weak_strikes F_weak_strikes.kp b_weak_strikes_0_left_game (fun _ => .nil) (fun _ => .nil) (sk_cons (se_var 3) (sk_cons (se_var 0) sk_nil))) sa_nil))) (sa_cons (se_lst false (sa_cons (se_var 4) (sa_cons (se_var 4) sa_nil))) sa_nil))))) (sb_one (ss_ret se_bl)) sb_nil)))
  (sb_one (ss_ret (se_callP V__law_same (hr.mono (by decide)) hg passes_fn rfl hm__law_same F__law_same.kp b__law_same_2 rfl (fun _ => .nil) (fun _ => .nil) (sa_cons (se_lst false (sa_cons (se_callP V_weak_ends (hr.mono (by decide)) hg passes_fn rfl hm_weak_ends F_weak_ends.kp b_weak_ends_1 rfl (fun _ => .nil) (fun _ => .nil) (sa_cons (se_var 0) sa_nil)) (sa_cons (se_callK0 (ks := ["game"]) V_weak_ends (hr.mono (by decide)) hg passes_fn rfl hm_weak_ends F_weak_ends.kp b_weak_ends_0_game (fun _ => .nil) (fun _ => .nil) (sk_cons (se_var 0) sk_nil)) sa_nil))) (sa_cons (se_lst false (sa_cons (se_var 2) (sa_cons (se_var 2) sa_nil))) sa_nil))))))
theorem sc_law : FnScope N_law ["_law_script"] (defScope S_law) := ⟨rfl, rfl, rfl, by decide +kernel, rfl, by decide +kernel, by decide +kernel⟩
theorem okV_law {mf : Fm} (Vfeed : ∀ fd, FunD K "_law_feed" "_law_feed" (defArgs S__law_feed) (defBody S__law_feed) (defScope S__law_feed) [] [] (He.ga K "_law_feed") fd → FnV P w K mg base (C K) 1 (He.ga K "_law_feed") fd ["_law_script"] mf) {fd : FuncData} (F : FunD K "law" "law" (defArgs S_law) (defBody S_law) (defScope S_law) [] [] (He.ga K "law") fd) (X : K.In h) (G : h.Ns mainGlobals mg) (c : SaysP fa fn ic tf ex h K) (E : EnvX P K mg base) : FnV P w K mg base (C K) 12 (He.ga K "law") fd ["_law_script"] (m_law mf) := by
  obtain ⟨fd__law_feed, F__law_feed, _⟩ := ok__law_feed (P := P) (w := w) (base := base) X G c E
  have V__law_feed := Vfeed _ F__law_feed
  have hm__law_feed := He.glo_ok X G (c.d.fact 0 (f := .glo "_law_feed") rfl)
  obtain ⟨fd__law_pick, F__law_pick, V__law_pick⟩ := ok__law_pick (P := P) (w := w) (base := base) X G c E
  have hm__law_pick := He.glo_ok X G (c.d.fact 2 (f := .glo "_law_pick") rfl)
  obtain ⟨fd__law_games, F__law_games, V__law_games⟩ := ok__law_games (P := P) (w := w) (base := base) X G c E
  have hm__law_games := He.glo_ok X G (c.d.fact 5 (f := .glo "_law_games") rfl)
  obtain ⟨fd__law_is_right, F__law_is_right, V__law_is_right⟩ := ok__law_is_right (P := P) (w := w) (base := base) X G c E
  have hm__law_is_right := He.glo_ok X G (c.d.fact 42 (f := .glo "_law_is_right") rfl)
  have b__law_feed_1 : Bnd K fd__law_feed ["_law_script"] 1 [] [.a 0] [] [] := FunD.bndN F__law_feed fun kV doc pm an cdv ct us ws h1 h3 => match us, ws, h1, h3 with | [u0], [], _, _ => ⟨rfl, rfl⟩
  have b__law_pick_2 : Bnd K fd__law_pick ["_law_feed_here", "_law_some"] 2 [] [.a 0, .a 1] [] [] := FunD.bndN F__law_pick fun kV doc pm an cdv ct us ws h1 h3 => match us, ws, h1, h3 with | [u0, u1], [], _, _ => ⟨rfl, rfl⟩
  have b__law_games_1 : Bnd K fd__law_games ["_law_move"] 1 [] [.a 0] [] [] := FunD.bndN F__law_games fun kV doc pm an cdv ct us ws h1 h3 => match us, ws, h1, h3 with | [u0], [], _, _ => ⟨rfl, rfl⟩
  have b__law_is_right_3 : Bnd K fd__law_is_right ["_law_tab", "_law_rows", "_law_ends"] 3 [] [.a 0, .a 1, .a 2] [] [] := FunD.bndN F__law_is_right fun kV doc pm an cdv ct us ws h1 h3 => match us, ws, h1, h3 with | [u0, u1, u2], [], _, _ => ⟨rfl, rfl⟩
  have nd := sc_law.nd
  refine FnV.of F sc_law fun cdv A outer s H E hr hg => ?_
  exact (sb_cons (ss_set 1 nd (se_call V__law_feed (hr.mono (by decide)) hg passes_fn rfl hm__law_feed F__law_feed.kp b__law_feed_1 (fun _ => .nil) (fun _ => .nil) (sa_cons (se_var 0) sa_nil)))
  (sb_cons (ss_set 2 nd (se_callP V__law_pick (hr.mono (by decide)) hg passes_fn rfl hm__law_pick F__law_pick.kp b__law_pick_2 rfl (fun _ => .nil) (fun _ => .nil) (sa_cons (se_var 1) (sa_cons (se_lst false (sa_cons se_int (sa_cons se_int (sa_cons se_int (sa_cons se_int (sa_cons se_int sa_nil)))))) sa_nil))))
  (sb_cons (ss_for (t := (.tup [(.nm 3), (.nm 4), (.nm 5)])) owns_fn (si_seqS (se_callP V__law_games (hr.mono (by decide)) hg passes_fn rfl hm__law_games F__law_games.kp b__law_games_1 rfl (fun _ => .nil) (fun _ => .nil) (sa_cons (se_var 2) sa_nil))) (tg_tup (tg_cons (tg_nm 3 nd) (tg_cons (tg_nm 4 nd) (tg_cons (tg_nm 5 nd) tg_nil)))) (sb_one (ss_if (st_not (st_val (se_callP V__law_is_right (hr.mono (by decide)) hg passes_fn rfl hm__law_is_right F__law_is_right.kp b__law_is_right_3 rfl (fun _ => .nil) (fun _ => .nil) (sa_cons (se_var 3) (sa_cons (se_var 4) (sa_cons (se_var 5) sa_nil)))))) (sb_one (ss_ret se_bl)) sb_nil)))
  (sb_one (ss_ret se_bl)))))
end
abbrev R : PySem.W.OpenRow := PySem.W.OpenLaw.row PySem.Challenge.rw_neverbest_k22_weak_strikes_told
abbrev hk : PySem.W.Hook := hookP 4 fa fn ic tf ex
def ob (s : PySem.W.SharedT) : AlP := obsP 4 fa fn ic tf ex (HandSHeadRun.getT s)
theorem ob_eq (s : PySem.W.SharedT) : ob s = hk.obs s.abs := obsP_eq (HandSHeadRun.getT_eq s)
def loose : List PySem.Str := [("BestError" : Str), ("GameError" : Str), ("NotUsable" : Str), ("ORDER" : Str), ("BOUNDS" : Str), ("size_of" : Str), ("spot_by" : Str), ("others_by" : Str), ("cell_by" : Str), ("told_by" : Str), ("all_by" : Str), ("left_or_all" : Str), ("left_cases_by" : Str), ("is_integer" : Str), ("is_number" : Str), ("is_above_nought" : Str), ("is_index" : Str), ("is_tuple_of" : Str), ("is_counts" : Str), ("are_ascending" : Str), ("is_set_below" : Str), ("is_pair_of_bounds" : Str), ("is_left_by" : Str), ("is_element" : Str), ("is_telling_shape" : Str), ("element_fault" : Str), ("tellings_fault" : Str), ("game_fault" : Str), ("want" : Str), ("want_game" : Str), ("want_left" : Str), ("told_twice" : Str), ("leads_by" : Str), ("is_no_better_by" : Str), ("is_weak" : Str), ("weak_by" : Str), ("struck_by" : Str), ("ends_of_weak" : Str), ("weak_strikes" : Str), ("weak_ends" : Str), ("_law_feed" : Str), ("_law_draw" : Str), ("_law_pick" : Str), ("_law_same" : Str), ("_law_pairs" : Str), ("_law_ranks" : Str), ("_law_games" : Str), ("_law_is_right" : Str)]
theorem run (w : World) : HandSHeadRun.RunEq R (PySem.W.view R.prog [56]) hk ob 20000 loose w := by
  intro os
  kernel_rfl
def QS : List Int := [5]
theorem good_le {kvs : List (PD × PD)} {a b : Nat} (h : Good kvs a) (c : b ≤ a) : Good kvs b := by
  obtain ⟨cs, n, r, t, e, h1, h2, h3, h4, h5⟩ := h
  exact ⟨cs, n, r, t, e, h1, h2, h3, h4, by omega⟩
theorem os_ex (ns : List Int) : ∃ (kvs : List (PD × PD)) (os : List (Int × Int)), (∀ h, m__law_feed [.scr ns] h = .ok (.obj h.length) (h ++ [.dct kvs])) ∧ GD m__law_draw kvs os ∧ os ∈ combos QS := by
  obtain ⟨kvs, g, hf⟩ := feed_ok ns
  obtain ⟨os, ho, gd⟩ := draws_ex draw_ok QS kvs (by decide) (good_le g (by decide))
  exact ⟨kvs, os, hf, gd, ho⟩
noncomputable def osOf (ns : List Int) : List (Int × Int) := Classical.choose (Classical.choose_spec (os_ex ns))
def cs_0 : List (List (Int × Int)) := [[(5, 0)], [(5, 1)], [(5, 2)], [(5, 3)], [(5, 4)]]
def cs : List (List (Int × Int)) := cs_0
theorem cs_eq : combos QS = cs := by kernel_rfl
theorem chks_0 (ns : List Int) : (cs_0.all fun os => isTrue (m_law (mfX os) [.scr ns] [])) = true := by kernel_rfl
theorem chk (ns : List Int) : ((combos QS).all fun os => isTrue (m_law (mfX os) [.scr ns] [])) = true := by
  rw [cs_eq]
  simp only [cs, List.all_append, chks_0 ns, Bool.and_self]
theorem law_true (ns : List Int) : ∃ h', m_law (mFeed ns (osOf ns)) [.scr ns] [] = .ok (.dat (.bool true)) h' := by
  have h := (Classical.choose_spec (Classical.choose_spec (os_ex ns))).2.2
  have e : m_law (mFeed ns (osOf ns)) [.scr ns] [] = m_law (mfX (osOf ns)) [.scr ns] [] := law_set (mfX_eq ns (osOf ns) [])
  rw [e]
  exact isTrue_ok (List.all_eq_true.mp (chk ns) _ h)
theorem facts {P : Program} {w : World} {K : PySem.W.Frag} {h : Heap} {mg : Str → Option Value} {f : Addr} (X : K.In h) (G : h.Ns mainGlobals mg) (hfa : mg ("law" : Str) = some (.ref f)) (c : SaysP fa fn ic tf ex h K) (hE : ∀ base : Heap, (∀ p ∈ tf.map (He.cT K), LamX.TabB base mg p.1 p.2) → EnvX P K mg base) :
    ∃ fd : FuncData, (∀ (s : Shared) (v : Value), BindsTo s fd ⟨[v], []⟩ [("_law_script", v)]) ∧ ∀ ns : List Int, ∀ base : Heap, K.In base → base.Ns mainGlobals mg → (∀ p ∈ tf.map (He.cT K), LamX.TabB base mg p.1 p.2) → FnV P w K mg base (C K) 12 f fd ["_law_script"] (m_law (mFeed ns (osOf ns))) := by
  obtain ⟨fd, F⟩ := c.d.def_ 43 (d := d_law) rfl
  have e := hfa.symm.trans (He.glo_ok X G (c.d.fact 43 (f := .glo "law") rfl))
  cases e
  have b := FunD.bindsA (ps := ["_law_script"]) F fun _ _ _ _ _ _ us hl => match us, hl with | [_], _ => rfl
  refine ⟨fd, fun s v => b s [v] rfl, fun ns base _ _ hT => ?_⟩
  have h := Classical.choose_spec (Classical.choose_spec (os_ex ns))
  exact okV_law (mf := mFeed ns (osOf ns)) (fun fd F => (okV__law_feed (P := P) (w := w) (base := base) F X G c (hE base hT)).feed (kvs := Classical.choose (os_ex ns)) h.1 h.2.1) F X G c (hE base hT)
end Kk22
open PySem PySem.W PySem.Calls PyProof.Rows
theorem PySem.Challenge.cw_neverbest_k22_weak_strikes_told_holds : PySem.Challenge.rw_neverbest_k22_weak_strikes_told.Holds := by
  w_on; o_law
  refine HandSHeadRun.head_any (r := OpenLaw.row PySem.Challenge.rw_neverbest_k22_weak_strikes_told) (q := view (OpenLaw.row PySem.Challenge.rw_neverbest_k22_weak_strikes_told).prog [56]) (H := Kk22.hk) (ob := Kk22.ob) (M := 20000) (loose := Kk22.loose) (d := HandSHeadRun.topDef (OpenLaw.row PySem.Challenge.rw_neverbest_k22_weak_strikes_told).prog 56) (kwd := []) Kk22.ob_eq
    (by kernel_rfl) (fun s => by kernel_rfl) Kk22.run (by kernel_rfl) (by kernel_rfl) (by kernel_rfl) (by rfl) (by first | assumption | decide +kernel) (by decide +kernel) ⟨rfl, rfl, rfl, rfl, rfl, by decide +kernel⟩ ?hw ?hc
  case hw => w_witness2
  case hc =>
    refine Pv.walk_end (l := PySem.Challenge.rw_neverbest_k22_weak_strikes_told) (n := 63) (k := 12) (x := "_law_script") (m := fun ns => Kk22.m_law (Pv.mFeed ns (Kk22.osOf ns))) rfl (by decide) (by kernel_rfl) ⟨rfl, by decide, by decide⟩ ?F (fun ns _ => Kk22.law_true ns)
    intro w mg fa h Y G hmg0
    obtain ⟨K, KX, c⟩ := Y
    have hmg : mg ("law" : PySem.Str) = some (.ref fa) := by
      have e : (HandSHeadRun.topDef (OpenLaw.row PySem.Challenge.rw_neverbest_k22_weak_strikes_told).prog 56).name = ("law" : PySem.Str) := by kernel_rfl
      rw [← e]
      exact hmg0
    have hE : ∀ base : Heap, (∀ p ∈ Kk22.tf.map (He.cT K), LamX.TabB base mg p.1 p.2) → Kk22.EnvX (PySem.Challenge.rw_neverbest_k22_weak_strikes_told).prog K mg base := fun base hT => ⟨⟨by kernel_rfl, by kernel_rfl, He.free_ok KX G (c.d.fact 60 (f := .free "super") rfl)⟩, fun p hp => hT _ (List.mem_map.mpr ⟨p, hp, rfl⟩), of_decide_eq_true (Kk22.ex_at c.more 1)⟩
    obtain ⟨fd, hb, hF⟩ := Kk22.facts (P := (PySem.Challenge.rw_neverbest_k22_weak_strikes_told).prog) (w := w) KX G hmg c hE
    exact ⟨K, Kk22.C K, fd, _, rfl, KX, c.endT KX, fun p hp => by obtain ⟨q, hq, rfl⟩ := List.mem_map.mp hp; exact List.mem_map.mpr ⟨_, List.mem_map.mpr ⟨q, hq, rfl⟩, rfl⟩, hb, fun ns _ base k1 k2 k3 => hF ns base k1 k2 k3⟩
