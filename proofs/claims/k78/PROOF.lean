import PyProof.Rows.All
import KE.KNest
import Wide.All
import OpenK.AllK
import Wide.FinOn
import HandS.ForMost
import HandS.Exc
import HandS.TryOnly
import HandS.ExcOwn
import HandS.WordsExc
import HandS.Walk
import HandS.TupAny
import HandS.TupMul
import HandS.IsInst
import HandS.Deep
import HandS.Style
import KE.KDictKeyed
import KE.KDictDisplayH
import HandS.Lambda
import KE.GoesEnum
import HandS.Small
import HandS.EndTab
import PyProof.ReprLen
import HandS.Conv
import HandS.Strs
import HandS.Head0
import HandS.Head1
import HandS.Head2
import HandS.HeadHook1
import HandS.HeadHook4
import HandS.Zip
import HandS.Sort
import HandS.TupLe
import KE.DataMinKey
import PySem.Challenge.RW_manylocks_k78_whole_ranks_and_who_is_for
/-! Tb: the defs of this law that make lambdas. -/
namespace Dn
open PySem
def lamL : List Str := ["highest"]
end Dn
set_option Elab.async false
set_option linter.all false
set_option maxRecDepth 100000
/-! Dn0: values, the store of lists and dicts, results; what stands for what. -/
namespace Dn
open PySem L2

inductive D where
  | non | bl (b : Bool) | int (i : Int) | str (x : Str) | tup (xs : List D) | ro (xs : List D) | cell (n : Nat) | rng (i j : Int)
inductive C where
  | lst (xs : List D) | dic (kvs : List (Key × D)) | dik (kvs : List (NestedKey × D))
abbrev Sto := List C
abbrev En := List (Option D)
inductive Res (α : Type) where
  | ok (a : α) (S : Sto) | exc (c : Str) (S : Sto) | bad
def Res.bnd {α β : Type} (r : Res α) (f : α → Sto → Res β) : Res β := match r with
  | .ok a S => f a S
  | .exc c S => .exc c S
  | .bad => .bad
@[simp] theorem bnd_ok {α β : Type} (a : α) (S : Sto) (f : α → Sto → Res β) : (Res.ok a S).bnd f = f a S := rfl
@[simp] theorem bnd_exc {α β : Type} (c : Str) (S : Sto) (f : α → Sto → Res β) : (Res.exc c S).bnd f = .exc c S := rfl
@[simp] theorem bnd_bad {α β : Type} (f : α → Sto → Res β) : (Res.bad : Res α).bnd f = .bad := rfl
abbrev DE := En → Sto → Res D
abbrev DT := En → Sto → Res Bool
abbrev DA := En → Sto → Res (List D)
abbrev DO := En → Sto → Res (Option Int)
/-- how a statement ends -/
inductive Out where
  | nx (δ : En) (S : Sto) | rt (d : D) (S : Sto) | bk (δ : En) (S : Sto) | ct (δ : En) (S : Sto) | exc (c : Str) (S : Sto) | bad
abbrev DS := En → Sto → Out
abbrev DF := List D → Sto → Res D

/-! ### what stands for what -/
mutual
inductive Dv (K : PySem.W.Frag) (ρ : List Addr) (H : Hp) : V → D → Prop
  | non : Dv K ρ H .non .non
  | bl (b : Bool) : Dv K ρ H (.bl b) (.bl b)
  | int (i : Int) : Dv K ρ H (.int i) (.int i)
  | str (x : Str) : Dv K ρ H (.str x) (.str x)
  | tup {a : Addr} {xs : List V} {ds : List D} : SqT K H a xs → DvAll K ρ H xs ds → Dv K ρ H (.ref a) (.tup ds)
  | ro {a : Addr} {xs : List V} {ds : List D} : SqL K H a xs → ((∃ o, H a = some (.frz o (.lst xs))) ∨ ∀ H', SqL K H' a xs) → DvAll K ρ H xs ds → Dv K ρ H (.ref a) (.ro ds)
  | cell {a : Addr} {n : Nat} : ρ[n]? = some a → Dv K ρ H (.ref a) (.cell n)
  | rng {a : Addr} {i j : Int} : H a = some (.rng i j) → Dv K ρ H (.ref a) (.rng i j)
inductive DvAll (K : PySem.W.Frag) (ρ : List Addr) (H : Hp) : List V → List D → Prop
  | nil : DvAll K ρ H [] []
  | cons {v : V} {vs : List V} {d : D} {ds : List D} : Dv K ρ H v d → DvAll K ρ H vs ds → DvAll K ρ H (v :: vs) (d :: ds)
end
inductive DvKs (K : PySem.W.Frag) (ρ : List Addr) (H : Hp) : List (Key × V) → List (Key × D) → Prop
  | nil : DvKs K ρ H [] []
  | cons {k : Key} {v : V} {vs : List (Key × V)} {d : D} {ds : List (Key × D)} : Dv K ρ H v d → DvKs K ρ H vs ds → DvKs K ρ H ((k, v) :: vs) ((k, d) :: ds)
/-! ### dicts whose keys are tuples (no texts within) -/
mutual
def txl : NestedKey → Bool
  | .none => true
  | .num _ => true
  | .text _ => false
  | .tup ks => txlAll ks
def txlAll : List NestedKey → Bool
  | [] => true
  | k :: ks => txl k && txlAll ks
end
mutual
def hash0 : NestedKey → Int
  | .none => reduceHash 0xFCA86420
  | .num i => hashInt i
  | .text _ => 0
  | .tup ks => reduceHash (Builtin.Tuple.tupleHashOf (hash0s ks))
def hash0s : List NestedKey → List Int
  | [] => []
  | k :: ks => hash0 k :: hash0s ks
end
mutual
theorem hash0_eq (w : World) : ∀ {k : NestedKey}, txl k = true → k.hash w = hash0 k
  | .none, _ => by simp only [NestedKey.hash, hash0]
  | .num i, _ => by simp only [NestedKey.hash, hash0]
  | .text _, h => by simp [txl] at h
  | .tup ks, h => by
    simp only [NestedKey.hash, hash0]
    rw [hash0s_eq w (by simpa [txl] using h)]
theorem hash0s_eq (w : World) : ∀ {ks : List NestedKey}, txlAll ks = true → NestedKey.hashes w ks = hash0s ks
  | [], _ => by simp only [NestedKey.hashes, hash0s]
  | k :: ks, h => by
    simp only [txlAll, Bool.and_eq_true] at h
    simp only [NestedKey.hashes, hash0s]
    rw [hash0_eq w h.1, hash0s_eq w h.2]
end
mutual
def keyD : D → Option NestedKey
  | .non => some .none
  | .bl b => some (.num (if b = true then 1 else 0))
  | .int i => some (.num i)
  | .str x => some (.text x)
  | .tup ds => (keyDs ds).map .tup
  | _ => none
def keyDs : List D → Option (List NestedKey)
  | [] => some []
  | d :: ds => match keyD d, keyDs ds with
    | some k, some ks => some (k :: ks)
    | _, _ => none
end
def ent0 (x : NestedKey × Addr × Value) : DictEntry := ⟨hash0 x.1, .ref x.2.1, x.2.2⟩
/-- the dict object's content -/
def DkO (a : Addr) (xs : List (NestedKey × Addr × V)) : HO := .ext fun h => (a == sysModules) = false ∧ ∃ (ys : List (NestedKey × Addr × Value)) (o : Obj) (es : Array DictEntry) (ep : Nat),
  Paired (fun (p : NestedKey × Addr × V) (q : NestedKey × Addr × Value) => p.1 = q.1 ∧ p.2.1 = q.2.1 ∧ RelV p.2.2 q.2.2) xs ys ∧ h.get? a = some o ∧ o.ExactDict ∧ o.data = .dict es ep ∧ es.toList = ys.map ent0 ∧ (ys.map (·.1)).Nodup
inductive DkR (K : PySem.W.Frag) (ρ : List Addr) (H : Hp) : List (NestedKey × Addr × V) → List (NestedKey × D) → Prop
  | nil : DkR K ρ H [] []
  | cons {k : NestedKey} {b : Addr} {v : V} {ds : List D} {d : D} {xs : List (NestedKey × Addr × V)} {kvs : List (NestedKey × D)} : Dv K ρ H (.ref b) (.tup ds) → keyD (.tup ds) = some k → txl k = true → k.depth ≤ 8 → Dv K ρ H v d → DkR K ρ H xs kvs → DkR K ρ H ((k, b, v) :: xs) ((k, d) :: kvs)
def CellR (K : PySem.W.Frag) (ρ : List Addr) (H : Hp) (a : Addr) : C → Prop
  | .lst ds => ∃ xs, H a = some (.lst xs) ∧ DvAll K ρ H xs ds
  | .dic kvs => ∃ kws, H a = some (.dK kws) ∧ DvKs K ρ H kws kvs
  | .dik kvs => ∃ xs, H a = some (DkO a xs) ∧ DkR K ρ H xs kvs
/-- the lambda's own name, made in the def x -/
def lamQ (x : Str) : Str := (x ++ ".<locals>.") ++ "<lambda>"
/-- the tables of the defs that make lambdas -/
def TTof (K : PySem.W.Frag) : List (Addr × Str) := lamL.filterMap fun x => (PySem.W.tabIn K x).map fun p => (p.2, lamQ x)
structure Rep (K : PySem.W.Frag) (ρ : List Addr) (H : Hp) (S : Sto) : Prop where
  len : ρ.length = S.length
  inj : ∀ (i j : Nat) (a : Addr), ρ[i]? = some a → ρ[j]? = some a → i = j
  «at» : ∀ (n : Nat) (a : Addr) (c : C), ρ[n]? = some a → S[n]? = some c → CellR K ρ H a c
  tab : LamX.Tabs (TTof K) H
/-- what comes later -/
structure Ext (ρ : List Addr) (H : Hp) (ρ' : List Addr) (H' : Hp) : Prop where
  pre : ∀ (n : Nat) (a : Addr), ρ[n]? = some a → ρ'[n]? = some a
  tup : ∀ a xs, H a = some (.tup xs) → H' a = some (.tup xs)
  frz : ∀ a o u, H a = some (.frz o u) → H' a = some (.frz o u)
  rng : ∀ a i j, H a = some (.rng i j) → H' a = some (.rng i j)
theorem Ext.refl (ρ : List Addr) (H : Hp) : Ext ρ H ρ H := ⟨fun _ _ h => h, fun _ _ h => h, fun _ _ _ h => h, fun _ _ _ h => h⟩
theorem Ext.trans {ρ ρ1 ρ2 : List Addr} {H H1 H2 : Hp} (a : Ext ρ H ρ1 H1) (b : Ext ρ1 H1 ρ2 H2) : Ext ρ H ρ2 H2 :=
  ⟨fun n x h => b.pre n x (a.pre n x h), fun x xs h => b.tup x xs (a.tup x xs h), fun x o u h => b.frz x o u (a.frz x o u h), fun x o u h => b.rng x o u (a.rng x o u h)⟩
theorem Ext.sqT {K : PySem.W.Frag} {ρ ρ' : List Addr} {H H' : Hp} {a : Addr} {xs : List V} (e : Ext ρ H ρ' H') (h : SqT K H a xs) : SqT K H' a xs := by
  rcases h with (h | ⟨o, h⟩) | h
  · exact .inl (.inl (e.tup _ _ h))
  · exact .inl (.inr ⟨o, e.frz _ _ _ h⟩)
  · exact .inr h
/-- a new object -/
theorem Ext.new {ρ : List Addr} {H : Hp} {p : Addr} {o : HO} (h : H p = none) : Ext ρ H ρ (upd H p o) :=
  ⟨fun _ _ h => h, fun a xs e => by rw [upd_ne (ne_of_none e h)]; exact e, fun a o u e => by rw [upd_ne (ne_of_none e h)]; exact e, fun a o u e => by rw [upd_ne (ne_of_none e h)]; exact e⟩
theorem Ext.newC {ρ : List Addr} {H : Hp} {p : Addr} {o : HO} (h : H p = none) : Ext ρ H (ρ ++ [p]) (upd H p o) :=
  ⟨fun n a e => by
    rw [List.getElem?_append_left (List.getElem?_eq_some_iff.mp e).1]
    exact e, (Ext.new (ρ := ρ) h).tup, (Ext.new (ρ := ρ) h).frz, (Ext.new (ρ := ρ) h).rng⟩
/-- what may be written -/
def MutH (o : HO) : Prop := (∀ xs, o ≠ .tup xs) ∧ (∀ z u, o ≠ .frz z u) ∧ (∀ i j, o ≠ .rng i j) ∧ (∀ ps, o ≠ .tbl ps) ∧ ∀ c q, o ≠ LamX.CodeO c q
theorem dkO_ne (a : Addr) (xs : List (NestedKey × Addr × V)) (c : Addr) (q : Str) : DkO a xs ≠ LamX.CodeO c q := by
  intro z
  unfold DkO LamX.CodeO at z
  have e := HO.ext.inj z
  let o : Obj := { cls := .none, data := .fields #[.none, .str q 0] }
  let h : Heap := { objs := Array.replicate (c + 1) o }
  have g : ∀ b ob, h.get? b = some ob → ob = o := fun b ob hb => by
    unfold Heap.get? at hb
    by_cases hl : b < c + 1
    · have e1 : h.objs[b]? = some o := by simp [h, hl]
      rw [e1] at hb
      exact (Option.some.inj hb).symm
    · have e1 : h.objs[b]? = none := Array.getElem?_eq_none (by show (Array.replicate (c + 1) o).size ≤ b; rw [Array.size_replicate]; exact Nat.le_of_not_lt hl)
      rw [e1] at hb
      cases hb
  have gc : h.get? c = some o := by
    unfold Heap.get?
    have e1 : h.objs[c]? = some o := by simp [h]
    rw [e1]
  have t := (congrFun e h).mpr ⟨o, _, 0, gc, rfl, rfl⟩
  obtain ⟨_, ys, ob, es, ep, _, h1, _, h2, _⟩ := t
  rw [g _ _ h1] at h2
  cases h2
theorem tabs_keep {T : List (Addr × Str)} {H H' : Hp} (t : LamX.Tabs T H) (e : ∀ b o, H b = some o → (∃ ps, o = .tbl ps) ∨ (∃ c q, o = LamX.CodeO c q) → H' b = some o) : LamX.Tabs T H' := fun p hp => by
  obtain ⟨ps, h1, h2, h3⟩ := t p hp
  refine ⟨ps, e _ _ h1 (.inl ⟨_, rfl⟩), h2, fun pos cv hc => ?_⟩
  obtain ⟨c, e1, e2⟩ := h3 pos cv hc
  exact ⟨c, e1, e _ _ e2 (.inr ⟨_, _, rfl⟩)⟩
/-- a mutable object is changed -/
theorem Ext.write {ρ : List Addr} {H : Hp} {p : Addr} {o : HO} (hm : ∃ q, H p = some q ∧ MutH q) : Ext ρ H ρ (upd H p o) := by
  obtain ⟨q, hq, m1, m2, m3, _⟩ := hm
  have ne : ∀ a u, H a = some u → u ≠ q → a ≠ p := fun a u e h1 z => by
    subst z
    rw [e] at hq
    exact h1 (Option.some.inj hq)
  refine ⟨fun _ _ h => h, fun a xs e => ?_, fun a o u e => ?_, fun a i j e => ?_⟩
  · rw [upd_ne (ne a _ e fun z => m1 _ z.symm)]
    exact e
  · rw [upd_ne (ne a _ e fun z => m2 _ _ z.symm)]
    exact e
  · rw [upd_ne (ne a _ e fun z => m3 _ _ z.symm)]
    exact e
section
variable {K : PySem.W.Frag} {ρ ρ' : List Addr} {H H' : Hp}
mutual
theorem Dv.mono (e : Ext ρ H ρ' H') : ∀ {d : D} {v : V}, Dv K ρ H v d → Dv K ρ' H' v d
  | .non, _, h => by cases h; exact .non
  | .bl b, _, h => by cases h; exact .bl b
  | .int b, _, h => by cases h; exact .int b
  | .str b, _, h => by cases h; exact .str b
  | .cell n, _, h => by cases h with | cell q => exact .cell (e.pre _ _ q)
  | .rng i j, _, h => by cases h with | rng q => exact .rng (e.rng _ _ _ q)
  | .tup ds, _, h => by cases h with | tup q r => exact .tup (e.sqT q) (DvAll.mono e r)
  | .ro ds, _, h => by
    cases h with
    | ro q f r =>
      refine .ro ?_ ?_ (DvAll.mono e r)
      · rcases f with ⟨o, f⟩ | f
        · exact .inl (.inr ⟨o, e.frz _ _ _ f⟩)
        · exact f H'
      · rcases f with ⟨o, f⟩ | f
        · exact .inl ⟨o, e.frz _ _ _ f⟩
        · exact .inr f
theorem DvAll.mono (e : Ext ρ H ρ' H') : ∀ {ds : List D} {vs : List V}, DvAll K ρ H vs ds → DvAll K ρ' H' vs ds
  | [], _, h => by cases h; exact .nil
  | d :: ds, _, h => by cases h with | cons a b => exact .cons (Dv.mono e a) (DvAll.mono e b)
end
theorem DvKs.mono (e : Ext ρ H ρ' H') : ∀ {ds : List (Key × D)} {vs : List (Key × V)}, DvKs K ρ H vs ds → DvKs K ρ' H' vs ds
  | [], _, h => by cases h; exact .nil
  | d :: ds, _, h => by cases h with | cons a b => exact .cons (a.mono e) (DvKs.mono e b)
theorem DkR.mono (e : Ext ρ H ρ' H') : ∀ {ds : List (NestedKey × D)} {vs : List (NestedKey × Addr × V)}, DkR K ρ H vs ds → DkR K ρ' H' vs ds
  | [], _, h => by cases h; exact .nil
  | d :: ds, _, h => by cases h with | cons a b c d' e' f => exact .cons (a.mono e) b c d' (e'.mono e) (DkR.mono e f)
theorem DvAll.length : ∀ {vs : List V} {ds : List D}, DvAll K ρ H vs ds → vs.length = ds.length
  | _, _, .nil => rfl
  | _, _, .cons _ t => congrArg Nat.succ (DvAll.length t)
theorem DvAll.get : ∀ {vs : List V} {ds : List D} {i : Nat} {d : D}, DvAll K ρ H vs ds → ds[i]? = some d → ∃ v, vs[i]? = some v ∧ Dv K ρ H v d
  | _, _, _, _, .nil, e => by simp at e
  | _, _, 0, _, .cons r _, e => by simp at e; subst e; exact ⟨_, rfl, r⟩
  | _, _, i + 1, d, .cons _ t, e => by
    obtain ⟨u, h1, h2⟩ := DvAll.get (i := i) (d := d) t (by simpa using e)
    exact ⟨u, by simpa using h1, h2⟩
theorem DvAll.getV : ∀ {vs : List V} {ds : List D} {i : Nat} {v : V}, DvAll K ρ H vs ds → vs[i]? = some v → ∃ d, ds[i]? = some d ∧ Dv K ρ H v d
  | _, _, _, _, .nil, e => by simp at e
  | _, _, 0, _, .cons r _, e => by simp at e; subst e; exact ⟨_, rfl, r⟩
  | _, _, i + 1, d, .cons _ t, e => by
    obtain ⟨u, h1, h2⟩ := DvAll.getV (i := i) (v := d) t (by simpa using e)
    exact ⟨u, by simpa using h1, h2⟩
theorem DvAll.append : ∀ {vs ws : List V} {ds es : List D}, DvAll K ρ H vs ds → DvAll K ρ H ws es → DvAll K ρ H (vs ++ ws) (ds ++ es)
  | _, _, _, _, .nil, s => s
  | _, _, _, _, .cons r t, s => .cons r (DvAll.append t s)
theorem DvAll.take : ∀ {vs : List V} {ds : List D} (n : Nat), DvAll K ρ H vs ds → DvAll K ρ H (vs.take n) (ds.take n)
  | _, _, 0, _ => .nil
  | _, _, _ + 1, .nil => .nil
  | _, _, n + 1, .cons r t => .cons r (DvAll.take n t)
theorem DvAll.drop : ∀ {vs : List V} {ds : List D} (n : Nat), DvAll K ρ H vs ds → DvAll K ρ H (vs.drop n) (ds.drop n)
  | _, _, 0, r => r
  | _, _, _ + 1, .nil => .nil
  | _, _, n + 1, .cons _ t => DvAll.drop n t
theorem DvAll.set {v : V} {d : D} (r : Dv K ρ H v d) : ∀ {vs : List V} {ds : List D} (i : Nat), DvAll K ρ H vs ds → DvAll K ρ H (vs.set i v) (ds.set i d)
  | _, _, _, .nil => .nil
  | _, _, 0, .cons _ t => .cons r t
  | _, _, i + 1, .cons q t => .cons q (DvAll.set r i t)
theorem DvAll.eraseIdx : ∀ {vs : List V} {ds : List D} (i : Nat), DvAll K ρ H vs ds → DvAll K ρ H (vs.eraseIdx i) (ds.eraseIdx i)
  | _, _, _, .nil => .nil
  | _, _, 0, .cons _ t => t
  | _, _, i + 1, .cons q t => .cons q (DvAll.eraseIdx i t)
theorem DvAll.dropLast {vs : List V} {ds : List D} (h : DvAll K ρ H vs ds) : DvAll K ρ H vs.dropLast ds.dropLast := by
  rw [List.dropLast_eq_take, List.dropLast_eq_take, h.length]
  exact h.take _
theorem DvAll.rep {vs : List V} {ds : List D} (h : DvAll K ρ H vs ds) : ∀ k : Nat, DvAll K ρ H (List.replicate k vs).flatten (List.replicate k ds).flatten
  | 0 => .nil
  | k + 1 => by
    rw [List.replicate_succ, List.replicate_succ, List.flatten_cons, List.flatten_cons]
    exact h.append (DvAll.rep h k)
theorem DvAll.nil_iff {vs : List V} {ds : List D} (h : DvAll K ρ H vs ds) : vs = [] ↔ ds = [] := by
  cases h with
  | nil => exact ⟨fun _ => rfl, fun _ => rfl⟩
  | cons a b => exact ⟨fun z => (by cases z), fun z => (by cases z)⟩
theorem CellR.mono (e : Ext ρ H ρ' H') {a : Addr} {c : C} (h : CellR K ρ H a c) (ha : H' a = H a) : CellR K ρ' H' a c := by
  cases c with
  | lst ds =>
    obtain ⟨xs, h1, h2⟩ := h
    exact ⟨xs, ha.trans h1, h2.mono e⟩
  | dic kvs =>
    obtain ⟨xs, h1, h2⟩ := h
    exact ⟨xs, ha.trans h1, h2.mono e⟩
  | dik kvs =>
    obtain ⟨xs, h1, h2⟩ := h
    exact ⟨xs, ha.trans h1, h2.mono e⟩
theorem CellR.mut {a : Addr} {c : C} (h : CellR K ρ H a c) : ∃ q, H a = some q ∧ MutH q := by
  cases c with
  | lst ds =>
    obtain ⟨xs, h1, h2⟩ := h
    exact ⟨_, h1, fun _ z => (by cases z), fun _ _ z => (by cases z), fun _ _ z => (by cases z), fun _ z => (by cases z), fun _ _ z => (by unfold LamX.CodeO at z; cases z)⟩
  | dic kvs =>
    obtain ⟨xs, h1, h2⟩ := h
    exact ⟨_, h1, fun _ z => (by cases z), fun _ _ z => (by cases z), fun _ _ z => (by cases z), fun _ z => (by cases z), fun _ _ z => (by unfold LamX.CodeO at z; cases z)⟩
  | dik kvs =>
    obtain ⟨xs, h1, h2⟩ := h
    exact ⟨_, h1, fun _ z => (by unfold DkO at z; cases z), fun _ _ z => (by unfold DkO at z; cases z), fun _ _ z => (by unfold DkO at z; cases z), fun _ z => (by unfold DkO at z; cases z), fun c q z => dkO_ne _ _ c q z⟩
theorem CellR.some {a : Addr} {c : C} (h : CellR K ρ H a c) : ∃ o, H a = some o := by
  obtain ⟨q, h, _⟩ := h.mut
  exact ⟨_, h⟩
end
section
variable {K : PySem.W.Frag} {ρ : List Addr} {H : Hp} {S : Sto}
theorem Rep.cell (R : Rep K ρ H S) {n : Nat} {a : Addr} (h : ρ[n]? = some a) : ∃ c, S[n]? = some c ∧ CellR K ρ H a c := by
  have hn : n < S.length := by
    rw [← R.len]
    exact (List.getElem?_eq_some_iff.mp h).1
  exact ⟨S[n], List.getElem?_eq_getElem hn, R.at n a _ h (List.getElem?_eq_getElem hn)⟩
theorem Rep.tracked (R : Rep K ρ H S) {n : Nat} {a : Addr} (h : ρ[n]? = some a) : ∃ o, H a = some o := by
  obtain ⟨c, _, q⟩ := R.cell h
  exact q.some
theorem Rep.lst (R : Rep K ρ H S) {n : Nat} {a : Addr} {ds : List D} (h : ρ[n]? = some a) (hs : S[n]? = some (.lst ds)) : ∃ xs, H a = some (.lst xs) ∧ DvAll K ρ H xs ds := R.at n a _ h hs
/-- a new tuple (or whatever is no cell) -/
theorem Rep.new (R : Rep K ρ H S) {p : Addr} {o : HO} (h : H p = none) : Rep K ρ (upd H p o) S := by
  refine ⟨R.len, R.inj, fun n a c h1 h2 => ?_, R.tab.ext fun b o e => (upd_ne (ne_of_none e h)).trans e⟩
  obtain ⟨u, hu⟩ := R.tracked h1
  exact (R.at n a c h1 h2).mono (Ext.new h) (upd_ne (ne_of_none hu h))
/-- a new cell -/
theorem Rep.newC (R : Rep K ρ H S) {p : Addr} {o : HO} {c : C} (h : H p = none) (hc : CellR K (ρ ++ [p]) (upd H p o) p c) : Rep K (ρ ++ [p]) (upd H p o) (S ++ [c]) := by
  have old : ∀ (n : Nat) (a : Addr), (ρ ++ [p])[n]? = some a → (ρ[n]? = some a ∧ n < ρ.length) ∨ (n = ρ.length ∧ a = p) := fun n a e => by
    by_cases hn : n < ρ.length
    · rw [List.getElem?_append_left hn] at e
      exact .inl ⟨e, hn⟩
    · rw [List.getElem?_append_right (Nat.le_of_not_lt hn)] at e
      have := (List.getElem?_eq_some_iff.mp e).1
      have hz : n - ρ.length = 0 := by
        simp at this
        omega
      rw [hz] at e
      exact .inr ⟨by omega, (Option.some.inj e).symm⟩
  refine ⟨by rw [List.length_append, List.length_append, R.len]; rfl, fun i j a h1 h2 => ?_, fun n a c' h1 h2 => ?_, R.tab.ext fun b o e => (upd_ne (ne_of_none e h)).trans e⟩
  · rcases old i a h1 with ⟨q1, _⟩ | ⟨q1, q2⟩
    · rcases old j a h2 with ⟨r1, _⟩ | ⟨r1, r2⟩
      · exact R.inj i j a q1 r1
      · obtain ⟨u, hu⟩ := R.tracked q1
        rw [r2, h] at hu
        cases hu
    · rcases old j a h2 with ⟨r1, _⟩ | ⟨r1, r2⟩
      · obtain ⟨u, hu⟩ := R.tracked r1
        rw [q2, h] at hu
        cases hu
      · omega
  · rcases old n a h1 with ⟨q1, q2⟩ | ⟨q1, q2⟩
    · rw [List.getElem?_append_left (by rw [← R.len]; exact q2)] at h2
      obtain ⟨u, hu⟩ := R.tracked q1
      exact (R.at n a c' q1 h2).mono (Ext.newC h) (upd_ne (ne_of_none hu h))
    · rw [q1, R.len, List.getElem?_append_right (Nat.le_refl _), Nat.sub_self] at h2
      have e : c = c' := Option.some.inj h2
      rw [← e, q2]
      exact hc
/-- a cell is changed -/
theorem Rep.write (R : Rep K ρ H S) {n : Nat} {a : Addr} {o : HO} {c : C} (hn : ρ[n]? = some a) (hc : CellR K ρ (upd H a o) a c) : Rep K ρ (upd H a o) (S.set n c) := by
  obtain ⟨c0, h0, q0⟩ := R.cell hn
  have e : Ext ρ H ρ (upd H a o) := Ext.write q0.mut
  refine ⟨by rw [List.length_set]; exact R.len, R.inj, fun i b c' h1 h2 => ?_, tabs_keep R.tab fun b u e q => ?_⟩
  case refine_2 =>
    obtain ⟨z, hz, m⟩ := q0.mut
    refine (upd_ne fun hb => ?_).trans e
    rw [hb, hz] at e
    cases e
    rcases q with ⟨ps, rfl⟩ | ⟨c1, q1, rfl⟩
    · exact m.2.2.2.1 ps rfl
    · exact m.2.2.2.2 c1 q1 rfl
  by_cases hi : n = i
  · subst hi
    rw [List.getElem?_set_self (List.getElem?_eq_some_iff.mp h0).1] at h2
    rw [hn] at h1
    cases h1
    cases h2
    exact hc
  · rw [List.getElem?_set_ne hi] at h2
    have hb : b ≠ a := fun z => hi (R.inj n i a hn (z ▸ h1))
    exact (R.at i b c' h1 h2).mono e (upd_ne hb)
theorem Rep.ext_write (R : Rep K ρ H S) {n : Nat} {a : Addr} {o : HO} (hn : ρ[n]? = some a) : Ext ρ H ρ (upd H a o) := by
  obtain ⟨c0, h0, q0⟩ := R.cell hn
  exact Ext.write q0.mut
end

/-! ### the names' values -/
structure EnvR (K : PySem.W.Frag) (ρ : List Addr) (H : Hp) (σ : L2.St) (δ : En) : Prop where
  len : δ.length = σ.length
  «at» : ∀ (i : Nat) (d : D), δ[i]? = some (some d) → ∃ v, σ[i]? = some (some v) ∧ Dv K ρ H v d
theorem EnvR.mono {K : PySem.W.Frag} {ρ ρ' : List Addr} {H H' : Hp} {σ : L2.St} {δ : En} (e : Ext ρ H ρ' H') (h : EnvR K ρ H σ δ) : EnvR K ρ' H' σ δ :=
  ⟨h.len, fun i d q => let ⟨v, a, b⟩ := h.at i d q; ⟨v, a, b.mono e⟩⟩
theorem EnvR.set {K : PySem.W.Frag} {ρ : List Addr} {H : Hp} {σ : L2.St} {δ : En} (h : EnvR K ρ H σ δ) (i : Nat) {v : V} {d : D} (r : Dv K ρ H v d) : EnvR K ρ H (σ.set i (some v)) (δ.set i (some d)) := by
  refine ⟨by rw [List.length_set, List.length_set]; exact h.len, fun j e q => ?_⟩
  by_cases hj : i = j
  · subst hj
    have hl : i < δ.length := by
      have := (List.getElem?_eq_some_iff.mp q).1
      rw [List.length_set] at this
      exact this
    rw [List.getElem?_set_self hl] at q
    cases q
    exact ⟨v, List.getElem?_set_self (by rw [← h.len]; exact hl), r⟩
  · rw [List.getElem?_set_ne hj] at q
    rw [List.getElem?_set_ne hj]
    exact h.at j e q
def wipeD (δ : En) : List Nat → En
  | [] => δ
  | v :: vs => (wipeD δ vs).set v none
theorem EnvR.wipe {K : PySem.W.Frag} {ρ : List Addr} {H : Hp} {σ : L2.St} {δ : En} (h : EnvR K ρ H σ δ) : ∀ vs : List Nat, EnvR K ρ H (L2.wipe σ vs) (wipeD δ vs)
  | [] => h
  | v :: vs => by
    have ih := EnvR.wipe h vs
    refine ⟨by show (List.set _ _ _).length = (List.set _ _ _).length; rw [List.length_set, List.length_set]; exact ih.len, fun j e q => ?_⟩
    have q' : ((wipeD δ vs).set v none)[j]? = some (some e) := q
    show ∃ w, ((L2.wipe σ vs).set v none)[j]? = some (some w) ∧ _
    by_cases hj : v = j
    · subst hj
      rw [List.getElem?_set, if_pos rfl] at q'
      split at q' <;> cases q'
    · rw [List.getElem?_set_ne hj] at q'
      rw [List.getElem?_set_ne hj]
      exact ih.at j e q'
end Dn
set_option Elab.async false
set_option linter.all false
set_option maxRecDepth 100000
set_option maxHeartbeats 1000000
/-! Dn1: what a result asks; expressions. -/
noncomputable section
namespace Dn
open PySem PySem.Spec PyProof.Rows L2

/-! ### what a result asks of what comes -/
structure Wt where
  K : PySem.W.Frag
  cl : Str → Value
  E : XK
section
variable {α β γ β' : Type}
def Post (W : Wt) (Rl : List Addr → Hp → β → α → Prop) (ρ : List Addr) (H : Hp) (r : Res α) (Q : β → Hp → Prop) : Prop := match r with
  | .ok d S' => ∀ ρ' H' v, Ext ρ H ρ' H' → Rep W.K ρ' H' S' → Rl ρ' H' v d → Q v H'
  | .exc c S' => ∀ ρ' H', Ext ρ H ρ' H' → Rep W.K ρ' H' S' → W.E (W.cl c) none H'
  | .bad => False
def rlB : List Addr → Hp → Bool → Bool → Prop := fun _ _ v d => v = d
def rlO : List Addr → Hp → Option Int → Option Int → Prop := fun _ _ v d => v = d
variable {W : Wt} {Rl : List Addr → Hp → β → α → Prop} {Rl' : List Addr → Hp → β' → γ → Prop} {ρ ρ' : List Addr} {H H' : Hp}
theorem Post.base {r : Res α} {Q : β → Hp → Prop} (e : Ext ρ H ρ' H') (h : Post W Rl ρ H r Q) : Post W Rl ρ' H' r Q := by
  cases r with
  | ok d S => exact fun ρ2 H2 v e2 R d => h ρ2 H2 v (e.trans e2) R d
  | exc c S => exact fun ρ2 H2 e2 R => h ρ2 H2 (e.trans e2) R
  | bad => exact h
theorem Post.imp {r : Res α} {Q Q' : β → Hp → Prop} (h : Post W Rl ρ H r Q) (q : ∀ v H', Q v H' → Q' v H') : Post W Rl ρ H r Q' := by
  cases r with
  | ok d S => exact fun ρ2 H2 v e2 R d => q _ _ (h ρ2 H2 v e2 R d)
  | exc c S => exact h
  | bad => exact h
/-- what stands between two steps -/
def Mid (W : Wt) (Rl : List Addr → Hp → β → α → Prop) (ρ : List Addr) (H : Hp) (v : β) (H1 : Hp) (k : List Addr → Sto → α → Prop) : Prop :=
  ∃ ρ1 S1 d, Ext ρ H ρ1 H1 ∧ Rep W.K ρ1 H1 S1 ∧ Rl ρ1 H1 v d ∧ k ρ1 S1 d
theorem Post.bnd {r : Res α} {f : α → Sto → Res γ} {Q : β' → Hp → Prop} (h : Post W Rl' ρ H (r.bnd f) Q) : Post W Rl ρ H r (fun v H1 => Mid W Rl ρ H v H1 fun ρ1 S1 d => Post W Rl' ρ1 H1 (f d S1) Q) := by
  cases r with
  | ok d S => exact fun ρ2 H2 v e2 R dv => ⟨ρ2, S, d, e2, R, dv, Post.base e2 h⟩
  | exc c S => exact h
  | bad => exact h
end
/-- the reading of a denotation -/
def tG {α β : Type} (W : Wt) (Rl : List Addr → Hp → β → α → Prop) (de : En → Sto → Res α) : L2.St → Hp → (β → Hp → Prop) → Prop :=
  fun σ H Q => ∃ ρ δ S, Rep W.K ρ H S ∧ EnvR W.K ρ H σ δ ∧ Post W Rl ρ H (de δ S) Q
abbrev tE (W : Wt) (de : DE) : TE := tG W (Dv W.K) de
abbrev tT (W : Wt) (de : DT) : TT := tG W rlB de
abbrev tAs (W : Wt) (de : DA) : TA := tG W (DvAll W.K) de
abbrev tOp' (W : Wt) (de : DO) : TO := tG W rlO de
abbrev SE (X : Cx) (W : Wt) (e : Expr) (de : DE) : Prop := PE X e (tE W de)
abbrev ST (X : Cx) (W : Wt) (e : Expr) (de : DT) : Prop := PT X e (tT W de)
abbrev SA (X : Cx) (W : Wt) (es : List Expr) (de : DA) : Prop := PA X es (tAs W de)
theorem pe_imp {X : Cx} {e : Expr} {t t' : TE} (h : PE X e t) (i : ∀ σ H Q, t' σ H Q → t σ H Q) : PE X e t' := ⟨fun pins s σ H Q I q => h.run pins s σ H Q I (i σ H Q q)⟩
theorem pt_imp {X : Cx} {e : Expr} {t t' : TT} (h : PT X e t) (i : ∀ σ H Q, t' σ H Q → t σ H Q) : PT X e t' := ⟨fun pins s σ H Q I q => h.run pins s σ H Q I (i σ H Q q)⟩
theorem pw_imp {X : Cx} {e : Expr} {t t' : TT} (h : PW X e t) (i : ∀ σ H Q, t' σ H Q → t σ H Q) : PW X e t' := ⟨fun wh pins s σ H Q I q => h.run wh pins s σ H Q I (i σ H Q q)⟩
theorem pa_imp {X : Cx} {e : List Expr} {t t' : TA} (h : PA X e t) (i : ∀ σ H Q, t' σ H Q → t σ H Q) : PA X e t' := ⟨fun pos pins s σ H Q I q => h.run pos pins s σ H Q I (i σ H Q q)⟩
theorem po_imp {X : Cx} {e : Option Expr} {t t' : TO} (h : PO X e t) (i : ∀ σ H Q, t' σ H Q → t σ H Q) : PO X e t' := ⟨fun pins s σ H Q I q => h.run pins s σ H Q I (i σ H Q q)⟩
/-- from a reading to its first part -/
theorem tG.step {α β γ β' : Type} {W : Wt} {Rl : List Addr → Hp → β → α → Prop} {Rl' : List Addr → Hp → β' → γ → Prop} {da : En → Sto → Res α} {f : En → α → Sto → Res γ} {σ : L2.St} {H : Hp} {Q : β' → Hp → Prop} {Q' : β → Hp → Prop}
    (h : tG W Rl' (fun δ S => (da δ S).bnd (f δ)) σ H Q)
    (k : ∀ ρ δ ρ1 S1 H1 v d, EnvR W.K ρ1 H1 σ δ → Ext ρ H ρ1 H1 → Rep W.K ρ1 H1 S1 → Rl ρ1 H1 v d → Post W Rl' ρ1 H1 (f δ d S1) Q → Q' v H1) : tG W Rl da σ H Q' := by
  obtain ⟨ρ, δ, S, R, N, P⟩ := h
  exact ⟨ρ, δ, S, R, N, (Post.bnd P).imp fun v H1 ⟨ρ1, S1, d, e, R1, dv, P1⟩ => k ρ δ ρ1 S1 H1 v d (N.mono e) e R1 dv P1⟩
theorem Post.now {α β : Type} {W : Wt} {Rl : List Addr → Hp → β → α → Prop} {ρ : List Addr} {H : Hp} {d : α} {S : Sto} {Q : β → Hp → Prop} (h : Post W Rl ρ H (.ok d S) Q) {v : β} (R : Rep W.K ρ H S) (r : Rl ρ H v d) : Q v H := h ρ H v (Ext.refl ρ H) R r

/-! ### denotations of names and constants -/
def dVar (i : Nat) : DE := fun δ S => match δ[i]? with
  | some (some d) => .ok d S
  | _ => .bad
def dC (d : D) : DE := fun _ S => .ok d S
section
variable {X : Cx} {W : Wt}
theorem se_var (i : Nat) {x : Str} {pos : Pos} (hN : X.N[i]? = some x := by rfl) (hv : Vis X.env.scope x := by first | exact Or.inl rfl | exact Or.inr (Or.inl rfl) | exact Or.inr (Or.inr rfl)) (hd : (x == ("__debug__" : Str)) = false := by decide)
    (hcd : (x == ("__classdict__" : Str)) = false := by decide) : SE X W (.Name x pos) (dVar i) := by
  refine pe_imp (pe_var hN hv hd hcd) fun σ H Q ⟨ρ, δ, S, R, N, P⟩ => ?_
  unfold dVar at P
  cases e : δ[i]? with
  | none => rw [e] at P; exact P.elim
  | some o =>
    cases o with
    | none => rw [e] at P; exact P.elim
    | some d =>
      rw [e] at P
      obtain ⟨v, h1, h2⟩ := N.at i d e
      exact ⟨v, h1, P.now R h2⟩
theorem se_c {e : Expr} {v : V} {d : D} (h : PE X e (tC v)) (r : ∀ ρ H, Dv W.K ρ H v d) : SE X W e (dC d) :=
  pe_imp h fun σ H Q ⟨ρ, δ, S, R, N, P⟩ => P.now R (r ρ H)
theorem se_int {i j pos} : SE X W (.Constant (.int i) j pos) (dC (.int i)) := se_c pe_int fun _ _ => .int i
theorem se_bl {b j pos} : SE X W (.Constant (.bool b) j pos) (dC (.bl b)) := se_c pe_bl fun _ _ => .bl b
theorem se_non {j pos} : SE X W (.Constant .none j pos) (dC .non) := se_c pe_non fun _ _ => .non
theorem se_str {x j pos} : SE X W (.Constant (.str x) j pos) (dC (.str x)) := se_c pe_str fun _ _ => .str x
end

/-! ### two-place operators -/
def dBin (op : D → D → Sto → Res D) (a b : DE) : DE := fun δ S => (a δ S).bnd fun x S1 => (b δ S1).bnd fun y S2 => op x y S2
def rD2 (W : Wt) (op : D → D → Sto → Res D) : R2 := fun x y H Q => ∃ ρ S d e, Rep W.K ρ H S ∧ Dv W.K ρ H x d ∧ Dv W.K ρ H y e ∧ Post W (Dv W.K) ρ H (op d e S) Q
theorem tOp_of {W : Wt} {op : D → D → Sto → Res D} {da db : DE} {σ : L2.St} {H : Hp} {Q : VK} (h : tE W (dBin op da db) σ H Q) : L2.tOp (rD2 W op) (tE W da) (tE W db) σ H Q :=
  tG.step h fun ρ δ ρ1 S1 H1 v d N e R r P => ⟨ρ1, δ, S1, R, N, (Post.bnd P).imp fun y H2 ⟨ρ2, S2, d2, e2, R2, r2, P2⟩ => ⟨ρ2, S2, d, d2, R2, r.mono e2, r2, P2⟩⟩
abbrev OpD (X : Cx) (W : Wt) (f : Value → Value → Sem Value) (op : D → D → Sto → Res D) : Prop := OpR X f (rD2 W op)
section
variable {X : Cx} {W : Wt} {a b : Expr} {da db : DE} {pos : Pos}
theorem OpR.imp {f : Value → Value → Sem Value} {r r' : R2} (h : OpR X f r) (i : ∀ x y H Q, r' x y H Q → r x y H Q) : OpR X f r' := fun pins s σ H x y v u Q I rx ry q => h pins s σ H x y v u Q I rx ry (i _ _ _ _ q)
theorem OpR.or {f : Value → Value → Sem Value} {r r' : R2} (h : OpR X f r) (h' : OpR X f r') : OpR X f (fun x y H Q => r x y H Q ∨ r' x y H Q) := fun pins s σ H x y v u Q I rx ry q => by
  rcases q with q | q
  · exact h pins s σ H x y v u Q I rx ry q
  · exact h' pins s σ H x y v u Q I rx ry q
theorem se_bin {op : Operator} {g : D → D → Sto → Res D} (ho : OpD X W (binaryOp op) g) (ha : SE X W a da) (hb : SE X W b db) : SE X W (.BinOp a op b pos) (dBin g da db) := pe_imp (pe_op ho ha hb) fun _ _ _ h => tOp_of h
theorem se_cmp {op : CmpOp} {g : D → D → Sto → Res D} (ho : OpD X W (compareOp op) g) (ha : SE X W a da) (hb : SE X W b db) (hm : behindInMarks op b = false) : SE X W (.Compare a [op] [b] pos) (dBin g da db) := pe_imp (pe_cmpR ho ha hb hm) fun _ _ _ h => tOp_of h
end

/-! ### tests -/
/-- a truth value as a test -/
def asB (r : Res D) : Res Bool := r.bnd fun d S => match d with
  | .bl b => .ok b S
  | _ => .bad
def dB (de : DE) : DT := fun δ S => asB (de δ S)
theorem tTest_of {W : Wt} {de : DE} {σ : L2.St} {H : Hp} {Q : Bool → Hp → Prop} (h : tT W (dB de) σ H Q) : tTest (tE W de) σ H Q :=
  tG.step h fun ρ δ ρ1 S1 H1 v d N e R r P => by
    cases r with
    | bl b => exact ⟨b, rfl, P.now R (show rlB ρ1 H1 b b from rfl)⟩
    | _ => exact P.elim
theorem tB_of {W : Wt} {de : DE} {σ : L2.St} {H : Hp} {Q : Bool → Hp → Prop} (h : tT W (dB de) σ H Q) : tB (tE W de) σ H Q := tTest_of h
def dAnd (a b : DT) : DT := fun δ S => (a δ S).bnd fun x S1 => if x = true then b δ S1 else .ok false S1
def dOr (a b : DT) : DT := fun δ S => (a δ S).bnd fun x S1 => if x = true then .ok true S1 else b δ S1
def dNot (a : DT) : DT := fun δ S => (a δ S).bnd fun x S1 => .ok (!x) S1
def dAndV (a b : DE) : DE := fun δ S => (asB (a δ S)).bnd fun x S1 => if x = true then b δ S1 else .ok (.bl false) S1
def dOrV (a b : DE) : DE := fun δ S => (asB (a δ S)).bnd fun x S1 => if x = true then .ok (.bl true) S1 else b δ S1
def dNotV (a : DE) : DE := fun δ S => (asB (a δ S)).bnd fun x S1 => .ok (.bl (!x)) S1
def dIf (t : DT) (a b : DE) : DE := fun δ S => (t δ S).bnd fun x S1 => if x = true then a δ S1 else b δ S1
section
variable {X : Cx} {W : Wt} {a b c : Expr} {da db : DE} {ta tb : DT} {pos : Pos} {rest : List Expr}
theorem st_cmp {op : CmpOp} {g : D → D → Sto → Res D} (ho : OpD X W (compareOp op) g) (ha : SE X W a da) (hb : SE X W b db) (hm : behindInMarks op b = false) : ST X W (.Compare a [op] [b] pos) (dB (dBin g da db)) :=
  pt_imp (pt_cmpR ho ha hb hm) fun σ H Q h => by
    have h2 := tTest_of h
    exact tOp_of h2
theorem st_val (h : SE X W a da) (he : ∀ whole, isTrue a X.env whole = (do let v ← whole; standAt a.pos; holding [v] (truthy v)) := by intro _; rfl) : ST X W a (dB da) :=
  pt_imp (pt_val h he) fun σ H Q h => tB_of h
theorem sw_and1 (ha : ST X W a ta) : PW X (.BoolOp .And [a] pos) (tT W ta) := pw_and1 ha
theorem sw_or1 (ha : ST X W a ta) : PW X (.BoolOp .Or [a] pos) (tT W ta) := pw_or1 ha
theorem sw_and (ha : ST X W a ta) (hb : PW X (.BoolOp .And (b :: rest) pos) (tT W tb)) : PW X (.BoolOp .And (a :: b :: rest) pos) (tT W (dAnd ta tb)) :=
  pw_imp (pw_and ha hb) fun σ H Q h => tG.step h fun ρ δ ρ1 S1 H1 v d N e R r P => by
    have r' : v = d := r
    subst r'
    cases v with
    | true =>
      show tT W tb σ H1 Q
      exact ⟨ρ1, δ, S1, R, N, P⟩
    | false =>
      show Q false H1
      exact Post.now (Rl := rlB) P R rfl
theorem sw_or (ha : ST X W a ta) (hb : PW X (.BoolOp .Or (b :: rest) pos) (tT W tb)) : PW X (.BoolOp .Or (a :: b :: rest) pos) (tT W (dOr ta tb)) :=
  pw_imp (pw_or ha hb) fun σ H Q h => tG.step h fun ρ δ ρ1 S1 H1 v d N e R r P => by
    have r' : v = d := r
    subst r'
    cases v with
    | false =>
      show tT W tb σ H1 Q
      exact ⟨ρ1, δ, S1, R, N, P⟩
    | true =>
      show Q true H1
      exact Post.now (Rl := rlB) P R rfl
theorem st_not (ha : ST X W a ta) : ST X W (.UnaryOp .Not a pos) (dNot ta) :=
  pt_imp (pt_not ha) fun σ H Q h => tG.step h fun ρ δ ρ1 S1 H1 v d N e R r P => by
    have r' : v = d := r
    subst r'
    exact Post.now (Rl := rlB) P R rfl
theorem bool_step {ρ : List Addr} {H : Hp} {W : Wt} {v : V} {d : D} {S : Sto} {γ β : Type} {Rl : List Addr → Hp → β → γ → Prop} {f : Bool → Sto → Res γ} {Q : β → Hp → Prop} (r : Dv W.K ρ H v d)
    (P : Post W Rl ρ H ((match d with | .bl b => (.ok b S : Res Bool) | _ => .bad).bnd f) Q) : ∃ b, v = .bl b ∧ d = .bl b ∧ Post W Rl ρ H (f b S) Q := by
  cases r with
  | bl b => exact ⟨b, rfl, rfl, P⟩
  | _ => exact P.elim
theorem asB_bnd {γ : Type} (r : Res D) (f : Bool → Sto → Res γ) : (asB r).bnd f = r.bnd fun d S => (match d with | .bl b => (.ok b S : Res Bool) | _ => .bad).bnd f := by
  cases r <;> rfl
theorem se_and (ha : SE X W a da) (hb : SE X W (.BoolOp .And (b :: rest) pos) db) : SE X W (.BoolOp .And (a :: b :: rest) pos) (dAndV da db) :=
  pe_imp (pe_and ha hb) fun σ H Q h => by
    have h' : tG W (Dv W.K) (fun δ S => (da δ S).bnd fun d S => (match d with | .bl b => (.ok b S : Res Bool) | _ => .bad).bnd fun x S1 => if x = true then db δ S1 else .ok (.bl false) S1) σ H Q := by
      obtain ⟨ρ, δ, S, R, N, P⟩ := h
      refine ⟨ρ, δ, S, R, N, ?_⟩
      unfold dAndV at P
      rw [asB_bnd] at P
      exact P
    refine tG.step h' fun ρ δ ρ1 S1 H1 v d N e R r P => ?_
    obtain ⟨k, rfl, rfl, P⟩ := bool_step r P
    refine ⟨k, rfl, ?_⟩
    cases k with
    | true =>
      show tE W db σ H1 Q
      exact ⟨ρ1, δ, S1, R, N, P⟩
    | false =>
      show Q (.bl false) H1
      exact P.now R (.bl false)
theorem se_or (ha : SE X W a da) (hb : SE X W (.BoolOp .Or (b :: rest) pos) db) : SE X W (.BoolOp .Or (a :: b :: rest) pos) (dOrV da db) :=
  pe_imp (pe_or ha hb) fun σ H Q h => by
    have h' : tG W (Dv W.K) (fun δ S => (da δ S).bnd fun d S => (match d with | .bl b => (.ok b S : Res Bool) | _ => .bad).bnd fun x S1 => if x = true then .ok (.bl true) S1 else db δ S1) σ H Q := by
      obtain ⟨ρ, δ, S, R, N, P⟩ := h
      refine ⟨ρ, δ, S, R, N, ?_⟩
      unfold dOrV at P
      rw [asB_bnd] at P
      exact P
    refine tG.step h' fun ρ δ ρ1 S1 H1 v d N e R r P => ?_
    obtain ⟨k, rfl, rfl, P⟩ := bool_step r P
    refine ⟨k, rfl, ?_⟩
    cases k with
    | false =>
      show tE W db σ H1 Q
      exact ⟨ρ1, δ, S1, R, N, P⟩
    | true =>
      show Q (.bl true) H1
      exact P.now R (.bl true)
theorem se_one {op : BoolOp} (h : SE X W a da) : SE X W (.BoolOp op [a] pos) da := pe_one h
theorem se_not (ha : SE X W a da) : SE X W (.UnaryOp .Not a pos) (dNotV da) :=
  pe_imp (pe_not ha) fun σ H Q h => by
    have h' : tG W (Dv W.K) (fun δ S => (da δ S).bnd fun d S => (match d with | .bl b => (.ok b S : Res Bool) | _ => .bad).bnd fun x S1 => .ok (.bl (!x)) S1) σ H Q := by
      obtain ⟨ρ, δ, S, R, N, P⟩ := h
      refine ⟨ρ, δ, S, R, N, ?_⟩
      unfold dNotV at P
      rw [asB_bnd] at P
      exact P
    refine tG.step h' fun ρ δ ρ1 S1 H1 v d N e R r P => ?_
    obtain ⟨k, rfl, rfl, P⟩ := bool_step r P
    exact ⟨k, rfl, P.now R (.bl (!k))⟩
theorem se_if (hc : ST X W c ta) (ha : SE X W a da) (hb : SE X W b db) : SE X W (.IfExp c a b pos) (dIf ta da db) :=
  pe_imp (pe_ifExp hc ha hb) fun σ H Q h => tG.step h fun ρ δ ρ1 S1 H1 v d N e R r P => by
    have r' : v = d := r
    subst r'
    cases v with
    | true =>
      show tE W da σ H1 Q
      exact ⟨ρ1, δ, S1, R, N, P⟩
    | false =>
      show tE W db σ H1 Q
      exact ⟨ρ1, δ, S1, R, N, P⟩
end

/-! ### chains: a op b op' c -/
def dChain (op op' : D → D → Sto → Res D) (a b c : DE) : DE := fun δ S => (a δ S).bnd fun x S1 => (b δ S1).bnd fun y S2 => (asB (op x y S2)).bnd fun k S3 => if k = true then (c δ S3).bnd fun z S4 => op' y z S4 else .ok (.bl false) S3
theorem tChain_of {W : Wt} {op op' : D → D → Sto → Res D} {da db dc : DE} {σ : L2.St} {H : Hp} {Q : VK} (h : tE W (dChain op op' da db dc) σ H Q) : tChain (rD2 W op) (rD2 W op') (tE W da) (tE W db) (tE W dc) σ H Q :=
  tG.step h fun ρ δ ρ1 S1 H1 v d N e R r P => ⟨ρ1, δ, S1, R, N, (Post.bnd P).imp fun y H2 ⟨ρ2, S2, d2, e2, R2, r2, P2⟩ => ⟨ρ2, S2, d, d2, R2, r.mono e2, r2, by
    dsimp only at P2
    rw [asB_bnd] at P2
    refine (Post.bnd P2).imp fun z H3 ⟨ρ3, S3, d3, e3, R3, r3, P3⟩ => ?_
    obtain ⟨k, rfl, rfl, P3⟩ := bool_step r3 P3
    refine ⟨k, rfl, ?_⟩
    cases k with
    | true =>
      have P4 : Post W (Dv W.K) ρ3 H3 ((dc δ S3).bnd fun z S4 => op' d2 z S4) Q := P3
      refine ⟨ρ3, δ, S3, R3, (N.mono e2).mono e3, (Post.bnd P4).imp fun w H4 ⟨ρ4, S4, d4, e4, R4, r4, P4⟩ => ⟨ρ4, S4, d2, d4, R4, (r2.mono e3).mono e4, r4, P4⟩⟩
    | false =>
      show Q (.bl false) H3
      exact P3.now R3 (.bl false)⟩⟩
section
variable {X : Cx} {W : Wt} {a b c : Expr} {da db dc : DE} {pos : Pos}
theorem se_chain {op op' : CmpOp} {g g' : D → D → Sto → Res D} (ho : OpD X W (compareOp op) g) (ho' : OpD X W (compareOp op') g') (ha : SE X W a da) (hb : SE X W b db) (hc : SE X W c dc)
    (hm : lastMarks [op, op'] [b, c] = false := by with_unfolding_all rfl) : SE X W (.Compare a [op, op'] [b, c] pos) (dChain g g' da db dc) := pe_imp (pe_chain ho ho' ha hb hc hm) fun _ _ _ h => tChain_of h
theorem st_chain {op op' : CmpOp} {g g' : D → D → Sto → Res D} (ho : OpD X W (compareOp op) g) (ho' : OpD X W (compareOp op') g') (ha : SE X W a da) (hb : SE X W b db) (hc : SE X W c dc)
    (hm : lastMarks [op, op'] [b, c] = false := by with_unfolding_all rfl) : ST X W (.Compare a [op, op'] [b, c] pos) (dB (dChain g g' da db dc)) := pt_imp (pt_chain ho ho' ha hb hc hm) fun _ _ _ h => by
    have h2 := tTest_of h
    exact tChain_of h2
end

/-! ### argument lists, displays -/
def dNil : DA := fun _ S => .ok [] S
def dCons (a : DE) (r : DA) : DA := fun δ S => (a δ S).bnd fun x S1 => (r δ S1).bnd fun xs S2 => .ok (x :: xs) S2
def lim : Nat := (Classical.choice (⟨⟨100000, rfl⟩⟩ : Nonempty { n : Nat // n = 100000 })).1
theorem lim_eq : lim = 100000 := (Classical.choice (⟨⟨100000, rfl⟩⟩ : Nonempty { n : Nat // n = 100000 })).2
def M64 : Int := (Classical.choice (⟨⟨2 ^ 64, rfl⟩⟩ : Nonempty { n : Int // n = 2 ^ 64 })).1
theorem M64_eq : M64 = 2 ^ 64 := (Classical.choice (⟨⟨2 ^ 64, rfl⟩⟩ : Nonempty { n : Int // n = 2 ^ 64 })).2
def M62 : Int := (Classical.choice (⟨⟨2 ^ 62, rfl⟩⟩ : Nonempty { n : Int // n = 2 ^ 62 })).1
theorem M62_eq : M62 = 2 ^ 62 := (Classical.choice (⟨⟨2 ^ 62, rfl⟩⟩ : Nonempty { n : Int // n = 2 ^ 62 })).2
def N30 : Nat := (Classical.choice (⟨⟨1073741824, rfl⟩⟩ : Nonempty { n : Nat // n = 1073741824 })).1
theorem N30_eq : N30 = 1073741824 := (Classical.choice (⟨⟨1073741824, rfl⟩⟩ : Nonempty { n : Nat // n = 1073741824 })).2
def N64 : Nat := (Classical.choice (⟨⟨2 ^ 64, rfl⟩⟩ : Nonempty { n : Nat // n = 2 ^ 64 })).1
theorem N64_eq : N64 = 2 ^ 64 := (Classical.choice (⟨⟨2 ^ 64, rfl⟩⟩ : Nonempty { n : Nat // n = 2 ^ 64 })).2
def M6 : Int := (Classical.choice (⟨⟨1000000, rfl⟩⟩ : Nonempty { n : Int // n = 1000000 })).1
theorem M6_eq : M6 = 1000000 := (Classical.choice (⟨⟨1000000, rfl⟩⟩ : Nonempty { n : Int // n = 1000000 })).2
theorem le_lim {n : Nat} (h : n ≤ lim) : n ≤ sizeLine := Nat.le_trans h (by rw [lim_eq]; decide)
theorem lt_lim {n : Nat} (h : n < lim) : n < sizeLine := Nat.lt_of_lt_of_le h (by rw [lim_eq]; decide)
def mkTup (xs : List D) (S : Sto) : Res D := if xs.length ≤ lim then .ok (.tup xs) S else .bad
def mkLst (xs : List D) (S : Sto) : Res D := if xs.length ≤ lim then .ok (.cell S.length) (S ++ [.lst xs]) else .bad
def dTup (as : DA) : DE := fun δ S => (as δ S).bnd mkTup
def dLst (as : DA) : DE := fun δ S => (as δ S).bnd mkLst
theorem Post.tup {W : Wt} {ρ : List Addr} {H : Hp} {vs : List V} {ds : List D} {S : Sto} {Q : VK} (P : Post W (Dv W.K) ρ H (mkTup ds S) Q) (R : Rep W.K ρ H S) (r : DvAll W.K ρ H vs ds) :
    vs.length ≤ sizeLine ∧ ∀ p, H p = none → Q (.ref p) (upd H p (.tup vs)) := by
  unfold mkTup at P
  split at P
  · rename_i hl
    refine ⟨by rw [r.length]; exact le_lim hl, fun p hp => ?_⟩
    exact P ρ _ _ (Ext.new hp) (R.new hp) (.tup (.inl (.inl upd_same)) (r.mono (Ext.new hp)))
  · exact P.elim
theorem Post.lst {W : Wt} {ρ : List Addr} {H : Hp} {vs : List V} {ds : List D} {S : Sto} {Q : VK} (P : Post W (Dv W.K) ρ H (mkLst ds S) Q) (R : Rep W.K ρ H S) (r : DvAll W.K ρ H vs ds) :
    vs.length ≤ sizeLine ∧ ∀ p, H p = none → Q (.ref p) (upd H p (.lst vs)) := by
  unfold mkLst at P
  split at P
  · rename_i hl
    refine ⟨by rw [r.length]; exact le_lim hl, fun p hp => ?_⟩
    refine P (ρ ++ [p]) _ _ (Ext.newC hp) (R.newC hp ⟨vs, upd_same, r.mono (Ext.newC hp)⟩) (.cell ?_)
    rw [← R.len, List.getElem?_append_right (Nat.le_refl _), Nat.sub_self]
    rfl
  · exact P.elim
section
variable {X : Cx} {W : Wt} {e : Expr} {es : List Expr} {de : DE} {da : DA} {pos : Pos}
theorem sa_nil : SA X W [] dNil := pa_imp pa_nil fun σ H Q ⟨ρ, δ, S, R, N, P⟩ => Post.now (Rl := DvAll W.K) P R .nil
theorem sa_cons (ha : SE X W e de) (hr : SA X W es da) (hs : starEach (e :: es) X.env = (false, eval e X.env) :: starEach es X.env := by rfl) : SA X W (e :: es) (dCons de da) :=
  pa_imp (pa_cons ha hr hs) fun σ H Q h => tG.step h fun ρ δ ρ1 S1 H1 v d N e R r P => ⟨ρ1, δ, S1, R, N, (Post.bnd P).imp fun vs H2 ⟨ρ2, S2, d2, e2, R2, r2, P2⟩ => Post.now (Rl := DvAll W.K) P2 R2 (.cons (r.mono e2) r2)⟩
theorem se_tup {x1} (h : SA X W es da) : SE X W (.Tuple es x1 pos) (dTup da) :=
  pe_imp (pe_tup h) fun σ H Q h => tG.step h fun ρ δ ρ1 S1 H1 v d N e R r P => P.tup R r
theorem se_lst (h : SA X W es da) : SE X W (.List es pos) (dLst da) :=
  pe_imp (pe_lst h) fun σ H Q h => tG.step h fun ρ δ ρ1 S1 H1 v d N e R r P => P.lst R r
end
end Dn
set_option Elab.async false
set_option linter.all false
set_option maxRecDepth 100000
set_option maxHeartbeats 1000000
/-! DnK: dicts whose keys are tuples. -/
noncomputable section
namespace Dn
open PySem PySem.Spec PyProof.Rows L2

/-! ### keys in the abstract heap -/
mutual
inductive NK (K : PySem.W.Frag) (H : Hp) : V → NestedKey → Prop
  | non : NK K H .non .none
  | bl (b : Bool) : NK K H (.bl b) (.num (if b = true then 1 else 0))
  | int (i : Int) : NK K H (.int i) (.num i)
  | str (x : Str) : NK K H (.str x) (.text x)
  | tup {a : Addr} {xs : List V} {ks : List NestedKey} : SqT K H a xs → NKs K H xs ks → NK K H (.ref a) (.tup ks)
inductive NKs (K : PySem.W.Frag) (H : Hp) : List V → List NestedKey → Prop
  | nil : NKs K H [] []
  | cons {v : V} {k : NestedKey} {vs : List V} {ks : List NestedKey} : NK K H v k → NKs K H vs ks → NKs K H (v :: vs) (k :: ks)
end
mutual
theorem Dv.nk {K : PySem.W.Frag} {ρ : List Addr} {H : Hp} : ∀ {d : D} {v : V} {k : NestedKey}, Dv K ρ H v d → keyD d = some k → NK K H v k
  | .non, _, _, h, e => by cases h; simp [keyD] at e; subst e; exact .non
  | .bl b, _, _, h, e => by cases h; simp only [keyD, Option.some.injEq] at e; subst e; exact .bl b
  | .int i, _, _, h, e => by cases h; simp [keyD] at e; subst e; exact .int i
  | .str i, _, _, h, e => by cases h; simp [keyD] at e; subst e; exact .str i
  | .cell i, _, _, h, e => by simp [keyD] at e
  | .ro i, _, _, h, e => by simp [keyD] at e
  | .rng i j, _, _, h, e => by simp [keyD] at e
  | .tup ds, _, _, h, e => by
    cases h with
    | tup q r =>
      simp only [keyD, Option.map_eq_some_iff] at e
      obtain ⟨ks, e1, e2⟩ := e
      subst e2
      exact .tup q (DvAll.nk r e1)
theorem DvAll.nk {K : PySem.W.Frag} {ρ : List Addr} {H : Hp} : ∀ {ds : List D} {vs : List V} {ks : List NestedKey}, DvAll K ρ H vs ds → keyDs ds = some ks → NKs K H vs ks
  | [], _, _, h, e => by cases h; simp [keyDs] at e; subst e; exact .nil
  | d :: ds, _, _, h, e => by
    cases h with
    | cons a b =>
      unfold keyDs at e
      split at e
      · rename_i k ks h1 h2
        cases e
        exact .cons (Dv.nk a h1) (DvAll.nk b h2)
      · cases e
end
section
variable {X : Cx} {pins : List (Addr × Obj)} {σ : L2.St} {H : Hp} {s : Shared}
mutual
theorem NK.is (I : Inv X pins σ H s) : ∀ {k : NestedKey} {v : V} {u : Value}, NK X.K H v k → RelV v u → NestedIs s.heap k u
  | .none, _, u, h, r => by cases h; cases r; exact .none
  | .num i, _, u, h, r => by
    cases h with
    | bl b => cases r; exact .bool rfl
    | int => obtain ⟨t, rfl⟩ := r; exact .int i t
  | .text x, _, u, h, r => by cases h; obtain ⟨t, rfl⟩ := r; exact .text x t
  | .tup ks, _, u, h, r => by
    cases h with
    | tup q t =>
      cases r
      obtain ⟨its, rv, ⟨o, ho, hc, n, hd⟩, _⟩ := I.tuple q
      exact .tup ho hc hd (NKs.is I t rv)
theorem NKs.is (I : Inv X pins σ H s) : ∀ {ks : List NestedKey} {vs : List V} {us : List Value}, NKs X.K H vs ks → Vals vs us → NestedAll s.heap ks us
  | [], _, _, h, r => by cases h; cases r; exact .nil
  | k :: ks, _, _, h, r => by
    cases h with
    | cons a b => cases r with | cons c d => exact .cons (NK.is I a c) (NKs.is I b d)
end
end
def KOk (K : PySem.W.Frag) (H : Hp) (p : NestedKey × Addr × V) : Prop := NK K H (.ref p.2.1) p.1 ∧ txl p.1 = true ∧ p.1.depth ≤ 8
def PrK (p : NestedKey × Addr × V) (q : NestedKey × Addr × Value) : Prop := p.1 = q.1 ∧ p.2.1 = q.2.1 ∧ RelV p.2.2 q.2.2
def atX (xs : List (NestedKey × Addr × V)) (k : NestedKey) : Option (Addr × V) := (xs.find? fun x => decide (x.1 = k)).map (·.2)
def putX (k : NestedKey) (v : V) (x : NestedKey × Addr × V) : NestedKey × Addr × V := if x.1 = k then (x.1, x.2.1, v) else x
def storedX (xs : List (NestedKey × Addr × V)) (k : NestedKey) (a : Addr) (v : V) : List (NestedKey × Addr × V) := if (atX xs k).isSome = true then xs.map (putX k v) else xs ++ [(k, a, v)]
theorem PrK.at {k : NestedKey} : ∀ {xs : List (NestedKey × Addr × V)} {ys : List (NestedKey × Addr × Value)}, Paired PrK xs ys → (atKey ys k).isSome = (atX xs k).isSome ∧ ∀ a v, atX xs k = some (a, v) → ∃ u, atKey ys k = some (a, u) ∧ RelV v u
  | _, _, .nil => ⟨rfl, fun a v e => by cases e⟩
  | (k1, a1, v1) :: xs, (k2, a2, v2) :: ys, .cons r t => by
    obtain ⟨e1, e2, r3⟩ := r
    simp only at e1 e2 r3
    subst e1 e2
    have ih := PrK.at (k := k) t
    unfold atKey atX at *
    by_cases h : k1 = k
    · simp only [List.find?_cons, h, decide_true]
      exact ⟨rfl, fun a v e => by cases e; exact ⟨v2, rfl, r3⟩⟩
    · simp only [List.find?_cons, h, decide_false]
      exact ih
theorem PrK.puts {k : NestedKey} {v : V} {u : Value} (r : RelV v u) : ∀ {xs : List (NestedKey × Addr × V)} {ys : List (NestedKey × Addr × Value)}, Paired PrK xs ys → Paired PrK (xs.map (putX k v)) (ys.map (PySem.putAt k u))
  | _, _, .nil => .nil
  | p :: _, q :: _, .cons a b => by
    refine .cons ?_ (PrK.puts r b)
    unfold putX PySem.putAt
    rw [a.1]
    split
    · exact ⟨rfl, a.2.1, r⟩
    · exact a
theorem PrK.snoc {p : NestedKey × Addr × V} {q : NestedKey × Addr × Value} (r : PrK p q) : ∀ {xs : List (NestedKey × Addr × V)} {ys : List (NestedKey × Addr × Value)}, Paired PrK xs ys → Paired PrK (xs ++ [p]) (ys ++ [q])
  | _, _, .nil => .cons r .nil
  | _, _, .cons a b => .cons a (PrK.snoc r b)
theorem PrK.stored {k : NestedKey} {a : Addr} {v : V} {u : Value} (r : RelV v u) {xs : List (NestedKey × Addr × V)} {ys : List (NestedKey × Addr × Value)} (h : Paired PrK xs ys) : Paired PrK (storedX xs k a v) (storedH ys k a u) := by
  unfold storedX storedH
  rw [(PrK.at (k := k) h).1]
  split
  · exact PrK.puts r h
  · exact PrK.snoc ⟨rfl, rfl, r⟩ h
theorem ent_eq (P : Program) (w : World) {ys : List (NestedKey × Addr × Value)} (h : ∀ y ∈ ys, txl y.1 = true) : ys.map ent0 = ys.map (entryOfKey (nestedKind P w)) := by
  refine List.map_congr_left fun y hy => ?_
  unfold ent0 entryOfKey
  rw [show (nestedKind P w).hash y.1 = y.1.hash w from rfl, hash0_eq w (h y hy)]
theorem PrK.all {p : NestedKey × Addr → Prop} : ∀ {xs : List (NestedKey × Addr × V)} {ys : List (NestedKey × Addr × Value)}, Paired PrK xs ys → (∀ x ∈ xs, p (x.1, x.2.1)) → ∀ y ∈ ys, p (y.1, y.2.1)
  | _, _, .nil, _ => by simp
  | _, _, .cons r t, h => fun y hy => by
    rcases List.mem_cons.mp hy with rfl | hy
    · rw [← r.1, ← r.2.1]
      exact h _ (.head _)
    · exact PrK.all t (fun x hx => h x (.tail _ hx)) y hy
theorem PrK.keys : ∀ {xs : List (NestedKey × Addr × V)} {ys : List (NestedKey × Addr × Value)}, Paired PrK xs ys → xs.map (·.1) = ys.map (·.1)
  | _, _, .nil => rfl
  | _, _, .cons r t => by rw [List.map_cons, List.map_cons, r.1, PrK.keys t]
theorem PrK.len : ∀ {xs : List (NestedKey × Addr × V)} {ys : List (NestedKey × Addr × Value)}, Paired PrK xs ys → xs.length = ys.length
  | _, _, .nil => rfl
  | _, _, .cons r t => by rw [List.length_cons, List.length_cons, PrK.len t]
section
variable {X : Cx} {pins : List (Addr × Obj)} {σ : L2.St} {H : Hp} {s : Shared} {a : Addr} {xs : List (NestedKey × Addr × V)}
theorem dk_read (I : Inv X pins σ H s) (ha : H a = some (DkO a xs)) (hk : ∀ p ∈ xs, KOk X.K H p) : (a == sysModules) = false ∧ ∃ ys, Paired PrK xs ys ∧ s.heap.DictOfH (nestedKind X.prog X.w) a ys := by
  obtain ⟨⟨h1, ys, o, es, ep, pr, ho, hx, hd, he, hn⟩, _⟩ := I.hok a _ ha
  refine ⟨h1, ys, pr, o, es, ep, ho, hx, hd, ?_, ?_, hn⟩
  · rw [he]
    exact ent_eq _ _ (PrK.all (p := fun z => txl z.1 = true) pr fun x hx => (hk x hx).2.1)
  · exact PrK.all (p := fun z => (nestedKind X.prog X.w).is s.heap z.1 z.2) pr fun x hx => ⟨NK.is I (hk x hx).1 (u := .ref x.2.1) rfl, (hk x hx).2.2⟩
theorem dkO_ok {P : Program} {w : World} {H' : Hp} {h' : Heap} {ys : List (NestedKey × Addr × Value)} (h1 : (a == sysModules) = false) (pr : Paired PrK xs ys) (hk : ∀ x ∈ xs, txl x.1 = true) (hm : h'.DictOfH (nestedKind P w) a ys) : ObjOk P w H' h' a (DkO a xs) := by
  obtain ⟨o, es, ep, ho, hx, hd, he, _, hn⟩ := hm
  refine ⟨⟨h1, ys, o, es, ep, pr, ho, hx, hd, ?_, hn⟩, ⟨o, ho⟩, fun g1 g2 ⟨q1, ys, o, es, ep, q2, q3, q4⟩ st => ⟨q1, ys, o, es, ep, q2, st _ q3, q4⟩⟩
  rw [he]
  exact (ent_eq _ _ (PrK.all (p := fun z => txl z.1 = true) pr hk)).symm
end
/-! ### in, not in -/
def rInK (K : PySem.W.Frag) (neg : Bool) : R2 := fun x y H Q => ∃ a b xs k, x = V.ref b ∧ y = V.ref a ∧ H a = some (DkO a xs) ∧ (∀ p ∈ xs, KOk K H p) ∧ NK K H (.ref b) k ∧ k.depth ≤ 8 ∧ Q (.bl (if neg = true then !(atX xs k).isSome else (atX xs k).isSome)) H
section
variable {X : Cx}
theorem unitsIn {A : Around} (hu : A.units + 64 < cLine) : (nestedKind X.prog X.w).room A.in1 := by
  show A.units + 1 + 8 < cLine
  omega
theorem op_inK (hu : X.A.units + 64 < cLine) : OpR X (compareOp .In) (rInK X.K false) := by
  intro pins s σ H x y v u Q I rx ry h
  obtain ⟨a, b, xs, k, rfl, rfl, ha, hk, nk, hd, q⟩ := h
  cases rx
  cases ry
  obtain ⟨h1, ys, pr, hm⟩ := dk_read I ha hk
  refine in_keyed (knd := nestedKind X.prog X.w) (unitsIn hu) ⟨NK.is I nk rfl, hd⟩ h1 ⟨ys, hm, rfl⟩ ?_
  rw [valueAt_pairsH, Option.isSome_map, (PrK.at pr).1]
  exact ⟨.bl _, H, I.tok _, rfl, q⟩
theorem op_notInK (hu : X.A.units + 64 < cLine) : OpR X (compareOp .NotIn) (rInK X.K true) := by
  intro pins s σ H x y v u Q I rx ry h
  obtain ⟨a, b, xs, k, rfl, rfl, ha, hk, nk, hd, q⟩ := h
  cases rx
  cases ry
  obtain ⟨h1, ys, pr, hm⟩ := dk_read I ha hk
  refine notIn_keyed (knd := nestedKind X.prog X.w) (unitsIn hu) ⟨NK.is I nk rfl, hd⟩ h1 ⟨ys, hm, rfl⟩ ?_
  rw [valueAt_pairsH, Option.isSome_map, (PrK.at pr).1]
  exact ⟨.bl _, H, I.tok _, rfl, q⟩
/-! ### d[k] = v -/
def rSetK (K : PySem.W.Frag) : TSet := fun o i v H Q => ∃ a b xs k, o = V.ref a ∧ i = V.ref b ∧ H a = some (DkO a xs) ∧ (∀ p ∈ xs, KOk K H p) ∧ NK K H (.ref b) k ∧ txl k = true ∧ k.depth ≤ 8 ∧ xs.length ≤ sizeLine ∧ Q (upd H a (DkO a (storedX xs k b v)))
theorem stored_txl {xs : List (NestedKey × Addr × V)} {k : NestedKey} {b : Addr} {v : V} (h : ∀ x ∈ xs, txl x.1 = true) (hk : txl k = true) : ∀ x ∈ storedX xs k b v, txl x.1 = true := by
  intro x hx
  unfold storedX at hx
  split at hx
  · obtain ⟨y, hy, rfl⟩ := List.mem_map.mp hx
    unfold putX
    split
    · exact h y hy
    · exact h y hy
  · rcases List.mem_append.mp hx with hx | hx
    · exact h x hx
    · rw [List.mem_singleton.mp hx]
      exact hk
theorem set_dik (hu : X.A.units + 64 < cLine) : PSet X (rSetK X.K) := by
  intro pins s σ H o i v ov iv u Q I ro ri rv h
  obtain ⟨a, b, xs, k, rfl, rfl, ha, hk, nk, tk, hd, hl, q⟩ := h
  cases ro
  cases ri
  obtain ⟨h1, ys, pr, hm⟩ := dk_read I ha hk
  refine wpAny_setItem_heap (knd := nestedKind X.prog X.w) (hsz := by rw [← PrK.len pr]; exact hl) (unitsIn hu) ⟨NK.is I nk rfl, hd⟩ hm fun h' hm' hs => ?_
  refine ⟨_, d_write (a := a) I (by rw [ha]; exact True.intro) hs (let ⟨o, _, _, ho, _⟩ := hm'; ⟨o, ho⟩) (dkO_ok h1 (PrK.stored rv pr) (stored_txl (fun x hx => (hk x hx).2.1) tk) hm'), q⟩
/-! ### {}, {k: v} -/
def tDik0 : TE := fun _ H Q => ∀ p, H p = none → Q (.ref p) (upd H p (DkO p []))
theorem sys_ne (I : Inv X pins σ H s) : (s.heap.objs.size == sysModules) = false := beq_eq_false_iff_ne.mpr (Ne.symm (Nat.ne_of_lt I.big))
theorem dk_new0 {P : Program} {w : World} {H : Hp} (h : Heap) (hb : (h.objs.size == sysModules) = false) : ObjOk P w H (h.push { cls := .type "dict", data := .dict #[] }) h.objs.size (DkO h.objs.size []) :=
  dkO_ok (ys := []) hb .nil (by simp) (Heap.DictOfH.new h)
theorem pe_dik0 {pos : Pos} : PE X (.Dict [] [] pos) tDik0 := ⟨fun pins s σ H Q I h =>
  wpAny_Dict_empty ⟨.ref s.heap.objs.size, _, I.laid (a := s.heap.objs.size) (o := DkO s.heap.objs.size []) (t' := s.toks) (fun _ _ q => Heap.get?_push_of_some _ q) (Nat.le_refl _) (dk_new0 s.heap (sys_ne I)), rfl, h _ (I.hok.fresh (Nat.le_refl _))⟩⟩
/-- {k: v}, one pair; the new dict stands empty while the pair is made -/
def tDik1 (tk tv : TE) : TE := fun σ H Q => ∀ p, H p = none → tk σ (upd H p (DkO p [])) fun x H1 => tv σ H1 fun y H2 => H2 p = some (DkO p []) ∧ ∃ b k, x = V.ref b ∧ NK X.K H2 (.ref b) k ∧ txl k = true ∧ k.depth ≤ 8 ∧ Q (.ref p) (upd H2 p (DkO p [(k, b, y)]))
theorem pe_dik1 (hu : X.A.units + 64 < cLine) {pos : Pos} {ke ve : Expr} {tk tv : TE} (h1 : PE X ke tk) (h2 : PE X ve tv) : PE X (.Dict [some ke] [ve] pos) (tDik1 (X := X) tk tv) := by
  refine ⟨fun pins s σ H Q I q => ?_⟩
  have hn := I.hok.fresh (Nat.le_refl s.heap.objs.size)
  have I1 := I.laid (a := s.heap.objs.size) (o := DkO s.heap.objs.size []) (h' := s.heap.push { cls := .type "dict", data := .dict #[] }) (t' := s.toks) (fun _ _ q => Heap.get?_push_of_some _ q) (Nat.le_refl _) (dk_new0 s.heap (sys_ne I))
  rw [arm_eval_Dict, zip_pairTrees [some ke] [ve] X.env pos rfl rfl, dictDisplay_pairs (pairTrees [some ke] [ve] X.env pos) (fun z => by cases z) (by show 1 < 17; decide)]
  refine wpAny_bind (wpAny_standAt (wpAny_bind (wpAny_subDictH (knd := nestedKind X.prog X.w) (by show X.A.units + 8 < cLine; omega) (by show 1 ≤ 15; decide) ?_)))
  refine pairTrees_cons_walk (thn (h1.run pins _ σ _ _ I1 (q _ hn)) fun kv s2 ⟨x, H2, I2, rx, q2⟩ => thn (h2.run pins s2 σ H2 _ I2 q2) fun vv s3 ⟨y, H3, I3, ry, q3⟩ => pairTrees_nil_walk ?_)
  obtain ⟨e, b, k, rfl, nk, tx, dp, q4⟩ := q3
  cases rx
  obtain ⟨z1, ys, pr, hm⟩ := dk_read (xs := []) I3 e (by simp)
  cases pr
  refine ⟨[(k, b, vv)], ⟨rfl, rfl, ⟨NK.is I3 nk rfl, dp⟩, True.intro⟩, hm, fun h' tk' hm' hs => wpAny_pure ?_⟩
  have hm2 : h'.DictOfH (nestedKind X.prog X.w) s.heap.objs.size [(k, b, vv)] := hm'
  exact ⟨.ref s.heap.objs.size, _, d_write (a := s.heap.objs.size) I3 (by rw [e]; exact True.intro) hs (let ⟨o, _, _, ho, _⟩ := hm2; ⟨o, ho⟩) (dkO_ok z1 (.cons ⟨rfl, rfl, ry⟩ .nil) (by simpa using tx) hm2), rfl, q4⟩
end
end Dn
set_option Elab.async false
set_option linter.all false
set_option maxRecDepth 100000
set_option maxHeartbeats 1000000
/-! Dn2: operators by values. -/
noncomputable section
namespace Dn
open PySem PySem.Spec PyProof.Rows L2

/-! ### reading values -/
section
variable {K : PySem.W.Frag} {ρ : List Addr} {H : Hp} {v : V} {S : Sto}
theorem Dv.intI {i : Int} (h : Dv K ρ H v (.int i)) : v = .int i := by cases h; rfl
theorem Dv.blI {b : Bool} (h : Dv K ρ H v (.bl b)) : v = .bl b := by cases h; rfl
theorem Dv.strI {x : Str} (h : Dv K ρ H v (.str x)) : v = .str x := by cases h; rfl
theorem Dv.nonI (h : Dv K ρ H v .non) : v = .non := by cases h; rfl
theorem Dv.tupI {ds : List D} (h : Dv K ρ H v (.tup ds)) : ∃ a xs, v = .ref a ∧ SqT K H a xs ∧ DvAll K ρ H xs ds := by
  cases h with
  | tup a b => exact ⟨_, _, rfl, a, b⟩
theorem Dv.cellI {n : Nat} (h : Dv K ρ H v (.cell n)) : ∃ a, v = .ref a ∧ ρ[n]? = some a := by
  cases h with
  | cell a => exact ⟨_, rfl, a⟩
/-- the items of a tuple, a list -/
def items (S : Sto) : D → Option (List D)
  | .tup xs => some xs
  | .ro xs => some xs
  | .cell n => match S[n]? with
    | some (.lst xs) => some xs
    | _ => none
  | _ => none
theorem items_cell {n : Nat} {ds : List D} (h : items S (.cell n) = some ds) : S[n]? = some (.lst ds) := by
  unfold items at h
  cases e : S[n]? with
  | none => simp [e] at h
  | some c =>
    cases c with
    | lst xs => simp [e] at h; rw [h]
    | dic k => simp [e] at h
    | dik k => simp [e] at h
theorem Dv.seqI (R : Rep K ρ H S) {d : D} {ds : List D} (h : Dv K ρ H v d) (hi : items S d = some ds) : ∃ a xs, v = .ref a ∧ (SqL K H a xs ∨ SqT K H a xs) ∧ DvAll K ρ H xs ds := by
  cases h with
  | tup a b => cases hi; exact ⟨_, _, rfl, .inr a, b⟩
  | ro a f b => cases hi; exact ⟨_, _, rfl, .inl a, b⟩
  | cell q =>
    obtain ⟨xs, h1, h2⟩ := R.lst q (items_cell hi)
    exact ⟨_, xs, rfl, .inl (SqL.of h1), h2⟩
  | _ => cases hi
end

/-! ### arithmetic, + and * of sequences -/
def opAdd (x y : D) (S : Sto) : Res D := match x, y with
  | .int i, .int j => .ok (.int (i + j)) S
  | .tup xs, .tup ys => mkTup (xs ++ ys) S
  | .cell n, .cell m => match S[n]?, S[m]? with
    | some (.lst xs), some (.lst ys) => mkLst (xs ++ ys) S
    | _, _ => .bad
  | _, _ => .bad
def opI (g : Int → Int → Int) (c : Int → Int → Bool) (x y : D) (S : Sto) : Res D := match x, y with
  | .int i, .int j => if c i j = true then .ok (.int (g i j)) S else .bad
  | _, _ => .bad
def opSub := opI (fun i j => i - j) fun _ _ => true
def opFdiv := opI (fun i j => i.fdiv j) fun _ j => decide (j ≠ 0 ∧ j.natAbs < N30)
def opMod := opI (fun i j => i.fmod j) fun _ j => decide (j ≠ 0)
def opPow := opI (fun i j => i ^ j.toNat) fun i j => decide (0 ≤ j ∧ j ≤ M6 ∧ i.natAbs < N64)
def opCmpI (g : Int → Int → Bool) (x y : D) (S : Sto) : Res D := match x, y with
  | .int i, .int j => .ok (.bl (g i j)) S
  | _, _ => .bad
def opLt := opCmpI fun i j => decide (i < j)
def opLe := opCmpI fun i j => decide (i ≤ j)
def opGt := opCmpI fun i j => decide (j < i)
def opGe := opCmpI fun i j => decide (j ≤ i)
def opMul (x y : D) (S : Sto) : Res D := match x, y with
  | .int i, .int j => if decide ((-M64 < i ∧ i < M64) ∨ (-M64 < j ∧ j < M64)) = true then .ok (.int (i * j)) S else .bad
  | .tup xs, .int k => if decide (xs ≠ [] ∧ 1 ≤ k ∧ k ≤ 1000 ∧ xs.length ≤ 100) = true then .ok (.tup (List.replicate k.toNat xs).flatten) S else .bad
  | .cell n, .int k => match S[n]? with
    | some (.lst xs) => if decide (0 ≤ k ∧ k ≤ 1000 ∧ xs.length ≤ 100) = true then mkLst (List.replicate k.toNat xs).flatten S else .bad
    | _ => .bad
  | _, _ => .bad
section
variable {X : Cx} {cl : Str → Value} {E : XK}
abbrev wt (X : Cx) (cl : Str → Value) (E : XK) : Wt := ⟨X.K, cl, E⟩
theorem rD2.ints {W : Wt} {op : D → D → Sto → Res D} {x y : V} {H : Hp} {Q : VK} {C : Int → Int → Prop} {g : Int → Int → D} {gv : Int → Int → V} (hg : ∀ i j ρ H, Dv W.K ρ H (gv i j) (g i j))
    (h : rD2 W op x y H Q) (ho : ∀ d e S, op d e S = .bad ∨ ∃ i j, d = .int i ∧ e = .int j ∧ C i j ∧ op d e S = .ok (g i j) S) : ∃ i j, x = .int i ∧ y = .int j ∧ C i j ∧ Q (gv i j) H := by
  obtain ⟨ρ, S, d, e, R, r1, r2, P⟩ := h
  rcases ho d e S with z | ⟨i, j, rfl, rfl, c, z⟩
  · rw [z] at P
    exact P.elim
  · rw [z] at P
    exact ⟨i, j, r1.intI, r2.intI, c, P.now R (hg i j ρ H)⟩
theorem od_I {f : Value → Value → Sem Value} {g : Int → Int → Int} {c : Int → Int → Bool} {C : Int → Int → Prop} (h : OpR X f (rI C fun i j => .int (g i j))) (hc : ∀ i j, c i j = true → C i j) : OpD X (wt X cl E) f (opI g c) := by
  refine OpR.imp h fun x y H Q q => rD2.ints (g := fun i j => .int (g i j)) (gv := fun i j => .int (g i j)) (fun i j _ _ => .int _) q fun d e S => ?_
  unfold opI
  split
  · rename_i i j
    split
    · rename_i hh
      exact .inr ⟨i, j, rfl, rfl, hc i j hh, rfl⟩
    · exact .inl rfl
  · exact .inl rfl
theorem od_sub : OpD X (wt X cl E) (binaryOp .Sub) opSub := od_I (C := fun _ _ => True) (OpR.imp op_sub fun x y H Q ⟨i, j, a, b, _, c⟩ => ⟨i, j, a, b, c⟩) fun _ _ _ => trivial
theorem od_fdiv : OpD X (wt X cl E) (binaryOp .FloorDiv) opFdiv := od_I op_fdivN fun i j h => by
  have h2 := of_decide_eq_true (p := j ≠ 0 ∧ j.natAbs < N30) h
  rw [N30_eq] at h2
  exact h2
theorem od_mod : OpD X (wt X cl E) (binaryOp .Mod) opMod := od_I op_modN fun i j h => of_decide_eq_true h
theorem od_pow : OpD X (wt X cl E) (binaryOp .Pow) opPow := od_I op_pow fun i j h => by
  have h2 := of_decide_eq_true (p := 0 ≤ j ∧ j ≤ M6 ∧ i.natAbs < N64) h
  rw [M6_eq, N64_eq] at h2
  exact h2
theorem od_cmpI {f : Value → Value → Sem Value} {g : Int → Int → Bool} (h : OpR X f (rI0 fun i j => .bl (g i j))) : OpD X (wt X cl E) f (opCmpI g) := by
  refine OpR.imp h fun x y H Q q => ?_
  obtain ⟨i, j, a, b, _, c⟩ := rD2.ints (C := fun _ _ => True) (g := fun i j => .bl (g i j)) (gv := fun i j => .bl (g i j)) (fun i j _ _ => .bl _) q fun d e S => by
    unfold opCmpI
    split
    · rename_i i j
      exact .inr ⟨i, j, rfl, rfl, trivial, rfl⟩
    · exact .inl rfl
  exact ⟨i, j, a, b, c⟩
theorem od_lt : OpD X (wt X cl E) (compareOp .Lt) opLt := od_cmpI op_lt
theorem od_le : OpD X (wt X cl E) (compareOp .LtE) opLe := od_cmpI op_le
theorem od_gt : OpD X (wt X cl E) (compareOp .Gt) opGt := od_cmpI op_gt
theorem od_ge : OpD X (wt X cl E) (compareOp .GtE) opGe := od_cmpI op_ge
theorem od_add : OpD X (wt X cl E) (binaryOp .Add) opAdd := by
  refine OpR.imp (OpR.or op_add (OpR.or op_catA op_cat)) fun x y H Q q => ?_
  obtain ⟨ρ, S, d, e, R, r1, r2, P⟩ := q
  unfold opAdd at P
  split at P
  · rename_i i j
    exact .inl ⟨i, j, r1.intI, r2.intI, P.now R (.int _)⟩
  · rename_i xs ys
    refine .inr (.inl ?_)
    obtain ⟨a, us, rfl, s1, v1⟩ := r1.tupI
    obtain ⟨b, ws, rfl, s2, v2⟩ := r2.tupI
    obtain ⟨h1, h2⟩ := P.tup R (v1.append v2)
    rw [List.length_append] at h1
    refine ⟨a, b, us, ws, rfl, rfl, s1, s2, h1, fun z => ?_, fun z z2 => ?_, fun _ _ => h2⟩
    · have e1 : xs = [] := v1.nil_iff.mp z
      unfold mkTup at P
      split at P
      · rw [e1] at P
        exact P.now R r2
      · exact P.elim
    · have e1 : ys = [] := v2.nil_iff.mp z2
      unfold mkTup at P
      split at P
      · rw [e1, List.append_nil] at P
        exact P.now R r1
      · exact P.elim
  · rename_i n m
    split at P
    · rename_i xs ys h1 h2
      obtain ⟨a, rfl, q1⟩ := r1.cellI
      obtain ⟨b, rfl, q2⟩ := r2.cellI
      obtain ⟨us, g1, v1⟩ := R.lst q1 h1
      obtain ⟨ws, g2, v2⟩ := R.lst q2 h2
      obtain ⟨l, k⟩ := P.lst R (v1.append v2)
      rw [List.length_append] at l
      exact .inr (.inr ⟨a, b, us, ws, rfl, rfl, g1, g2, l, k⟩)
    · exact P.elim
  · exact P.elim
end

/-! ### a tuple times one is itself -/
theorem tup_mul_same (l : Addr) (its : Array Value) (n : Nat) (dd : Option Addr) (sl : Array (Option Value)) (x : Int) (u : Tok) (c0 : (decide (x < -(2 ^ 63)) || decide (x ≥ 2 ^ 63)) = false) (c1 : (its.isEmpty || x == 1) = true) :
    Meets (Builtin.«tuple.__mul__» ⟨[.ref l, .int x u], []⟩) (fun _ R s => s.heap.get? l = some { cls := .type "tuple", dict := dd, data := .seq its n, slots := sl } ∧ R (.ok (.ret (Value.ref l))) s) :=
  .of_wp fun prog w A R s h => by
    obtain ⟨hp, g, d, tk, os⟩ := s
    obtain ⟨hl, h⟩ := h
    have f1 := AutoSeq1.idx_int
    wp_walk using wpAny_loadPart' hl
    repeat (first
      | (refine wpAny_ite_false (decide_eq_false (by rw [c0]; exact Bool.false_ne_true)) ?_
         wp_walk using wpAny_loadPart' hl)
      | (refine wpAny_ite_true (by first | exact c1 | exact decide_eq_true c1) ?_
         wp_walk using wpAny_loadPart' hl))
    exact ⟨_, rfl, h⟩
def rRepT1 (K : PySem.W.Frag) : R2 := fun x y H Q => ∃ l xs, x = .ref l ∧ y = .int 1 ∧ SqT K H l xs ∧ Q (.ref l) H
section
variable {X : Cx} {cl : Str → Value} {E : XK}
theorem op_repT1 : OpR X (binaryOp .Mult) (rRepT1 X.K) := by
  intro pins s σ H x y v u Q I rx ry h
  obtain ⟨l, xs, rfl, rfl, hT, q⟩ := h
  obtain rfl : v = Value.ref l := rx
  obtain ⟨t, rfl⟩ := ry
  obtain ⟨its, r, ⟨⟨cls, dd, data, sl⟩, ho, hc, n, hd⟩, hs⟩ := I.tuple hT
  dsimp only at hc hd
  subst hc
  subst hd
  have same := tup_mul_same l its.toArray n dd sl 1 t (by decide) (by simp)
  have viaMul := call_meets (prog := X.prog) (w := X.w) (A := X.A) (E := X.xe) (s := s) (Q := EP X pins σ Q) F.slot_tuple_mul (show s.TypeIs (.ref l) "tuple" from ⟨_, ho, rfl⟩) F.entry_tuple_mul (F.args_tuple_mul_2 _ _) same ⟨ho, ⟨.ref l, H, I, rfl, q⟩⟩
  exact wpAny_binaryOp_repeat_ref (T := "tuple") (U := "int") (by decide) ⟨_, ho, rfl⟩ (fun s' => typeIs_int s' 1 t) noFill_tuple_mul F.fills_int_mul F.slot_int_rmul repeat_tuple F.slot_int_index.lookup
    (call_meets F.slot_int_rmul (typeIs_int s 1 t) F.entry_int_rmul (F.args_int_rmul_2 _ _) (int_rmul_tuple 1 t l its.toArray n dd sl) ⟨ho, rfl, ⟨_, ho, rfl⟩, viaMul⟩)
theorem od_mul : OpD X (wt X cl E) (binaryOp .Mult) opMul := by
  refine OpR.imp (OpR.or op_mul (OpR.or op_repT (OpR.or op_repT1 op_rep))) fun x y H Q q => ?_
  obtain ⟨ρ, S, d, e, R, r1, r2, P⟩ := q
  unfold opMul at P
  split at P
  · rename_i i j
    split at P
    · rename_i hc
      exact .inl ⟨i, j, r1.intI, r2.intI, (by
        have h2 := of_decide_eq_true (p := (-M64 < i ∧ i < M64) ∨ (-M64 < j ∧ j < M64)) hc
        rw [M64_eq] at h2
        exact h2), P.now R (.int _)⟩
    · exact P.elim
  · rename_i xs k
    split at P
    · rename_i hc
      obtain ⟨c1, c2, c3, c4⟩ := of_decide_eq_true hc
      obtain ⟨a, us, rfl, s1, v1⟩ := r1.tupI
      have e2 := r2.intI
      by_cases hk : k = 1
      · subst hk
        refine .inr (.inr (.inl ⟨a, us, rfl, e2, s1, ?_⟩))
        have e3 : (List.replicate (1 : Int).toNat xs).flatten = xs := by simp
        rw [e3] at P
        exact P.now R r1
      · refine .inr (.inl ⟨a, k, us, rfl, e2, s1, fun z => c1 (v1.nil_iff.mp z), by omega, c3, by rw [v1.length]; omega, fun p hp => ?_⟩)
        exact P ρ _ _ (Ext.new hp) (R.new hp) (.tup (.inl (.inl upd_same)) ((v1.rep _).mono (Ext.new hp)))
    · exact P.elim
  · rename_i n k
    split at P
    · rename_i xs h1
      split at P
      · rename_i hc
        obtain ⟨c2, c3, c4⟩ := of_decide_eq_true hc
        obtain ⟨a, rfl, q1⟩ := r1.cellI
        obtain ⟨us, g1, v1⟩ := R.lst q1 h1
        obtain ⟨l, kk⟩ := P.lst R (v1.rep k.toNat)
        refine .inr (.inr (.inr ⟨a, k, us, rfl, r2.intI, g1, by omega, by omega, ?_, kk⟩))
        have a1 : us.length * k.toNat ≤ 100 * 1000 := Nat.mul_le_mul (by rw [v1.length]; exact c4) (by omega)
        exact Nat.le_trans a1 (by decide)
      · exact P.elim
    · exact P.elim
  · exact P.elim

/-! ### == and !=: data of any depth -/
end
def allPy (f : D → Option PyData) : List D → Option (List PyData)
  | [] => some []
  | d :: ds => match f d, allPy f ds with
    | some p, some ps => some (p :: ps)
    | _, _ => none
def toPy : Nat → Sto → D → Option PyData
  | 0, _, _ => none
  | n + 1, S, d => match d with
    | .non => some .none
    | .bl b => some (.bool b)
    | .int i => some (.int i)
    | .str x => some (.str x)
    | .tup xs => (allPy (toPy n S) xs).map .tuple
    | .ro xs => (allPy (toPy n S) xs).map .list
    | .cell k => match S[k]? with
      | some (.lst xs) => (allPy (toPy n S) xs).map .list
      | _ => none
    | .rng _ _ => none
theorem allPy_dp {K : PySem.W.Frag} {ρ : List Addr} {H : Hp} {f : D → Option PyData} (hf : ∀ v d p, Dv K ρ H v d → f d = some p → Dp K H v p) : ∀ {vs : List V} {ds : List D} {ps : List PyData}, DvAll K ρ H vs ds → allPy f ds = some ps → DpAll K H vs ps
  | _, _, _, .nil, e => by cases e; exact .nil
  | _, _, _, .cons (d := d) (ds := ds) r t, e => by
    unfold allPy at e
    split at e
    · rename_i p qs h1 h2
      cases e
      exact .cons (hf _ _ _ r h1) (allPy_dp hf t h2)
    · cases e
theorem toPy_dp {K : PySem.W.Frag} {ρ : List Addr} {H : Hp} {S : Sto} (R : Rep K ρ H S) : ∀ (n : Nat) (v : V) (d : D) (p : PyData), Dv K ρ H v d → toPy n S d = some p → Dp K H v p
  | 0, _, _, _, _, e => by cases e
  | n + 1, v, d, p, h, e => by
    have ih := toPy_dp R n
    cases h with
    | non => cases e; exact .non
    | bl b => cases e; exact .bl b
    | int i => cases e; exact .int i
    | str x => cases e; exact .str x
    | tup a b =>
      obtain ⟨ps, h1, h2⟩ := Option.map_eq_some_iff.mp (show (allPy (toPy n S) _).map PyData.tuple = some p from e)
      rw [← h2]
      exact .tup a (allPy_dp ih b h1)
    | ro a f b =>
      obtain ⟨ps, h1, h2⟩ := Option.map_eq_some_iff.mp (show (allPy (toPy n S) _).map PyData.list = some p from e)
      rw [← h2]
      exact .lst a (allPy_dp ih b h1)
    | cell q =>
      unfold toPy at e
      dsimp only at e
      split at e
      · rename_i xs hx
        obtain ⟨us, g1, g2⟩ := R.lst q hx
        obtain ⟨ps, h1, h2⟩ := Option.map_eq_some_iff.mp e
        rw [← h2]
        exact .lst (SqL.of g1) (allPy_dp ih g2 h1)
      · cases e
    | rng q => cases e
def opEqP (neg : Bool) (x y : D) (S : Sto) : Res D := match toPy 60 S x, toPy 60 S y with
  | some p, some q => if (SeqAt.shaped p && SeqAt.shaped q) = true then .ok (.bl (if neg then !PyData.eqv p q else PyData.eqv p q)) S else .bad
  | _, _ => .bad
/-- two texts of any size; else data of any depth -/
def opEqG (neg : Bool) (x y : D) (S : Sto) : Res D := match x, y with
  | .str a, .str b => .ok (.bl (if neg then !decide (a = b) else decide (a = b))) S
  | x, y => opEqP neg x y S
def opEq := opEqG false
def opNe := opEqG true
section
variable {X : Cx} {cl : Str → Value} {E : XK}
theorem eqP_of {neg : Bool} {x y : V} {H : Hp} {Q : VK} (h : rD2 (wt X cl E) (opEqP neg) x y H Q) :
    ∃ d e, Dp X.K H x d ∧ Dp X.K H y e ∧ SeqAt.shaped d = true ∧ SeqAt.shaped e = true ∧ Q (.bl (if neg then !PyData.eqv d e else PyData.eqv d e)) H := by
  obtain ⟨ρ, S, d, e, R, r1, r2, P⟩ := h
  unfold opEqP at P
  split at P
  · rename_i p q h1 h2
    split at P
    · rename_i hc
      rw [Bool.and_eq_true] at hc
      exact ⟨p, q, toPy_dp R _ _ _ _ r1 h1, toPy_dp R _ _ _ _ r2 h2, hc.1, hc.2, P.now R (.bl _)⟩
    · exact P.elim
  · exact P.elim
theorem eqG_of {neg : Bool} {x y : V} {H : Hp} {Q : VK} (h : rD2 (wt X cl E) (opEqG neg) x y H Q) :
    (scal x y = true ∧ Q (.bl (if neg then !decide (x = y) else decide (x = y))) H) ∨ ∃ d e, Dp X.K H x d ∧ Dp X.K H y e ∧ SeqAt.shaped d = true ∧ SeqAt.shaped e = true ∧ Q (.bl (if neg then !PyData.eqv d e else PyData.eqv d e)) H := by
  obtain ⟨ρ, S, d, e, R, r1, r2, P⟩ := h
  unfold opEqG at P
  split at P
  · rename_i a b
    refine .inl ?_
    rw [r1.strI, r2.strI]
    refine ⟨rfl, ?_⟩
    have q := P.now R (.bl _)
    have e : decide (V.str a = V.str b) = decide (a = b) := by
      by_cases h : a = b
      · rw [h, decide_eq_true rfl, decide_eq_true rfl]
      · rw [decide_eq_false h, decide_eq_false (fun z => h (V.str.inj z))]
    rw [e]
    exact q
  · exact .inr (eqP_of ⟨ρ, S, d, e, R, r1, r2, P⟩)
theorem od_eq (hu : X.A.units + 64 < cLine) : OpD X (wt X cl E) (compareOp .Eq) opEq := OpR.imp (OpR.or op_eq (op_eqD hu)) fun x y H Q q => eqG_of (neg := false) q
theorem od_ne (hu : X.A.units + 64 < cLine) : OpD X (wt X cl E) (compareOp .NotEq) opNe := OpR.imp (OpR.or op_ne (op_neD hu)) fun x y H Q q => eqG_of (neg := true) q

/-! ### is None -/
end
def isNon : D → Bool
  | .non => true
  | _ => false
def opIsN (neg : Bool) (x y : D) (S : Sto) : Res D := match y with
  | .non => .ok (.bl (if neg then !isNon x else isNon x)) S
  | _ => .bad
section
variable {X : Cx} {cl : Str → Value} {E : XK}
theorem Dv.nonIff {K : PySem.W.Frag} {ρ : List Addr} {H : Hp} {v : V} {d : D} (h : Dv K ρ H v d) : decide (v = .non) = isNon d := by
  cases h <;> first | rfl | (exact decide_eq_false (by intro z; cases z))
theorem isN_of {neg : Bool} {x y : V} {H : Hp} {Q : VK} (h : rD2 (wt X cl E) (opIsN neg) x y H Q) : y = .non ∧ Q (.bl (if neg then !decide (x = .non) else decide (x = .non))) H := by
  obtain ⟨ρ, S, d, e, R, r1, r2, P⟩ := h
  unfold opIsN at P
  split at P
  · refine ⟨r2.nonI, ?_⟩
    rw [r1.nonIff]
    exact P.now R (.bl _)
  · exact P.elim
theorem od_isN : OpD X (wt X cl E) (compareOp .Is) (opIsN false) := OpR.imp op_isN fun _ _ _ _ q => isN_of (neg := false) q
theorem od_notN : OpD X (wt X cl E) (compareOp .IsNot) (opIsN true) := OpR.imp op_notN fun _ _ _ _ q => isN_of (neg := true) q
end

/-! ### in, not in: flat items -/
def flatD : D → Bool
  | .non => true
  | .bl _ => true
  | .int _ => true
  | .str _ => true
  | _ => false
def eqF : D → D → Bool
  | .non, .non => true
  | .bl a, .bl b => a == b
  | .bl a, .int b => (if a then 1 else 0) == b
  | .int a, .bl b => a == (if b then 1 else 0)
  | .int a, .int b => a == b
  | .str a, .str b => a == b
  | _, _ => false
def inD (x : D) (ys : List D) : Bool := ys.any fun y => eqF y x
/-! a dict whose keys are tuples -/
def dikOf (S : Sto) : D → Option (List (NestedKey × D))
  | .cell n => match S[n]? with
    | some (.dik kvs) => some kvs
    | _ => none
  | _ => none
def keyT : D → Option NestedKey
  | .tup ds => match keyD (.tup ds) with
    | some k => if (txl k && decide (k.depth ≤ 8)) = true then some k else none
    | none => none
  | _ => none
def dkGet (kvs : List (NestedKey × D)) (k : NestedKey) : Option D := (kvs.find? fun kv => decide (kv.1 = k)).map (·.2)
def dkPut (kvs : List (NestedKey × D)) (k : NestedKey) (d : D) : List (NestedKey × D) := if (dkGet kvs k).isSome = true then kvs.map (fun kv => if kv.1 = k then (kv.1, d) else kv) else kvs ++ [(k, d)]
theorem keyT_tup {d : D} {k : NestedKey} (h : keyT d = some k) : ∃ ds, d = .tup ds ∧ keyD (.tup ds) = some k ∧ txl k = true ∧ k.depth ≤ 8 := by
  unfold keyT at h
  split at h
  · rename_i ds
    split at h
    · rename_i k' hk
      split at h
      · rename_i hc
        cases h
        rw [Bool.and_eq_true, decide_eq_true_eq] at hc
        exact ⟨ds, rfl, hk, hc.1, hc.2⟩
      · cases h
    · cases h
  · cases h
theorem DkR.ok {K : PySem.W.Frag} {ρ : List Addr} {H : Hp} : ∀ {xs : List (NestedKey × Addr × V)} {kvs : List (NestedKey × D)}, DkR K ρ H xs kvs → ∀ p ∈ xs, KOk K H p
  | _, _, .nil => by simp
  | _, _, .cons a b c d e f => fun p hp => by
    rcases List.mem_cons.mp hp with rfl | hp
    · exact ⟨a.nk b, c, d⟩
    · exact DkR.ok f p hp
theorem DkR.get {K : PySem.W.Frag} {ρ : List Addr} {H : Hp} {k : NestedKey} : ∀ {xs : List (NestedKey × Addr × V)} {kvs : List (NestedKey × D)}, DkR K ρ H xs kvs → (atX xs k).isSome = (dkGet kvs k).isSome
  | _, _, .nil => rfl
  | _, _, .cons (k := k1) a b c d e f => by
    have ih := DkR.get (k := k) f
    unfold atX dkGet at *
    by_cases h : k1 = k
    · simp only [List.find?_cons, h, decide_true]
      rfl
    · simp only [List.find?_cons, h, decide_false]
      exact ih
theorem DkR.length {K : PySem.W.Frag} {ρ : List Addr} {H : Hp} : ∀ {xs : List (NestedKey × Addr × V)} {kvs : List (NestedKey × D)}, DkR K ρ H xs kvs → xs.length = kvs.length
  | _, _, .nil => rfl
  | _, _, .cons a b c d e f => by rw [List.length_cons, List.length_cons, DkR.length f]
theorem DkR.puts {K : PySem.W.Frag} {ρ : List Addr} {H : Hp} {k : NestedKey} {v : V} {d : D} (r : Dv K ρ H v d) : ∀ {xs : List (NestedKey × Addr × V)} {kvs : List (NestedKey × D)}, DkR K ρ H xs kvs → DkR K ρ H (xs.map (putX k v)) (kvs.map fun kv => if kv.1 = k then (kv.1, d) else kv)
  | _, _, .nil => .nil
  | _, _, .cons (k := k1) a b c d e f => by
    have ih := DkR.puts (k := k) r f
    simp only [List.map_cons, putX]
    by_cases h : k1 = k
    · simp only [h, if_true]
      subst h
      exact .cons a b c d r ih
    · simp only [h, if_false]
      exact .cons a b c d e ih
theorem DkR.snoc {K : PySem.W.Frag} {ρ : List Addr} {H : Hp} {k : NestedKey} {b : Addr} {v : V} {d : D} {ds : List D} (h1 : Dv K ρ H (.ref b) (.tup ds)) (h2 : keyD (.tup ds) = some k) (h3 : txl k = true) (h4 : k.depth ≤ 8) (r : Dv K ρ H v d) : ∀ {xs : List (NestedKey × Addr × V)} {kvs : List (NestedKey × D)}, DkR K ρ H xs kvs → DkR K ρ H (xs ++ [(k, b, v)]) (kvs ++ [(k, d)])
  | _, _, .nil => .cons h1 h2 h3 h4 r .nil
  | _, _, .cons a b c d e f => .cons a b c d e (DkR.snoc h1 h2 h3 h4 r f)
theorem DkR.put {K : PySem.W.Frag} {ρ : List Addr} {H : Hp} {k : NestedKey} {b : Addr} {v : V} {d : D} {ds : List D} (h1 : Dv K ρ H (.ref b) (.tup ds)) (h2 : keyD (.tup ds) = some k) (h3 : txl k = true) (h4 : k.depth ≤ 8) (r : Dv K ρ H v d) {xs : List (NestedKey × Addr × V)} {kvs : List (NestedKey × D)} (t : DkR K ρ H xs kvs) : DkR K ρ H (storedX xs k b v) (dkPut kvs k d) := by
  unfold storedX dkPut
  rw [t.get]
  split
  · exact t.puts r
  · exact DkR.snoc h1 h2 h3 h4 r t
theorem dik_of {K : PySem.W.Frag} {ρ : List Addr} {H : Hp} {S : Sto} (R : Rep K ρ H S) {x : V} {y : D} {kvs : List (NestedKey × D)} (r : Dv K ρ H x y) (h : dikOf S y = some kvs) : ∃ n a xs, y = .cell n ∧ x = .ref a ∧ S[n]? = some (.dik kvs) ∧ ρ[n]? = some a ∧ H a = some (DkO a xs) ∧ DkR K ρ H xs kvs := by
  unfold dikOf at h
  split at h
  · rename_i n
    split at h
    · rename_i kvs' hk
      cases h
      obtain ⟨a, rfl, q⟩ := r.cellI
      obtain ⟨xs, h1, h2⟩ := R.at n a _ q hk
      exact ⟨n, a, xs, rfl, rfl, hk, q, h1, h2⟩
    · cases h
  · cases h
def opIn (neg : Bool) (x y : D) (S : Sto) : Res D := match items S y with
  | some ys => if (flatD x && ys.all flatD) = true then .ok (.bl (if neg then !inD x ys else inD x ys)) S else .bad
  | none => match dikOf S y, keyT x with
    | some kvs, some k => .ok (.bl (if neg then !(dkGet kvs k).isSome else (dkGet kvs k).isSome)) S
    | _, _ => .bad
section
variable {K : PySem.W.Frag} {ρ : List Addr} {H : Hp}
theorem Dv.flat {v : V} {d : D} (h : Dv K ρ H v d) (f : flatD d = true) : flatV v = true := by
  cases h <;> first | rfl | exact f
theorem Dv.eqF {v w : V} {d e : D} (h : Dv K ρ H v d) (h' : Dv K ρ H w e) (f : flatD d = true) (f' : flatD e = true) : eqV v w = Dn.eqF d e := by
  cases h <;> cases h' <;> first | rfl | (exact absurd f (by decide)) | (exact absurd f' (by decide)) | (exact absurd (show false = true from f) (by decide)) | (exact absurd (show false = true from f') (by decide))
theorem DvAll.flat : ∀ {vs : List V} {ds : List D}, DvAll K ρ H vs ds → ds.all flatD = true → vs.all flatV = true
  | _, _, .nil, _ => rfl
  | _, _, .cons r t, f => by
    rw [List.all_cons, Bool.and_eq_true] at f
    rw [List.all_cons, r.flat f.1, DvAll.flat t f.2]
    rfl
theorem DvAll.inV {v : V} {d : D} (h : Dv K ρ H v d) (f : flatD d = true) : ∀ {vs : List V} {ds : List D}, DvAll K ρ H vs ds → ds.all flatD = true → L2.inV v vs = inD d ds
  | _, _, .nil, _ => rfl
  | v' :: vs, d' :: ds, .cons r t, g => by
    rw [List.all_cons, Bool.and_eq_true] at g
    have ih := DvAll.inV h f t g.2
    show (eqV v' v || L2.inV v vs) = (Dn.eqF d' d || inD d ds)
    rw [ih, r.eqF h g.1 f]
end
section
variable {X : Cx} {cl : Str → Value} {E : XK}
theorem in_of {neg : Bool} {x y : V} {H : Hp} {Q : VK} (h : rD2 (wt X cl E) (opIn neg) x y H Q) : rIn X.K neg x y H Q ∨ rInK X.K neg x y H Q := by
  obtain ⟨ρ, S, d, e, R, r1, r2, P⟩ := h
  unfold opIn at P
  split at P
  · rename_i ys hi
    split at P
    · rename_i hc
      rw [Bool.and_eq_true] at hc
      obtain ⟨a, us, rfl, sq, vs⟩ := r2.seqI R hi
      refine .inl ⟨a, us, rfl, sq, r1.flat hc.1, vs.flat hc.2, ?_⟩
      rw [DvAll.inV r1 hc.1 vs hc.2]
      exact P.now R (.bl _)
    · exact P.elim
  · split at P
    · rename_i kvs k h1 h2
      obtain ⟨ds, rfl, k1, k2, k3⟩ := keyT_tup h2
      obtain ⟨n, a, xs, rfl, rfl, g1, g2, g3, g4⟩ := dik_of R r2 h1
      obtain ⟨b, us, rfl, _⟩ := r1.tupI
      refine .inr ⟨a, b, xs, k, rfl, rfl, g3, g4.ok, r1.nk k1, k3, ?_⟩
      rw [g4.get]
      exact P.now R (.bl _)
    · exact P.elim
theorem od_in (hu : X.A.units + 64 < cLine) : OpD X (wt X cl E) (compareOp .In) (opIn false) := OpR.imp (OpR.or op_in_seq (op_inK hu)) fun _ _ _ _ q => in_of q
theorem od_notIn (hu : X.A.units + 64 < cLine) : OpD X (wt X cl E) (compareOp .NotIn) (opIn true) := OpR.imp (OpR.or op_notIn_seq (op_notInK hu)) fun _ _ _ _ q => in_of q
end

/-! ### subscripts, slices -/
def opIx (x y : D) (S : Sto) : Res D := match y with
  | .int i => match items S x with
    | some ds => match atI ds i with
      | some d => .ok d S
      | none => .bad
    | none => .bad
  | _ => .bad
theorem atI_dv {K : PySem.W.Frag} {ρ : List Addr} {H : Hp} {vs : List V} {ds : List D} {i : Int} {d : D} (h : DvAll K ρ H vs ds) (e : atI ds i = some d) : ∃ v, atI vs i = some v ∧ Dv K ρ H v d := by
  unfold atI at e ⊢
  rw [h.length]
  cases q : ixN ds.length i with
  | none => rw [q] at e; cases e
  | some j =>
    rw [q] at e
    exact h.get e
section
variable {X : Cx} {W : Wt} {cl : Str → Value} {E : XK} {a b : Expr} {da db : DE} {pos : Pos}
theorem ix_D : IxR X (rD2 (wt X cl E) opIx) := by
  intro value slice pins s σ H x y v u Q I rx ry q hs
  refine IxR.or ix_list ix_tup value slice pins s σ H x y v u Q I rx ry ?_ hs
  obtain ⟨ρ, S, d, e, R, r1, r2, P⟩ := q
  unfold opIx at P
  split at P
  · rename_i i
    split at P
    · rename_i ds hi
      split at P
      · rename_i z hz
        obtain ⟨p, us, rfl, sq, vs⟩ := r1.seqI R hi
        obtain ⟨w, h1, h2⟩ := atI_dv vs hz
        rcases sq with sq | sq
        · exact .inl ⟨p, us, i, w, rfl, r2.intI, sq, h1, P.now R h2⟩
        · exact .inr ⟨p, us, i, w, rfl, r2.intI, sq, h1, P.now R h2⟩
      · exact P.elim
    · exact P.elim
  · exact P.elim
theorem se_ix (ha : SE X (wt X cl E) a da) (hb : SE X (wt X cl E) b db) (hs : PlainIx b := by exact fun _ _ => rfl) : SE X (wt X cl E) (.Subscript a b pos) (dBin opIx da db) := pe_imp (pe_ix ix_D ha hb hs) fun _ _ _ h => tOp_of h
end
def cutD (xs : List D) (lo hi : Option Int) : List D := (xs.drop (HT.sIx xs.length 0 lo)).take (HT.sIx xs.length xs.length hi - HT.sIx xs.length 0 lo)
def opSl (x : D) (lo hi : Option Int) (S : Sto) : Res D := match x with
  | .tup xs => .ok (.tup (cutD xs lo hi)) S
  | .ro xs => .ok (.cell S.length) (S ++ [.lst (cutD xs lo hi)])
  | .cell n => match S[n]? with
    | some (.lst xs) => .ok (.cell S.length) (S ++ [.lst (cutD xs lo hi)])
    | _ => .bad
  | _ => .bad
def dNoPart : DO := fun _ S => .ok none S
def dPart (a : DE) : DO := fun δ S => (a δ S).bnd fun d S1 => match d with
  | .int i => .ok (some i) S1
  | _ => .bad
def dSl (a : DE) (lo hi : DO) : DE := fun δ S => (a δ S).bnd fun x S1 => (lo δ S1).bnd fun l S2 => (hi δ S2).bnd fun h S3 => opSl x l h S3
theorem cut_dv {K : PySem.W.Frag} {ρ : List Addr} {H : Hp} {vs : List V} {ds : List D} (lo hi : Option Int) (h : DvAll K ρ H vs ds) : DvAll K ρ H (cutV vs lo hi) (cutD ds lo hi) := by
  unfold cutV cutD
  rw [h.length]
  exact (h.drop _).take _
theorem cut_whole {α : Type} (xs : List α) {lo hi : Option Int} (h : HT.sIx xs.length 0 lo = 0 ∧ HT.sIx xs.length xs.length hi = xs.length) : (xs.drop (HT.sIx xs.length 0 lo)).take (HT.sIx xs.length xs.length hi - HT.sIx xs.length 0 lo) = xs := by
  rw [h.1, h.2, List.drop_zero, Nat.sub_zero, List.take_length]
section
variable {X : Cx} {W : Wt} {cl : Str → Value} {E : XK} {a : Expr} {da : DE} {pos p2 : Pos}
theorem so_none : PO X none (tOp' W dNoPart) := po_imp po_none fun σ H Q ⟨ρ, δ, S, R, N, P⟩ => Post.now (Rl := rlO) P R rfl
theorem so_some (h : SE X W a da) : PO X (some a) (tOp' W (dPart da)) := po_imp (po_some h) fun σ H Q h => tG.step h fun ρ δ ρ1 S1 H1 v d N e R r P => by
  cases r with
  | int i => exact ⟨i, rfl, Post.now (Rl := rlO) P R rfl⟩
  | _ => exact P.elim
theorem sl_D : SlR X (fun x lo hi H Q => ∃ ρ S d, Rep X.K ρ H S ∧ Dv X.K ρ H x d ∧ Post (wt X cl E) (Dv X.K) ρ H (opSl d lo hi S) Q) := by
  intro pins s σ H x v vl vu lo hi sl Q I rx hs pl pu q
  refine SlR.or sl_tupA sl_list pins s σ H x v vl vu lo hi sl Q I rx hs pl pu ?_
  obtain ⟨ρ, S, d, R, r, P⟩ := q
  unfold opSl at P
  have fresh : ∀ (us : List V) (ds : List D), DvAll X.K ρ H us ds → Post (wt X cl E) (Dv X.K) ρ H (.ok (.cell S.length) (S ++ [.lst (cutD ds lo hi)])) Q → ∀ p, H p = none → Q (.ref p) (upd H p (.lst (cutV us lo hi))) := fun us ds vs P p hp => by
    refine P (ρ ++ [p]) _ _ (Ext.newC hp) (R.newC hp ⟨_, upd_same, (cut_dv lo hi vs).mono (Ext.newC hp)⟩) (.cell ?_)
    rw [← R.len, List.getElem?_append_right (Nat.le_refl _), Nat.sub_self]
    rfl
  split at P
  · rename_i ds
    obtain ⟨p, us, rfl, sq, vs⟩ := r.tupI
    refine .inl ⟨p, us, rfl, sq, fun hw => ?_, fun _ p hp => ?_⟩
    · have e : cutD ds lo hi = ds := cut_whole ds (by rw [← vs.length]; exact hw)
      rw [e] at P
      exact P.now R r
    · exact P ρ _ _ (Ext.new hp) (R.new hp) (.tup (.inl (.inl upd_same)) ((cut_dv lo hi vs).mono (Ext.new hp)))
  · rename_i ds
    cases r with
    | ro sq f vs => exact .inr ⟨_, _, rfl, sq, fresh _ _ vs P⟩
  · rename_i n
    split at P
    · rename_i ds h1
      obtain ⟨p, rfl, q1⟩ := r.cellI
      obtain ⟨us, g1, vs⟩ := R.lst q1 h1
      exact .inr ⟨p, us, rfl, SqL.of g1, fresh _ _ vs P⟩
    · exact P.elim
  · exact P.elim
theorem se_sl {lo hi : Option Expr} {dl dh : DO} (ha : SE X (wt X cl E) a da) (hl : PO X lo (tOp' (wt X cl E) dl)) (hh : PO X hi (tOp' (wt X cl E) dh)) : SE X (wt X cl E) (.Subscript a (.Slice lo hi none p2) pos) (dSl da dl dh) :=
  pe_imp (pe_slice (sl_D (cl := cl) (E := E)) ha hl hh) fun σ H Q h => tG.step h fun ρ δ ρ1 S1 H1 v d N e R r P => ⟨ρ1, δ, S1, R, N, (Post.bnd P).imp fun l H2 ⟨ρ2, S2, d2, e2, R2, r2, P2⟩ => ⟨ρ2, δ, S2, R2, N.mono e2, (Post.bnd P2).imp fun h H3 ⟨ρ3, S3, d3, e3, R3, r3, P3⟩ => by
    have r2' : l = d2 := r2
    have r3' : h = d3 := r3
    rw [r2', r3']
    exact ⟨ρ3, S3, d, R3, (r.mono e2).mono e3, P3⟩⟩⟩
end
end Dn
set_option Elab.async false
set_option linter.all false
set_option maxRecDepth 100000
set_option maxHeartbeats 1000000
/-! DnE: enumerate(t), t a tuple. -/
noncomputable section
namespace Dn
open PySem PySem.Spec PyProof.Rows L2
theorem enum_new1 {v : Value} {o : Obj} {G : Heap → Prop} (B : Begins v o G) :
    Meets (Builtin.«enumerate.__new__» ⟨[.type "enumerate", v], []⟩) (fun _ R s => G s.heap ∧
      R (.ok (.ret (.ref (s.heap.push o).objs.size))) { s with heap := (s.heap.push o).push { cls := .type "enumerate", data := .fields #[.none, .bool false, .ref s.heap.objs.size, rawInt 0, .none, .none] } }) :=
  .of_wp fun prog w A R s h => by
    obtain ⟨hp, g, d, tk, os⟩ := s
    obtain ⟨h1, h⟩ := h
    have hsub := sub_enumerate
    have made : ∀ {A' : Around} {E : Value → Shared → Prop} {Q : Value → Shared → Prop}, Q (.ref hp.objs.size) ⟨hp.push o, g, d, tk, os⟩ → wpAny (model prog w) A' (pyIter v) Q E ⟨hp, g, d, tk, os⟩ :=
      fun q => B.iter prog w _ _ ⟨hp, g, d, tk, os⟩ _ h1 q
    wp_walk using made
    refine wpAny_stack_any fun st => wpAny_pure ?_
    split
    · rename_i c _ _ _ _ _
      cases (c == Value.type "enumerate") <;>
        (wp_walk using made
         exact ⟨_, rfl, h⟩)
    · wp_walk using made
      exact ⟨_, rfl, h⟩
section
variable {prog : Program} {w : World} {A : Around} {E : Value → Shared → Prop} {s : Shared}
theorem call_enum1 {v : Value} {o : Obj} {G : Heap → Prop} {Q : Value → Shared → Prop} (B : Begins v o G) (h1 : G s.heap)
    (h : ∀ h', IsEnum h' (s.heap.objs.size + 1) s.heap.objs.size 0 .none → h'.get? s.heap.objs.size = some o → h'.objs.size = s.heap.objs.size + 2 → (∀ b u, s.heap.get? b = some u → h'.get? b = some u) → Q (.ref (s.heap.objs.size + 1)) { s with heap := h' }) :
    wpAny (model prog w) A (call (.type "enumerate") [v]) Q E s := by
  have z1 : (s.heap.push o).objs.size = s.heap.objs.size + 1 := Heap.size_push ..
  refine callType_new F.called_enumerate (by decide) (F.typeCall_enumerate_1 _) (F.newCall_enumerate_1 _) (fun obj => F.args_object_init_2 obj _) F.entry_enumerate_new (enum_new1 B) ⟨h1, ?_⟩
  have there : IsEnum ((s.heap.push o).push { cls := .type "enumerate", data := .fields #[.none, .bool false, .ref s.heap.objs.size, rawInt 0, .none, .none] }) (s.heap.objs.size + 1) s.heap.objs.size 0 .none := by
    have q := Heap.get?_push_size (s.heap.push o) (o := { cls := .type "enumerate", data := .fields #[.none, .bool false, .ref s.heap.objs.size, rawInt 0, .none, .none] }) rfl
    rw [z1] at q
    exact q
  show _ ∧ _
  rw [z1]
  exact ⟨⟨_, there, rfl⟩, h _ there (Heap.get?_push_of_some _ (Heap.get?_push_size _ B.free)) (by rw [Heap.size_push, z1]) fun b u x => Heap.get?_push_of_some _ (Heap.get?_push_of_some _ x)⟩
end
/-- the tuple at a, its items in new pairs with their numbers -/
def ItU (K : PySem.W.Frag) (a : Addr) : It where
  go := fun i H => ∃ (xs : List V) (x : V), SqT K H a xs ∧ xs[i]? = some x
  yld := fun i H v H' => ∃ T x, v = .ref T ∧ H T = none ∧ H' = upd H T (.tup [.int (i : Nat), x]) ∧ ∀ xs, SqT K H a xs → xs[i]? = some x
  stop := fun i H => ∃ xs : List V, SqT K H a xs ∧ xs.length ≤ i
theorem turn_enumU {P : Program} {w : World} {K : PySem.W.Frag} {elts : List Expr} {kk : Nat} {tpos : Pos} (a e it : Addr) :
    Turn P w K (.Tuple elts kk tpos) (ItU K a) [e, it] e (fun i h => (∃ old, IsEnum h e it ((i : Nat) : Int) old) ∧ h.IsTupleIter it a i ∧ e ≠ it ∧ a ≠ it ∧ a ≠ e) where
  mem := by simp
  obj := fun i h ⟨⟨old, he⟩, ⟨o, ho, hc, hd⟩, _⟩ b hb => by
    rcases List.mem_cons.mp hb with z | z
    · exact z ▸ ⟨_, he, fun v q => nomatch q⟩
    · rw [List.mem_singleton.mp z]
      exact ⟨o, ho, fun v q => by
        rw [hd] at q
        cases q⟩
  keep := fun i h h' ⟨⟨old, he⟩, hi, hne⟩ k => ⟨⟨old, k e (by simp) _ he⟩, hi.at fun o q => k it (by simp) o q, hne⟩
  item := by
    intro X hP hw hK hc i pins s σ H E I hf ⟨⟨old, he⟩, hit, hne, hai, hae⟩ ⟨xs, x, hq, hx⟩
    subst hP
    subst hw
    subst hK
    obtain ⟨its, rv, p, hz⟩ := I.tuple hq
    obtain ⟨u, hu, ru⟩ := rv.get hx
    have hel : e < s.heap.objs.size := Heap.lt_size he
    have hil : it < s.heap.objs.size := let ⟨_, q, _⟩ := hit; Heap.lt_size q
    have hlt : i < its.toArray.size := by
      rw [List.size_toArray]
      exact (List.getElem?_eq_some_iff.mp hu).1
    have D := Draws.tuple (prog := X.prog) (w := X.w) (A := X.A.in1) (I.ok.hd hc) it a hai its.toArray
    refine wpAny_pyNext_enum_itemD D he ⟨hit, p⟩ hlt hne (by simp [hne, Ne.symm hae]) fun y h' tk hy ho hst hT hsz hk => ?_
    obtain rfl : u = y := by
      have hy' : its[i]? = some y := by simpa using hy
      rw [hu] at hy'
      exact Option.some.inj hy'
    refine ⟨_, rfl, wpAny_letOwnedTupleGo_enum (s := { s with heap := h', toks := tk + 1 }) ho fun h2 he2 sb => ?_⟩
    have hT2 : h2.get? s.heap.objs.size = some { cls := .type "tuple", data := .seq #[.int i tk, u] } := (sb.2 _ (Nat.ne_of_gt hel)).trans hT
    have new : ObjOk X.prog X.w (upd H s.heap.objs.size (.tup [.int (i : Nat), x])) h2 s.heap.objs.size (.tup [.int (i : Nat), x]) :=
      ⟨by show 2 ≤ sizeLine; decide, [.int i tk, u], .cons ⟨_, rfl⟩ (.cons ru .nil), ⟨_, hT2, rfl, _, rfl⟩⟩
    have kept : ∀ b ob, b ∉ [e, it] → s.heap.get? b = some ob → h2.get? b = some ob := fun b ob hb q =>
      (sb.2 b fun z => hb (by simp [z])).trans (hk b ob (fun z => hb (by simp [z])) (fun z => hb (by simp [z])) q)
    have I1 : Inv X pins σ (upd H s.heap.objs.size (.tup [.int (i : Nat), x])) { s with heap := h2, toks := tk + 1 } := I.turnedNew (ch := [e, it]) kept hf (Nat.le_refl _) new
    have nxt : ((i + 1 : Nat) : Int) = (i : Int) + 1 := by omega
    refine ⟨.ref s.heap.objs.size, _, I1, rfl, ⟨_, x, rfl, I.hok.fresh (Nat.le_refl _), rfl, fun ys hy => by rw [I.tuple_inj hy hq]; exact hx⟩, ⟨⟨u, by rw [nxt]; exact he2⟩, hst.1.at fun o q => (sb.2 it (Ne.symm hne)).trans q, hne, hai, hae⟩, fun b hb => ?_⟩
    have hb' : b < s.heap.objs.size := by
      rcases List.mem_cons.mp hb with z | z
      · exact z ▸ hel
      · rw [List.mem_singleton.mp z]
        exact hil
    rw [upd_ne (Nat.ne_of_lt hb')]
    exact (hf b hb).1
  done := by
    intro X hP hw hK hc i pins s σ H E I hf ⟨⟨old, he⟩, hit, hne, hai, hae⟩ ⟨xs, hq, hx⟩
    subst hP
    subst hw
    subst hK
    obtain ⟨its, rv, p, hz⟩ := I.tuple hq
    obtain ⟨f0, f1, f2, f3, f4, f5⟩ := hf it (by simp)
    have hl := rv.length
    unfold pyNext
    refine wpAny_bind (wpAny_attempt (wpAny_callSpecial?_slot (name := Str.ofString "__next__") (show s.TypeIs (.ref e) "enumerate" from ⟨_, he, rfl⟩) F.slot_enumerate_next
      (wpAny_call_entry F.slot_enumerate_next (show s.TypeIs (.ref e) "enumerate" from ⟨_, he, rfl⟩) F.entry_enumerate_next ?_ (F.args_enumerate_next_1 _))))
    show wpAny _ _ (field (.ref e) 2 >>= _) _ _ _
    refine wpAny_bind (wpAny_field he rfl (x := .ref it) rfl ?_)
    refine wpAny_bind (wpAny_nextOf_tuple_end (I.ok.hd hc) hit p (by simp; omega) fun h' x eb hx' => ?_)
    obtain ⟨o, ho, hcl⟩ := hx'
    exact wpAny_bind (wpAny_isInstance (T := "StopIteration") (b := true) ⟨o, ho, hcl⟩ isSubtype_stop (wpAny_pure ⟨rfl, I.turned (t' := s.toks) (fun b u hb q => eb b u hb q) f0 f1 f3 f4 f5⟩))
  self := fun A i s Q E ⟨⟨_, he⟩, _⟩ h => wpAny_pyIter_enum he h
def iEnumT (K : PySem.W.Frag) (ta : TA) : TI := fun σ H R => ta σ H fun vs H1 => ∃ a xs, vs = [.ref a] ∧ SqT K H1 a xs ∧ R (ItU K a) H1
theorem pi_enumT {X : Cx} {e : Expr} {ta : TA} {p pos tpos : Pos} {elts : List Expr} {kk : Nat} (hg : Gl X "enumerate") (hm : X.mg "enumerate" = none) (ha : PA X [e] ta) (hs : starEach [e] X.env = [(false, eval e X.env)] := by rfl) :
    PI X (.Tuple elts kk tpos) (.Call (.Name "enumerate" p) [e] [] pos) (iEnumT X.K ta) := by
  refine ⟨fun pins s σ H R I h => ?_⟩
  refine Call_ (ld_blt I hg hm boot_enumerate (PyProof.Rows.callWith_type1 (thn (ha.run pos pins s σ H _ I h) fun us s1 ⟨vs, H1, I1, r1, a, xs, ex, hq, q⟩ => ?_) hs rfl))
  subst ex
  cases r1 with
  | cons r rr =>
    cases rr
    cases r
    obtain ⟨its, rv, pt, hz⟩ := I1.tuple hq
    have hal : a < s1.heap.objs.size := by
      obtain ⟨o, ho, _⟩ := pt
      exact Heap.lt_size ho
    refine call_enum1 (begins_tuple a its.toArray) pt fun h' he hit hsz hk => wpAny_pyIter_enum he ?_
    have I2 : Inv X pins σ H1 { s1 with heap := h' } := I1.kept (t' := s1.toks) hk
    have own : ∀ b ∈ [s1.heap.objs.size + 1, s1.heap.objs.size], s1.heap.objs.size ≤ b := fun b hb => by
      rcases List.mem_cons.mp hb with z | z
      · exact z ▸ Nat.le_add_right _ _
      · rw [List.mem_singleton.mp z]
        exact Nat.le_refl _
    exact ⟨s1.heap.objs.size + 1, [s1.heap.objs.size + 1, s1.heap.objs.size], _, _, H1, rfl, I2, turn_enumU a (s1.heap.objs.size + 1) s1.heap.objs.size,
      ⟨⟨.none, he⟩, ⟨_, hit, rfl, rfl⟩, Nat.succ_ne_self _, Nat.ne_of_lt hal, Nat.ne_of_lt (Nat.lt_succ_of_lt hal)⟩, fun b hb => I1.fpOk (own b hb) (I1.hok.fresh (own b hb)), q⟩
end Dn
set_option Elab.async false
set_option linter.all false
set_option maxRecDepth 100000
set_option maxHeartbeats 1000000
/-! Dn3: targets, statements, loops, comprehensions, functions. -/
noncomputable section
namespace Dn
open PySem PySem.Spec PyProof.Rows L2

/-! ### targets -/
inductive Tg where
  | nm (i : Nat) | tp (ts : List Tg)
mutual
def Tg.set : Tg → D → En → Option En
  | .nm i, d, δ => some (δ.set i (some d))
  | .tp ts, d, δ => match d with
    | .tup ds => Tg.setAll ts ds δ
    | _ => none
def Tg.setAll : List Tg → List D → En → Option En
  | [], [], δ => some δ
  | t :: ts, d :: ds, δ => match t.set d δ with
    | some δ' => Tg.setAll ts ds δ'
    | none => none
  | _, _, _ => none
end
mutual
def Tg.slots : Tg → List Nat
  | .nm i => [i]
  | .tp ts => Tg.slotsAll ts
def Tg.slotsAll : List Tg → List Nat
  | [] => []
  | t :: ts => t.slots ++ Tg.slotsAll ts
end
structure Off (vs : List Nat) (σ σ' : L2.St) : Prop where
  len : σ'.length = σ.length
  at' : ∀ i, i ∉ vs → σ'[i]? = σ[i]?
theorem Off.trans {vs ws us : List Nat} {σ σ1 σ2 : L2.St} (a : Off vs σ σ1) (b : Off ws σ1 σ2) (h1 : ∀ i ∈ vs, i ∈ us) (h2 : ∀ i ∈ ws, i ∈ us) : Off us σ σ2 :=
  ⟨b.len.trans a.len, fun i hi => (b.at' i fun z => hi (h2 i z)).trans (a.at' i fun z => hi (h1 i z))⟩
def gD (K : PySem.W.Frag) (g : Tg) : TG := fun v σ H Q => ∃ ρ δ d δ', EnvR K ρ H σ δ ∧ Dv K ρ H v d ∧ g.set d δ = some δ' ∧ ∀ σ', EnvR K ρ H σ' δ' → Off g.slots σ σ' → Q σ' H
def gsD (K : PySem.W.Frag) (gs : List Tg) : TGs := fun vs σ H Q => ∃ ρ δ ds δ', EnvR K ρ H σ δ ∧ DvAll K ρ H vs ds ∧ Tg.setAll gs ds δ = some δ' ∧ ∀ σ', EnvR K ρ H σ' δ' → Off (Tg.slotsAll gs) σ σ' → Q σ' H
theorem pg_imp {X : Cx} {e : Expr} {t t' : TG} (h : PG X e t) (i : ∀ v σ H Q, t' v σ H Q → t v σ H Q) : PG X e t' := by
  obtain ⟨h1⟩ := h
  exact ⟨by intros; apply h1 <;> first | assumption | (apply i; assumption)⟩
theorem pgs_imp {X : Cx} {e : List Expr} {t t' : TGs} (h : PGs X e t) (i : ∀ v σ H Q, t' v σ H Q → t v σ H Q) : PGs X e t' := by
  obtain ⟨h1⟩ := h
  exact ⟨by intros; apply h1 <;> first | assumption | (apply i; assumption)⟩

section
variable {X : Cx} {pos : Pos}
theorem sg_name {i : Nat} {x : Str} (hN : X.N.Nodup) (hi : X.N[i]? = some x) (hx : Loc X.env.scope x) (hf : X.fn x = true ∨ X.env.scope.names.lookup x = some .local := by first | exact .inl rfl | exact .inr rfl | assumption) : PG X (.Name x pos) (gD X.K (.nm i)) :=
  pg_imp (pg_name hN hi hx hf) fun v σ H Q ⟨ρ, δ, d, δ', N, r, e, k⟩ => by
    cases e
    refine k _ (N.set i r) ⟨List.length_set, fun j hj => ?_⟩
    exact List.getElem?_set_ne fun z => hj (by rw [z]; exact List.mem_singleton.mpr rfl)
theorem sgs_nil : PGs X [] (gsD X.K []) :=
  pgs_imp pgs_nil fun vs σ H Q ⟨ρ, δ, ds, δ', N, r, e, k⟩ => by
    cases r with
    | nil =>
      cases e
      exact ⟨rfl, k σ N ⟨rfl, fun _ _ => rfl⟩⟩
    | cons a b => cases e
theorem sgs_cons {e : Expr} {es : List Expr} {g : Tg} {gs : List Tg} (h1 : PG X e (gD X.K g)) (h2 : PGs X es (gsD X.K gs))
    (hs : (assignEach (e :: es) X.env).map (·.2) = assign e X.env :: (assignEach es X.env).map (·.2) := by rfl) : PGs X (e :: es) (gsD X.K (g :: gs)) :=
  pgs_imp (pgs_cons h1 h2 hs) fun vs σ H Q ⟨ρ, δ, ds, δ', N, r, e, k⟩ => by
    cases r with
    | nil => cases e
    | cons a b =>
      unfold Tg.setAll at e
      split at e
      · rename_i δ1 h
        refine ⟨_, _, rfl, ρ, δ, _, δ1, N, a, h, fun σ1 N1 o1 => ⟨ρ, δ1, _, δ', N1, b, e, fun σ2 N2 o2 => k σ2 N2 (o1.trans o2 ?_ ?_)⟩⟩
        · intro i hi
          exact List.mem_append_left _ hi
        · intro i hi
          exact List.mem_append_right _ hi
      · cases e
theorem sg_tup {es : List Expr} {k : Nat} {gs : List Tg} (hc : X.calm = true) (h : PGs X es (gsD X.K gs)) (hl : gs.length = es.length := by rfl)
    (hn : (assignEach es X.env).length = es.length := by rfl) (hst : (assignEach es X.env).findIdx? (·.1) = none := by rfl) : PG X (.Tuple es k pos) (gD X.K (.tp gs)) :=
  pg_imp (pg_tup hc h hn hst) fun v σ H Q ⟨ρ, δ, d, δ', N, r, e, k⟩ => by
    unfold Tg.set at e
    split at e
    · rename_i ds
      obtain ⟨a, xs, rfl, sq, vs⟩ := r.tupI
      have len : ∀ (gs : List Tg) (ds : List D) (δ δ' : En), Tg.setAll gs ds δ = some δ' → ds.length = gs.length := by
        intro gs
        induction gs with
        | nil =>
          intro ds δ δ' e
          cases ds with
          | nil => rfl
          | cons a b => cases e
        | cons g gs ih =>
          intro ds δ δ' e
          cases ds with
          | nil => cases e
          | cons a b =>
            unfold Tg.setAll at e
            split at e
            · exact congrArg Nat.succ (ih b _ _ e)
            · cases e
      refine ⟨a, xs, rfl, sq, ?_, ρ, δ, ds, δ', N, vs, e, k⟩
      rw [vs.length, len gs ds δ δ' e, hl]
    · cases e
end

/-! ### how statements end -/
def PostS (W : Wt) (ρ : List Addr) (H : Hp) (o : Out) (D : Ends) : Prop := match o with
  | .nx δ S => ∀ ρ' H' σ', Ext ρ H ρ' H' → Rep W.K ρ' H' S → EnvR W.K ρ' H' σ' δ → D.nx σ' H'
  | .bk δ S => ∀ ρ' H' σ', Ext ρ H ρ' H' → Rep W.K ρ' H' S → EnvR W.K ρ' H' σ' δ → D.bk σ' H'
  | .ct δ S => ∀ ρ' H' σ', Ext ρ H ρ' H' → Rep W.K ρ' H' S → EnvR W.K ρ' H' σ' δ → D.ct σ' H'
  | .rt d S => ∀ ρ' H' v, Ext ρ H ρ' H' → Rep W.K ρ' H' S → Dv W.K ρ' H' v d → D.rt v H'
  | .exc c S => ∀ ρ' H', Ext ρ H ρ' H' → Rep W.K ρ' H' S → W.E (W.cl c) none H'
  | .bad => False
theorem PostS.base {W : Wt} {ρ ρ' : List Addr} {H H' : Hp} {o : Out} {D : Ends} (e : Ext ρ H ρ' H') (h : PostS W ρ H o D) : PostS W ρ' H' o D := by
  cases o with
  | nx δ S => exact fun ρ2 H2 σ2 e2 => h ρ2 H2 σ2 (e.trans e2)
  | bk δ S => exact fun ρ2 H2 σ2 e2 => h ρ2 H2 σ2 (e.trans e2)
  | ct δ S => exact fun ρ2 H2 σ2 e2 => h ρ2 H2 σ2 (e.trans e2)
  | rt d S => exact fun ρ2 H2 v e2 => h ρ2 H2 v (e.trans e2)
  | exc c S => exact fun ρ2 H2 e2 => h ρ2 H2 (e.trans e2)
  | bad => exact h
/-- a statement's reading -/
def tS (W : Wt) (ds : DS) : TS := fun D σ H => ∃ ρ δ S, Rep W.K ρ H S ∧ EnvR W.K ρ H σ δ ∧ PostS W ρ H (ds δ S) D
abbrev SS (X : Cx) (W : Wt) (st : Stmt) (ds : DS) : Prop := PS X st (tS W ds)
abbrev SB (X : Cx) (W : Wt) (st : List Stmt) (ds : DS) : Prop := PSs X st (tS W ds)
theorem ps_imp {X : Cx} {st : Stmt} {t t' : TS} (h : PS X st t) (i : ∀ D σ H, t' D σ H → t D σ H) : PS X st t' := ⟨fun pins s σ H D I q => h.run pins s σ H D I (i D σ H q)⟩
theorem pss_imp {X : Cx} {st : List Stmt} {t t' : TS} (h : PSs X st t) (i : ∀ D σ H, t' D σ H → t D σ H) : PSs X st t' := ⟨fun pins s σ H D I q => h.run pins s σ H D I (i D σ H q)⟩
def andThen (o : Out) (k : DS) : Out := match o with
  | .nx δ S => k δ S
  | .bk δ S => .bk δ S
  | .ct δ S => .ct δ S
  | .rt d S => .rt d S
  | .exc c S => .exc c S
  | .bad => .bad
def dSkip : DS := fun δ S => .nx δ S
def dSeq (a b : DS) : DS := fun δ S => andThen (a δ S) b
/-- a result, then a statement -/
def thenS {α : Type} (r : Res α) (k : α → Sto → Out) : Out := match r with
  | .ok a S => k a S
  | .exc c S => .exc c S
  | .bad => .bad
def dDrop (e : DE) : DS := fun δ S => thenS (e δ S) fun _ S1 => .nx δ S1
def dRet (e : DE) : DS := fun δ S => thenS (e δ S) fun d S1 => .rt d S1
def dRetN : DS := fun _ S => .rt .non S
def dIfS (c : DT) (a b : DS) : DS := fun δ S => thenS (c δ S) fun k S1 => if k = true then a δ S1 else b δ S1
def dSet (i : Nat) (e : DE) : DS := fun δ S => thenS (e δ S) fun d S1 => .nx (δ.set i (some d)) S1
def dAsg (g : Tg) (e : DE) : DS := fun δ S => thenS (e δ S) fun d S1 => match g.set d δ with
  | some δ' => .nx δ' S1
  | none => .bad
def dBrk : DS := fun δ S => .bk δ S
def dCont : DS := fun δ S => .ct δ S
theorem PostS.res {α β : Type} {W : Wt} {Rl : List Addr → Hp → β → α → Prop} {ρ : List Addr} {H : Hp} {r : Res α} {k : α → Sto → Out} {D : Ends} {Q : β → Hp → Prop} (h : PostS W ρ H (thenS r k) D)
    (q : ∀ ρ1 H1 v d S1, Ext ρ H ρ1 H1 → Rep W.K ρ1 H1 S1 → Rl ρ1 H1 v d → PostS W ρ1 H1 (k d S1) D → Q v H1) : Post W Rl ρ H r Q := by
  cases r with
  | ok d S => exact fun ρ1 H1 v e R r => q ρ1 H1 v d S e R r (PostS.base e h)
  | exc c S => exact h
  | bad => exact h
section
variable {X : Cx} {W : Wt} {st : Stmt} {rest : List Stmt} {e : Expr} {pos : Pos} {a b : DS} {de : DE}
theorem sb_nil : SB X W [] dSkip := pss_imp pss_nil fun D σ H ⟨ρ, δ, S, R, N, P⟩ => P ρ H σ (Ext.refl ρ H) R N
theorem sb_cons (h1 : SS X W st a) (h2 : SB X W rest b) : SB X W (st :: rest) (dSeq a b) := pss_imp (pss_cons h1 h2) fun D σ H ⟨ρ, δ, S, R, N, P⟩ => by
  refine ⟨ρ, δ, S, R, N, ?_⟩
  unfold dSeq at P
  cases q : a δ S with
  | nx δ1 S1 =>
    rw [q] at P
    exact fun ρ1 H1 σ1 e1 R1 N1 => ⟨ρ1, δ1, S1, R1, N1, PostS.base e1 P⟩
  | bk δ1 S1 => rw [q] at P; exact P
  | ct δ1 S1 => rw [q] at P; exact P
  | rt δ1 S1 => rw [q] at P; exact P
  | exc δ1 S1 => rw [q] at P; exact P
  | bad => rw [q] at P; exact P
theorem sb_one (h1 : SS X W st a) : SB X W [st] a := pss_one h1
theorem ss_pass : SS X W (.Pass pos) dSkip := ps_imp ps_pass fun D σ H ⟨ρ, δ, S, R, N, P⟩ => P ρ H σ (Ext.refl ρ H) R N
theorem ss_break : SS X W (.Break pos) dBrk := ps_imp ps_break fun D σ H ⟨ρ, δ, S, R, N, P⟩ => P ρ H σ (Ext.refl ρ H) R N
theorem ss_continue : SS X W (.Continue pos) dCont := ps_imp ps_continue fun D σ H ⟨ρ, δ, S, R, N, P⟩ => P ρ H σ (Ext.refl ρ H) R N
theorem ss_expr (he : SE X W e de) (hs : swapsWith e none pos.line X.env = pure false := by rfl) : SS X W (.Expr e pos) (dDrop de) := ps_imp (ps_expr he hs) fun D σ H ⟨ρ, δ, S, R, N, P⟩ =>
  ⟨ρ, δ, S, R, N, PostS.res P fun ρ1 H1 v d S1 e1 R1 r1 P1 => P1 ρ1 H1 σ (Ext.refl ρ1 H1) R1 (N.mono e1)⟩
theorem ss_ret (he : SE X W e de) : SS X W (.Return (some e) pos) (dRet de) := ps_imp (ps_ret he) fun D σ H ⟨ρ, δ, S, R, N, P⟩ =>
  ⟨ρ, δ, S, R, N, PostS.res P fun ρ1 H1 v d S1 e1 R1 r1 P1 => P1 ρ1 H1 v (Ext.refl ρ1 H1) R1 r1⟩
theorem ss_retN : SS X W (.Return none pos) dRetN := ps_imp ps_retN fun D σ H ⟨ρ, δ, S, R, N, P⟩ => P ρ H .non (Ext.refl ρ H) R .non
theorem ss_if {c : Expr} {as bs : List Stmt} {dt : DT} (hc : ST X W c dt) (ha : SB X W as a) (hb : SB X W bs b) : SS X W (.If c as bs pos) (dIfS dt a b) := ps_imp (ps_if hc ha hb) fun D σ H ⟨ρ, δ, S, R, N, P⟩ =>
  ⟨ρ, δ, S, R, N, PostS.res P fun ρ1 H1 v d S1 e1 R1 r1 P1 => by
    have r1' : v = d := r1
    subst r1'
    cases v with
    | true =>
      show tS W a D σ H1
      exact ⟨ρ1, δ, S1, R1, N.mono e1, P1⟩
    | false =>
      show tS W b D σ H1
      exact ⟨ρ1, δ, S1, R1, N.mono e1, P1⟩⟩
theorem tSet_of {i : Nat} {D : Ends} {σ : L2.St} {H : Hp} (h : tS W (dSet i de) D σ H) : tAsg (tE W de) (gName i) D σ H := by
  obtain ⟨ρ, δ, S, R, N, P⟩ := h
  exact ⟨ρ, δ, S, R, N, PostS.res P fun ρ1 H1 v d S1 e1 R1 r1 P1 => P1 ρ1 H1 _ (Ext.refl ρ1 H1) R1 ((N.mono e1).set i r1)⟩
theorem ss_set {i : Nat} {x : Str} {pos' : Pos} (hN : X.N.Nodup) (hi : X.N[i]? = some x) (hx : Loc X.env.scope x) (he : SE X W e de) (hs : swapsWith e (some (.Name x pos')) pos.line X.env = pure false := by rfl)
    (hf : X.fn x = true ∨ X.env.scope.names.lookup x = some .local := by first | exact .inl rfl | exact .inr rfl | assumption) : SS X W (.Assign [.Name x pos'] e pos) (dSet i de) := ps_imp (ps_set hN hi hx he hs hf) fun D σ H h => tSet_of h
theorem ss_asg {tg : Expr} {g : Tg} (he : SE X W e de) (hg : PG X tg (gD X.K g)) (hW : W.K = X.K := by rfl) (hs : swapsWithSole [tg] e pos.line X.env = pure false := by rfl) (hw : swappedStores [tg] e X.env = pure none := by rfl)
    (h1 : (assignEach [tg] X.env).map (·.2) = [assign tg X.env] := by rfl) : SS X W (.Assign [tg] e pos) (dAsg g de) := ps_imp (ps_asg he hg hs hw h1) fun D σ H ⟨ρ, δ, S, R, N, P⟩ =>
  ⟨ρ, δ, S, R, N, PostS.res P fun ρ1 H1 v d S1 e1 R1 r1 P1 => by
    split at P1
    · rename_i δ' hδ
      rw [← hW]
      exact ⟨ρ1, δ, d, δ', N.mono e1, r1, hδ, fun σ' N' o' => P1 ρ1 H1 σ' (Ext.refl ρ1 H1) R1 N'⟩
    · exact P1.elim⟩
end
/-- a, b = e, f without a tuple; a, b, c = e, f, g -/
def dPar (is : List Nat) (as : DA) : DS := fun δ S => thenS (as δ S) fun ds S1 => match Tg.setAll (is.map .nm) ds δ with
  | some δ' => .nx δ' S1
  | none => .bad
section
variable {X : Cx} {W : Wt} {da : DA} {pos : Pos}
theorem ss_par {i j : Nat} {x y : Str} {a b : Expr} {px py pt : Pos} {kt k2 pt2} (hc : X.calm = true) (hN : X.N.Nodup) (hi : X.N[i]? = some x) (hj : X.N[j]? = some y) (hij : i ≠ j)
    (hx : X.env.scope.names.lookup x = some .local) (hy : X.env.scope.names.lookup y = some .local) (ha : SA X W [a, b] da)
    (hw : swappedStores [.Tuple [.Name x px, .Name y py] kt pt] (.Tuple [a, b] k2 pt2) X.env = pure (some [x, y]))
    (hs : swapsWithSole [.Tuple [.Name x px, .Name y py] kt pt] (.Tuple [a, b] k2 pt2) pos.line X.env = pure false := by rfl) :
    SS X W (.Assign [.Tuple [.Name x px, .Name y py] kt pt] (.Tuple [a, b] k2 pt2) pos) (dPar [i, j] da) := ps_imp (ps_par hc hN hi hj hij hx hy ha hw hs) fun D σ H ⟨ρ, δ, S, R, N, P⟩ =>
  ⟨ρ, δ, S, R, N, PostS.res P fun ρ1 H1 v d S1 e1 R1 r1 P1 => by
    cases r1 with
    | nil => exact P1.elim
    | cons r1 r2 =>
      cases r2 with
      | nil => exact P1.elim
      | cons r2 r3 =>
        cases r3 with
        | cons _ _ => exact P1.elim
        | nil => exact ⟨_, _, rfl, P1 ρ1 H1 _ (Ext.refl ρ1 H1) R1 (((N.mono e1).set i r1).set j r2)⟩⟩
theorem ss_par3 {i j l : Nat} {x y z : Str} {a b c : Expr} {px py pz pt : Pos} {kt k2 pt2} (hc : X.calm = true) (hN : X.N.Nodup) (hi : X.N[i]? = some x) (hj : X.N[j]? = some y) (hl : X.N[l]? = some z) (hij : i ≠ j) (hil : i ≠ l) (hjl : j ≠ l)
    (hx : X.env.scope.names.lookup x = some .local) (hy : X.env.scope.names.lookup y = some .local) (hz : X.env.scope.names.lookup z = some .local) (ha : SA X W [a, b, c] da)
    (hw : swappedStores [.Tuple [.Name x px, .Name y py, .Name z pz] kt pt] (.Tuple [a, b, c] k2 pt2) X.env = pure (some [x, y, z]))
    (hs : swapsWithSole [.Tuple [.Name x px, .Name y py, .Name z pz] kt pt] (.Tuple [a, b, c] k2 pt2) pos.line X.env = pure false := by rfl) :
    SS X W (.Assign [.Tuple [.Name x px, .Name y py, .Name z pz] kt pt] (.Tuple [a, b, c] k2 pt2) pos) (dPar [i, j, l] da) := ps_imp (ps_par3 hc hN hi hj hl hij hil hjl hx hy hz ha hw hs) fun D σ H ⟨ρ, δ, S, R, N, P⟩ =>
  ⟨ρ, δ, S, R, N, PostS.res P fun ρ1 H1 v d S1 e1 R1 r1 P1 => by
    cases r1 with
    | nil => exact P1.elim
    | cons r1 r2 =>
      cases r2 with
      | nil => exact P1.elim
      | cons r2 r3 =>
        cases r3 with
        | nil => exact P1.elim
        | cons r3 r4 =>
          cases r4 with
          | cons _ _ => exact P1.elim
          | nil => exact ⟨_, _, _, rfl, P1 ρ1 H1 _ (Ext.refl ρ1 H1) R1 ((((N.mono e1).set i r1).set j r2).set l r3)⟩⟩
end

/-! ### what is walked -/
inductive Src where
  | seq (d : D) | rng (lo hi : Int) | en (d : D) | zp (d e : D)
def Src.len (S : Sto) : Src → Option Nat
  | .seq d => (items S d).map List.length
  | .rng lo hi => some (hi - lo).toNat
  | .en d => (items S d).map List.length
  | .zp d e => (items S d).bind fun xs => (items S e).map fun ys => min xs.length ys.length
def Src.item (S : Sto) (i : Nat) : Src → Option D
  | .seq d => (items S d).bind (·[i]?)
  | .rng lo hi => if i < (hi - lo).toNat then some (.int (lo + i)) else none
  | .en d => (items S d).bind fun xs => xs[i]?.map fun x => .tup [.int i, x]
  | .zp d e => (items S d).bind fun xs => (items S e).bind fun ys => xs[i]?.bind fun x => ys[i]?.map fun y => .tup [x, y]
/-- the walk is that of the source, from here on -/
def SrcR (K : PySem.W.Frag) (ρ0 : List Addr) (H0 : Hp) (J : It) (s : Src) : Prop := ∀ ρ H S, Ext ρ0 H0 ρ H → Rep K ρ H S → ∀ n, s.len S = some n →
  (∀ i, i < n → J.go i H) ∧ (∀ i, n ≤ i → J.stop i H) ∧ ∀ i x H', i < n → J.yld i H x H' → ∃ d, s.item S i = some d ∧ Ext ρ H ρ H' ∧ Rep K ρ H' S ∧ Dv K ρ H' x d
abbrev DSrc := En → Sto → Res Src
def tSrc (W : Wt) (ds : DSrc) : TI := tG W (fun ρ H J s => SrcR W.K ρ H J s) ds
theorem pi_imp {X : Cx} {tg iter : Expr} {t t' : TI} (h : PI X tg iter t) (i : ∀ σ H R, t' σ H R → t σ H R) : PI X tg iter t' := ⟨fun pins s σ H R I q => h.run pins s σ H R I (i σ H R q)⟩
def isL (S : Sto) : D → Bool
  | .ro _ => true
  | .cell n => match S[n]? with
    | some (.lst _) => true
    | _ => false
  | _ => false
def isT : D → Bool
  | .tup _ => true
  | _ => false
def srcL (a : DE) : DSrc := fun δ S => (a δ S).bnd fun d S1 => if isL S1 d = true then .ok (.seq d) S1 else .bad
def srcT (a : DE) : DSrc := fun δ S => (a δ S).bnd fun d S1 => if isT d = true then .ok (.seq d) S1 else .bad
def enL (a : DA) : DSrc := fun δ S => (a δ S).bnd fun ds S1 => match ds with
  | [d] => if isL S1 d = true then .ok (.en d) S1 else .bad
  | _ => .bad
def enT (a : DA) : DSrc := fun δ S => (a δ S).bnd fun ds S1 => match ds with
  | [d] => if isT d = true then .ok (.en d) S1 else .bad
  | _ => .bad
def inRng (i : Int) : Bool := decide (-M62 ≤ i ∧ i < M62)
theorem inRng_bd {i : Int} (h : inRng i = true) : -(2 ^ 62) ≤ i ∧ i < 2 ^ 62 := by
  have h2 := of_decide_eq_true (p := -M62 ≤ i ∧ i < M62) h
  rw [M62_eq] at h2
  exact h2
def rng1 (a : DA) : DSrc := fun δ S => (a δ S).bnd fun ds S1 => match ds with
  | [.int j] => if inRng j = true then .ok (.rng 0 j) S1 else .bad
  | _ => .bad
def rng2 (a : DA) : DSrc := fun δ S => (a δ S).bnd fun ds S1 => match ds with
  | [.int i, .int j] => if (inRng i && inRng j) = true then .ok (.rng i j) S1 else .bad
  | _ => .bad
section
variable {K : PySem.W.Frag} {ρ : List Addr} {H : Hp} {S : Sto}
theorem isL_items {d : D} (h : isL S d = true) : ∃ ds, items S d = some ds := by
  unfold isL at h
  unfold items
  split at h
  · exact ⟨_, rfl⟩
  · dsimp only
    split at h
    · rename_i ds e
      exact ⟨ds, by first | rfl | rw [e]⟩
    · cases h
  · cases h
/-- a list value reads as a list, now and later -/
theorem Dv.listI (R : Rep K ρ H S) {v : V} {d : D} {ds : List D} (h : Dv K ρ H v d) (hl : isT d = false) (hi : items S d = some ds) : ∃ a xs, v = .ref a ∧ SqL K H a xs ∧ DvAll K ρ H xs ds := by
  cases h with
  | tup a b => cases hl
  | ro a f b => cases hi; exact ⟨_, _, rfl, a, b⟩
  | cell q =>
    obtain ⟨xs, h1, h2⟩ := R.lst q (items_cell hi)
    exact ⟨_, xs, rfl, SqL.of h1, h2⟩
  | _ => cases hi
theorem isL_not {d : D} (h : isL S d = true) : isT d = false := by
  cases d <;> first | rfl | cases h
theorem src_list {v : V} {d : D} {a : Addr} (hv : v = .ref a) (r : Dv K ρ H v d) (hl : isT d = false) : SrcR K ρ H (Itl K a) (.seq d) := fun ρ1 H1 S1 e R n hn => by
  obtain ⟨ds, hi, rfl⟩ := Option.map_eq_some_iff.mp (show (items S1 d).map List.length = some n from hn)
  obtain ⟨b, xs, hb, sq, vs⟩ := (r.mono e).listI R hl hi
  rw [hv] at hb
  cases hb
  refine ⟨fun i hi2 => ⟨xs, xs[i]'(by rw [vs.length]; exact hi2), sq, List.getElem?_eq_getElem _⟩, fun i hi2 => ⟨xs, sq, by rw [vs.length]; exact hi2⟩, fun i x H' hi2 y => ?_⟩
  obtain ⟨hH, hx⟩ := y
  obtain ⟨d', q1, q2⟩ := vs.getV (hx xs sq)
  refine ⟨d', ?_, by rw [hH]; exact Ext.refl _ _, by rw [hH]; exact R, by rw [hH]; exact q2⟩
  show (items S1 d).bind _ = _
  rw [hi]
  exact q1
theorem src_tup {v : V} {d : D} {a : Addr} (hv : v = .ref a) (r : Dv K ρ H v d) (hl : isT d = true) : SrcR K ρ H (Itt K a) (.seq d) := fun ρ1 H1 S1 e R n hn => by
  cases d with
  | tup ds =>
    obtain ⟨b, xs, hb, sq, vs⟩ := (r.mono e).tupI
    rw [hv] at hb
    cases hb
    have hn' : ds.length = n := Option.some.inj hn
    subst hn'
    refine ⟨fun i hi2 => ⟨xs, xs[i]'(by rw [vs.length]; exact hi2), sq, List.getElem?_eq_getElem _⟩, fun i hi2 => ⟨xs, sq, by rw [vs.length]; exact hi2⟩, fun i x H' hi2 y => ?_⟩
    obtain ⟨hH, hx⟩ := y
    obtain ⟨d', q1, q2⟩ := vs.getV (hx xs sq)
    exact ⟨d', q1, by rw [hH]; exact Ext.refl _ _, by rw [hH]; exact R, by rw [hH]; exact q2⟩
  | _ => cases hl
theorem pairD {R : Rep K ρ H S} {T : Addr} {i : Nat} {x : V} {d : D} (hT : H T = none) (r : Dv K ρ H x d) : Ext ρ H ρ (upd H T (.tup [.int i, x])) ∧ Rep K ρ (upd H T (.tup [.int i, x])) S ∧ Dv K ρ (upd H T (.tup [.int i, x])) (.ref T) (.tup [.int i, d]) :=
  ⟨Ext.new hT, R.new hT, .tup (.inl (.inl upd_same)) (.cons (.int _) (.cons (r.mono (Ext.new hT)) .nil))⟩
theorem src_enL {v : V} {d : D} {a : Addr} (hv : v = .ref a) (r : Dv K ρ H v d) (hl : isT d = false) : SrcR K ρ H (Ite K a) (.en d) := fun ρ1 H1 S1 e R n hn => by
  obtain ⟨ds, hi, rfl⟩ := Option.map_eq_some_iff.mp (show (items S1 d).map List.length = some n from hn)
  obtain ⟨b, xs, hb, sq, vs⟩ := (r.mono e).listI R hl hi
  rw [hv] at hb
  cases hb
  refine ⟨fun i hi2 => ⟨xs, xs[i]'(by rw [vs.length]; exact hi2), sq, List.getElem?_eq_getElem _⟩, fun i hi2 => ⟨xs, sq, by rw [vs.length]; exact hi2⟩, fun i x H' hi2 y => ?_⟩
  obtain ⟨T, z, rfl, hT, rfl, hx⟩ := y
  obtain ⟨d', q1, q2⟩ := vs.getV (hx xs sq)
  obtain ⟨k1, k2, k3⟩ := pairD (R := R) (i := i) hT q2
  refine ⟨.tup [.int i, d'], ?_, k1, k2, k3⟩
  show (items S1 d).bind _ = _
  rw [hi]
  show ds[i]?.map _ = _
  rw [q1]
  rfl
theorem src_enT {v : V} {d : D} {a : Addr} (hv : v = .ref a) (r : Dv K ρ H v d) (hl : isT d = true) : SrcR K ρ H (ItU K a) (.en d) := fun ρ1 H1 S1 e R n hn => by
  cases d with
  | tup ds =>
    obtain ⟨b, xs, hb, sq, vs⟩ := (r.mono e).tupI
    rw [hv] at hb
    cases hb
    have hn' : ds.length = n := Option.some.inj hn
    subst hn'
    refine ⟨fun i hi2 => ⟨xs, xs[i]'(by rw [vs.length]; exact hi2), sq, List.getElem?_eq_getElem _⟩, fun i hi2 => ⟨xs, sq, by rw [vs.length]; exact hi2⟩, fun i x H' hi2 y => ?_⟩
    obtain ⟨T, z, rfl, hT, rfl, hx⟩ := y
    obtain ⟨d', q1, q2⟩ := vs.getV (hx xs sq)
    obtain ⟨k1, k2, k3⟩ := pairD (R := R) (i := i) hT q2
    refine ⟨.tup [.int i, d'], ?_, k1, k2, k3⟩
    show ds[i]?.map _ = _
    rw [q1]
    rfl
  | _ => cases hl
theorem src_rng (lo hi : Int) : SrcR K ρ H (Itr lo (hi - lo).toNat) (.rng lo hi) := fun ρ1 H1 S1 e R n hn => by
  have hn' : (hi - lo).toNat = n := Option.some.inj hn
  subst hn'
  refine ⟨fun i h => h, fun i h => h, fun i x H' h y => ?_⟩
  obtain ⟨hH, hx⟩ := y
  refine ⟨.int (lo + i), if_pos h, by rw [hH]; exact Ext.refl _ _, by rw [hH]; exact R, by rw [hx]; exact .int _⟩
end
section
variable {X : Cx} {cl : Str → Value} {E : XK} {tg e : Expr} {de : DE} {da : DA} {p pos tpos : Pos}
theorem so_list (h : SE X (wt X cl E) e de) : PI X tg e (tSrc (wt X cl E) (srcL de)) := pi_imp (pi_list h) fun σ H R h => tG.step h fun ρ δ ρ1 S1 H1 v d N e R1 r P => by
  split at P
  · rename_i hl
    obtain ⟨ds, hi⟩ := isL_items hl
    obtain ⟨a, xs, rfl, sq, vs⟩ := r.listI R1 (isL_not hl) hi
    exact ⟨a, rfl, ⟨xs, sq⟩, Post.now (Rl := fun ρ H J s => SrcR X.K ρ H J s) P R1 (src_list rfl r (isL_not hl))⟩
  · exact P.elim
theorem so_tup (h : SE X (wt X cl E) e de) : PI X tg e (tSrc (wt X cl E) (srcT de)) := pi_imp (pi_tup h) fun σ H R h => tG.step h fun ρ δ ρ1 S1 H1 v d N e R1 r P => by
  split at P
  · rename_i hl
    cases d with
    | tup ds =>
      obtain ⟨a, xs, rfl, sq, vs⟩ := r.tupI
      exact ⟨a, rfl, ⟨xs, sq⟩, Post.now (Rl := fun ρ H J s => SrcR X.K ρ H J s) P R1 (src_tup rfl r hl)⟩
    | _ => cases hl
  · exact P.elim
theorem one_of {K : PySem.W.Frag} {ρ : List Addr} {H : Hp} {vs : List V} {d : D} (h : DvAll K ρ H vs [d]) : ∃ v, vs = [v] ∧ Dv K ρ H v d := by
  cases h with
  | cons a b =>
    cases b
    exact ⟨_, rfl, a⟩
theorem two_of {K : PySem.W.Frag} {ρ : List Addr} {H : Hp} {vs : List V} {d d' : D} (h : DvAll K ρ H vs [d, d']) : ∃ v w, vs = [v, w] ∧ Dv K ρ H v d ∧ Dv K ρ H w d' := by
  cases h with
  | cons a b =>
    obtain ⟨w, rfl, c⟩ := one_of b
    exact ⟨_, w, rfl, a, c⟩
theorem so_enumL {elts : List Expr} {kk : Nat} (hg : Gl X "enumerate") (hm : X.mg "enumerate" = none) (ha : SA X (wt X cl E) [e] da) (hs : starEach [e] X.env = [(false, eval e X.env)] := by rfl) :
    PI X (.Tuple elts kk tpos) (.Call (.Name "enumerate" p) [e] [] pos) (tSrc (wt X cl E) (enL da)) := pi_imp (pi_enum hg hm ha hs) fun σ H R h => tG.step h fun ρ δ ρ1 S1 H1 v d N e R1 r P => by
  split at P
  · split at P
    · rename_i d hl
      obtain ⟨w, rfl, r3⟩ := one_of r
      obtain ⟨ds, hi⟩ := isL_items hl
      obtain ⟨a, xs, rfl, sq, vs⟩ := r3.listI R1 (isL_not hl) hi
      exact ⟨a, xs, rfl, sq, Post.now (Rl := fun ρ H J s => SrcR X.K ρ H J s) P R1 (src_enL rfl r3 (isL_not hl))⟩
    · exact P.elim
  · exact P.elim
theorem so_enumT {elts : List Expr} {kk : Nat} (hg : Gl X "enumerate") (hm : X.mg "enumerate" = none) (ha : SA X (wt X cl E) [e] da) (hs : starEach [e] X.env = [(false, eval e X.env)] := by rfl) :
    PI X (.Tuple elts kk tpos) (.Call (.Name "enumerate" p) [e] [] pos) (tSrc (wt X cl E) (enT da)) := pi_imp (pi_enumT hg hm ha hs) fun σ H R h => tG.step h fun ρ δ ρ1 S1 H1 v d N e R1 r P => by
  split at P
  · split at P
    · rename_i d hl
      obtain ⟨w, rfl, r3⟩ := one_of r
      cases d with
      | tup ds =>
        obtain ⟨a, xs, rfl, sq, vs⟩ := r3.tupI
        exact ⟨a, xs, rfl, sq, Post.now (Rl := fun ρ H J s => SrcR X.K ρ H J s) P R1 (src_enT rfl r3 hl)⟩
      | _ => cases hl
    · exact P.elim
  · exact P.elim
theorem so_range1 (hg : Gl X "range") (hm : X.mg "range" = none) (ha : SA X (wt X cl E) [e] da) (hs : starEach [e] X.env = [(false, eval e X.env)] := by rfl) : PI X tg (.Call (.Name "range" p) [e] [] pos) (tSrc (wt X cl E) (rng1 da)) :=
  pi_imp (pi_range1 hg hm ha hs) fun σ H R h => tG.step h fun ρ δ ρ1 S1 H1 v d N e R1 r P => by
    split at P
    · rename_i j
      split at P
      · rename_i hl
        obtain ⟨w, rfl, r3⟩ := one_of r
        have b := inRng_bd hl
        refine ⟨j, by rw [r3.intI], b.1, b.2, Post.now (Rl := fun ρ H J s => SrcR X.K ρ H J s) P R1 ?_⟩
        have q := src_rng (K := X.K) (ρ := ρ1) (H := H1) 0 j
        rw [show (j - 0).toNat = j.toNat by rw [Int.sub_zero]] at q
        exact q
      · exact P.elim
    · exact P.elim
theorem so_range2 {f : Expr} (hg : Gl X "range") (hm : X.mg "range" = none) (ha : SA X (wt X cl E) [e, f] da) (hs : starEach [e, f] X.env = [(false, eval e X.env), (false, eval f X.env)] := by rfl) (hs2 : starEach [f] X.env = [(false, eval f X.env)] := by rfl) :
    PI X tg (.Call (.Name "range" p) [e, f] [] pos) (tSrc (wt X cl E) (rng2 da)) :=
  pi_imp (pi_range2 hg hm ha hs hs2) fun σ H R h => tG.step h fun ρ δ ρ1 S1 H1 v d N e R1 r P => by
    split at P
    · rename_i i j
      split at P
      · rename_i hl
        rw [Bool.and_eq_true] at hl
        obtain ⟨w1, w2, rfl, r1, r2⟩ := two_of r
        have b1 := inRng_bd hl.1
        have b2 := inRng_bd hl.2
        exact ⟨i, j, by rw [r1.intI, r2.intI], ⟨b1.1, b1.2, b2.1, b2.2⟩, Post.now (Rl := fun ρ H J s => SrcR X.K ρ H J s) P R1 (src_rng i j)⟩
      · exact P.elim
    · exact P.elim
end
end Dn
set_option Elab.async false
set_option linter.all false
set_option maxRecDepth 100000
set_option maxHeartbeats 1000000
/-! Dn4: for, comprehensions, functions and their calls. -/
noncomputable section
namespace Dn
open PySem PySem.Spec PyProof.Rows L2

/-! ### for -/
/-- one turn's end -/
def loopEnd (o : Out) (k : En → Sto → Out) : Out := match o with
  | .nx δ S => k δ S
  | .ct δ S => k δ S
  | .bk δ S => .nx δ S
  | .rt d S => .rt d S
  | .exc c S => .exc c S
  | .bad => .bad
def dLoop (g : Tg) (body : DS) (s : Src) : Nat → Nat → DS
  | 0, i, δ, S => match s.len S with
    | some n => if n ≤ i then .nx δ S else .bad
    | none => .bad
  | f + 1, i, δ, S => match s.len S with
    | some n => if n ≤ i then .nx δ S else match s.item S i with
      | some d => match g.set d δ with
        | some δ1 => loopEnd (body δ1 S) fun δ2 S2 => dLoop g body s f (i + 1) δ2 S2
        | none => .bad
      | none => .bad
    | none => .bad
def dFor (src : DSrc) (g : Tg) (body : DS) : DS := fun δ S => thenS (src δ S) fun s S1 => match s.len S1 with
  | some n => dLoop g body s n 0 δ S1
  | none => .bad
theorem tFor_of {W : Wt} {src : DSrc} {g : Tg} {body : DS} {D : Ends} {σ : L2.St} {H : Hp} (h : tS W (dFor src g body) D σ H) : tFor (tSrc W src) (gD W.K g) (tS W body) D σ H := by
  obtain ⟨ρ, δ, S, R, N, P⟩ := h
  refine ⟨ρ, δ, S, R, N, PostS.res P fun ρ1 H1 J s S1 e1 R1 sr P1 => ?_⟩
  cases hn : s.len S1 with
  | none => rw [hn] at P1; exact P1.elim
  | some n =>
    rw [hn] at P1
    refine ⟨fun i m σ H => ∃ ρ δ S, Ext ρ1 H1 ρ H ∧ Rep W.K ρ H S ∧ EnvR W.K ρ H σ δ ∧ PostS W ρ H (dLoop g body s m i δ S) D, ⟨n, ρ1, δ, S1, Ext.refl _ _, R1, N.mono e1, P1⟩, ?_⟩
    rintro i m σ H ⟨ρ, δ, S, e, R, N, P⟩
    cases m with
    | zero =>
      unfold dLoop at P
      cases hl : s.len S with
      | none => rw [hl] at P; exact P.elim
      | some l =>
        rw [hl] at P
        dsimp only at P
        split at P
        · rename_i hle
          exact .inl ⟨(sr ρ H S e R l hl).2.1 i hle, P ρ H σ (Ext.refl _ _) R N⟩
        · exact P.elim
    | succ m =>
      unfold dLoop at P
      cases hl : s.len S with
      | none => rw [hl] at P; exact P.elim
      | some l =>
        rw [hl] at P
        dsimp only at P
        split at P
        · rename_i hle
          exact .inl ⟨(sr ρ H S e R l hl).2.1 i hle, P ρ H σ (Ext.refl _ _) R N⟩
        · rename_i hle
          have hlt : i < l := Nat.lt_of_not_le hle
          refine .inr ⟨(sr ρ H S e R l hl).1 i hlt, fun σ' H' => ∃ ρ δ S, Ext ρ1 H1 ρ H' ∧ Rep W.K ρ H' S ∧ EnvR W.K ρ H' σ' δ ∧ PostS W ρ H' (dLoop g body s m (i + 1) δ S) D, fun σ' H' q => ⟨m, Nat.lt_succ_self m, q⟩, fun x H' y => ?_⟩
          obtain ⟨d, hd, e2, R2, r2⟩ := (sr ρ H S e R l hl).2.2 i x H' hlt y
          rw [hd] at P
          dsimp only at P
          cases hg : g.set d δ with
          | none => rw [hg] at P; exact P.elim
          | some δ1 =>
            rw [hg] at P
            refine ⟨ρ, δ, d, δ1, N.mono e2, r2, hg, fun σ2 N2 _ => ⟨ρ, δ1, S, R2, N2, ?_⟩⟩
            have P2 : PostS W ρ H' (loopEnd (body δ1 S) fun δ2 S2 => dLoop g body s m (i + 1) δ2 S2) D := PostS.base e2 P
            have e02 := e.trans e2
            cases hb : body δ1 S with
            | nx δ2 S2 =>
              rw [hb] at P2
              exact fun ρ3 H3 σ3 e3 R3 N3 => ⟨ρ3, δ2, S2, e02.trans e3, R3, N3, PostS.base e3 P2⟩
            | ct δ2 S2 =>
              rw [hb] at P2
              exact fun ρ3 H3 σ3 e3 R3 N3 => ⟨ρ3, δ2, S2, e02.trans e3, R3, N3, PostS.base e3 P2⟩
            | bk δ2 S2 => rw [hb] at P2; exact P2
            | rt d2 S2 => rw [hb] at P2; exact P2
            | exc c2 S2 => rw [hb] at P2; exact P2
            | bad => rw [hb] at P2; exact P2
theorem ss_for {X : Cx} {cl : Str → Value} {E : XK} {tg iter : Expr} {bs : List Stmt} {src : DSrc} {g : Tg} {b : DS} {pos : Pos} (hp : PassesOwn (model X.prog X.w) X.A X.env X.xe) (hc : X.calm = true) (hi : PI X tg iter (tSrc (wt X cl E) src)) (hg : PG X tg (gD X.K g))
    (hb : SB X (wt X cl E) bs b) (hs : ∀ x, foldedSetIterable iter X.env x = pure x := by intro _; rfl) : SS X (wt X cl E) (.For tg iter bs [] pos) (dFor src g b) := ps_imp (ps_for hp hc hi hg hb hs) fun D σ H h => tFor_of h

/-! ### comprehensions -/
def nox {α : Type} (r : Res α) : Res α := match r with
  | .ok a S => .ok a S
  | .exc _ _ => .bad
  | .bad => .bad
@[simp] theorem nox_ok {α : Type} (a : α) (S : Sto) : nox (.ok a S) = .ok a S := rfl
@[simp] theorem nox_bad {α : Type} : nox (.bad : Res α) = .bad := rfl
def lcPut (c : Nat) (y : D) (S : Sto) : Option Sto := match S[c]? with
  | some (.lst acc) => if acc.length < lim then some (S.set c (.lst (acc ++ [y]))) else none
  | _ => none
def dLcGo (g : Tg) (t : DT) (elt : DE) (s : Src) (c : Nat) (δ : En) : Nat → Nat → Sto → Res D
  | 0, i, S => match s.len S with
    | some n => if n ≤ i then .ok (.cell c) S else .bad
    | none => .bad
  | f + 1, i, S => match s.len S with
    | some n => if n ≤ i then .ok (.cell c) S else match s.item S i with
      | some d => match g.set d δ with
        | some δ1 => (nox (t δ1 S)).bnd fun b S2 => if b = true then (nox (elt δ1 S2)).bnd fun y S3 => match lcPut c y S3 with
            | some S4 => dLcGo g t elt s c δ f (i + 1) S4
            | none => .bad
          else dLcGo g t elt s c δ f (i + 1) S2
        | none => .bad
      | none => .bad
    | none => .bad
def dLc (src : DSrc) (g : Tg) (t : DT) (elt : DE) (own : List Nat) : DE := fun δ S => (src δ S).bnd fun s S1 => match s.len (S1 ++ [.lst []]) with
  | some n => dLcGo g t elt s S1.length (wipeD δ own) n 0 (S1 ++ [.lst []])
  | none => .bad
def dYes : DT := fun _ S => .ok true S
theorem wipe_len (σ : L2.St) (vs : List Nat) : (L2.wipe σ vs).length = σ.length := L2.wipe_length σ vs
theorem wipe_get {σ : L2.St} {i : Nat} : ∀ {vs : List Nat}, i ∉ vs → (L2.wipe σ vs)[i]? = σ[i]?
  | [], _ => rfl
  | v :: vs, h => by
    show ((L2.wipe σ vs).set v none)[i]? = _
    rw [List.getElem?_set_ne fun z => h (by rw [z]; exact List.mem_cons_self)]
    exact wipe_get fun z => h (List.mem_cons_of_mem _ z)
theorem wipe_in {σ : L2.St} {i : Nat} : ∀ {vs : List Nat}, i ∈ vs → i < σ.length → (L2.wipe σ vs)[i]? = some none
  | v :: vs, h, hl => by
    show ((L2.wipe σ vs).set v none)[i]? = _
    by_cases e : v = i
    · subst e
      exact List.getElem?_set_self (by rw [wipe_len]; exact hl)
    · rw [List.getElem?_set_ne e]
      rcases List.mem_cons.mp h with z | z
      · exact absurd z.symm e
      · exact wipe_in z hl
theorem wipe_off {vs ws : List Nat} {σ σ2 : L2.St} (h : Off ws (L2.wipe σ vs) σ2) (hs : ∀ i ∈ ws, i ∈ vs) : L2.wipe σ2 vs = L2.wipe σ vs := by
  apply List.ext_getElem?
  intro i
  by_cases hi : i ∈ vs
  · by_cases hl : i < σ.length
    · rw [wipe_in hi hl, wipe_in hi (by rw [h.len, wipe_len]; exact hl)]
    · rw [List.getElem?_eq_none (by rw [wipe_len, h.len, wipe_len]; exact Nat.le_of_not_lt hl), List.getElem?_eq_none (by rw [wipe_len]; exact Nat.le_of_not_lt hl)]
  · rw [wipe_get hi, h.at' i fun z => hi (hs i z)]
theorem Post.nox {α β γ β' : Type} {W W0 : Wt} {Rl : List Addr → Hp → β → α → Prop} {Rl' : List Addr → Hp → β' → γ → Prop} (hK : W0.K = W.K) {ρ : List Addr} {H : Hp} {r : Res α} {f : α → Sto → Res γ} {Q : β' → Hp → Prop} (h : Post W Rl' ρ H ((Dn.nox r).bnd f) Q) {Q' : β → Hp → Prop}
    (q : ∀ ρ1 H1 v d S1, Ext ρ H ρ1 H1 → Rep W.K ρ1 H1 S1 → Rl ρ1 H1 v d → Post W Rl' ρ1 H1 (f d S1) Q → Q' v H1) : Post W0 Rl ρ H r Q' := by
  cases r with
  | ok d S => exact fun ρ1 H1 v e R r => q ρ1 H1 v d S e (hK ▸ R) r (Post.base e h)
  | exc c S => exact h.elim
  | bad => exact h
theorem tLc_of {W W0 : Wt} (hK : W0.K = W.K) {src : DSrc} {g : Tg} {t : DT} {elt : DE} {own : List Nat} (hs : ∀ i ∈ g.slots, i ∈ own) {σ : L2.St} {H : Hp} {Q : VK} (h : tE W (dLc src g t elt own) σ H Q) : tLc (tSrc W src) (gD W.K g) (tT W0 t) (tE W0 elt) own σ H Q := by
  refine tG.step h fun ρ δ ρ1 S1 H1 J s N e R1 sr P => ?_
  intro D hD
  cases hn : s.len (S1 ++ [.lst []]) with
  | none => rw [hn] at P; exact P.elim
  | some n =>
    rw [hn] at P
    have e1 : Ext ρ1 H1 (ρ1 ++ [D]) (upd H1 D (.lst [])) := Ext.newC hD
    have R2 : Rep W.K (ρ1 ++ [D]) (upd H1 D (.lst [])) (S1 ++ [.lst []]) := R1.newC hD ⟨[], upd_same, .nil⟩
    have hc : (ρ1 ++ [D])[S1.length]? = some D := by
      rw [← R1.len, List.getElem?_append_right (Nat.le_refl _), Nat.sub_self]
      rfl
    refine ⟨fun i m H => ∃ ρ S, Ext (ρ1 ++ [D]) (upd H1 D (.lst [])) ρ H ∧ Rep W.K ρ H S ∧ Post W (Dv W.K) ρ H (dLcGo g t elt s S1.length (wipeD δ own) m i S) Q, ⟨n, _, _, Ext.refl _ _, R2, Post.base e1 P⟩, ?_⟩
    rintro i m H ⟨ρ, S, e2, R, P⟩
    have e12 := e1.trans e2
    have hcρ := e2.pre _ _ hc
    have stop : ∀ l, s.len S = some l → l ≤ i → Post W (Dv W.K) ρ H (.ok (.cell S1.length) S) Q → (J.stop i H ∧ Q (.ref D) H) := fun l hl hle P => ⟨(sr ρ H S e12 R l hl).2.1 i hle, P.now R (.cell hcρ)⟩
    cases m with
    | zero =>
      unfold dLcGo at P
      cases hl : s.len S with
      | none => rw [hl] at P; exact P.elim
      | some l =>
        rw [hl] at P
        dsimp only at P
        split at P
        · rename_i hle
          exact .inl (stop l hl hle P)
        · exact P.elim
    | succ m =>
      unfold dLcGo at P
      cases hl : s.len S with
      | none => rw [hl] at P; exact P.elim
      | some l =>
        rw [hl] at P
        dsimp only at P
        split at P
        · rename_i hle
          exact .inl (stop l hl hle P)
        · rename_i hle
          have hlt : i < l := Nat.lt_of_not_le hle
          refine .inr ⟨(sr ρ H S e12 R l hl).1 i hlt, fun H' => ∃ ρ S, Ext (ρ1 ++ [D]) (upd H1 D (.lst [])) ρ H' ∧ Rep W.K ρ H' S ∧ Post W (Dv W.K) ρ H' (dLcGo g t elt s S1.length (wipeD δ own) m (i + 1) S) Q, fun H' q => ⟨m, Nat.lt_succ_self m, q⟩, fun x H' y => ?_⟩
          obtain ⟨d, hd, e3, R3, r3⟩ := (sr ρ H S e12 R l hl).2.2 i x H' hlt y
          rw [hd] at P
          dsimp only at P
          cases hg : g.set d (wipeD δ own) with
          | none => rw [hg] at P; exact P.elim
          | some δ1 =>
            rw [hg] at P
            have N3 : EnvR W.K ρ H' (L2.wipe σ own) (wipeD δ own) := ((N.mono e12).mono e3).wipe own
            refine ⟨ρ, wipeD δ own, d, δ1, N3, r3, hg, fun σ2 N2 o2 => ⟨wipe_off o2 hs, ?_⟩⟩
            have N2' : EnvR W0.K ρ H' σ2 δ1 := by rw [hK]; exact N2
            have R3' : Rep W0.K ρ H' S := by rw [hK]; exact R3
            refine ⟨ρ, δ1, S, R3', N2', Post.nox (Rl := rlB) hK (Post.base e3 P) fun ρ4 H4 b b' S4 e4 R4 r4 P4 => ?_⟩
            have r4' : b = b' := r4
            subst r4'
            cases b with
            | false => exact ⟨ρ4, S4, (e2.trans e3).trans e4, R4, P4⟩
            | true =>
              have P4' : Post W (Dv W.K) ρ4 H4 ((Dn.nox (elt δ1 S4)).bnd fun y S3 => match lcPut S1.length y S3 with
                | some S4 => dLcGo g t elt s S1.length (wipeD δ own) m (i + 1) S4
                | none => .bad) Q := P4
              refine ⟨ρ4, δ1, S4, by rw [hK]; exact R4, N2'.mono e4, Post.nox (Rl := Dv W0.K) hK P4' fun ρ5 H5 v dv S5 e5 R5 r5 P5 => ?_⟩
              have r5' : Dv W.K ρ5 H5 v dv := by rw [← hK]; exact r5
              have hc5 := e5.pre _ _ (e4.pre _ _ hcρ)
              unfold lcPut at P5
              split at P5
              · rename_i S6 hput
                split at hput
                · rename_i acc hacc
                  split at hput
                  · rename_i hlim
                    cases hput
                    obtain ⟨us, g1, g2⟩ := R5.lst hc5 hacc
                    have ew : Ext ρ5 H5 ρ5 (upd H5 D (.lst (us ++ [v]))) := R5.ext_write hc5
                    refine ⟨us, g1, by rw [g2.length]; exact lt_lim hlim, ρ5, _, (((e2.trans e3).trans e4).trans e5).trans ew, R5.write (c := .lst (acc ++ [dv])) hc5 ⟨_, upd_same, (g2.append (.cons r5' .nil)).mono ew⟩, Post.base ew P5⟩
                  · cases hput
                · cases hput
              · exact P5.elim
section
variable {X : Cx} {cl : Str → Value} {E : XK} {elt tg iter : Expr} {ifs : List Expr} {scope : Scope} {own : List (Str × Nat)} {pos : Pos} {src : DSrc} {g : Tg} {t : DT} {de : DE}
theorem pts_yes {X : Cx} {W : Wt} : PTs X [] (tT W dYes) := ⟨fun pins s σ H Q I ⟨ρ, δ, S, R, N, P⟩ => pts_nil.run pins s σ H Q I (Post.now (Rl := rlB) P R rfl)⟩
theorem se_lc (hc : X.calm = true) (hN : X.N.Nodup) (hi : PI X tg iter (tSrc (wt X cl E) src)) (ok : BlkOk X.N X.env.scope scope own) (hsl : ∀ i ∈ g.slots, i ∈ own.map (·.2))
    (hg : ∀ (s : Shared) (H : Hp) (C : Addr) (cs : List (Str × Addr)) (fp : List Addr), PG (X.blk s H scope (compEnvC scope cs C X.env) fp) tg (gD X.K g)) (ht : ∀ (s : Shared) (H : Hp) (C : Addr) (cs : List (Str × Addr)) (fp : List Addr), PTs (X.blk s H scope (compEnvC scope cs C X.env) fp) ifs (tT (wt X cl E0) t))
    (he : ∀ (s : Shared) (H : Hp) (C : Addr) (cs : List (Str × Addr)) (fp : List Addr), PE (X.blk s H scope (compEnvC scope cs C X.env) fp) elt (tE (wt X cl E0) de)) (hs : ∀ x, foldedSetIterable iter X.env x = pure x := by intro _; rfl) :
    SE X (wt X cl E) (.ListComp elt [⟨tg, iter, ifs, 0⟩] scope pos) (dLc src g t de (own.map (·.2))) := pe_imp (pe_lc hc hN hi ok hg ht he hs) fun σ H Q h => tLc_of (W := wt X cl E) (W0 := wt X cl E0) rfl hsl h
theorem ss_setLc {i : Nat} {y : Str} {py spos : Pos} (hc : X.calm = true) (hN : X.N.Nodup) (hy : X.N[i]? = some y) (hyl : X.env.scope.names.lookup y = some .local)
    (hsw : swapsWith (.ListComp elt [⟨tg, iter, ifs, 0⟩] scope pos) (some (.Name y py)) spos.line X.env = pure true) (hi : PI X tg iter (tSrc (wt X cl E) src)) (ok : BlkOk X.N X.env.scope scope own) (hsl : ∀ i ∈ g.slots, i ∈ own.map (·.2))
    (hg : ∀ (s : Shared) (H : Hp) (C : Addr) (cs : List (Str × Addr)) (fp : List Addr), PG (X.blk s H scope (compEnvC scope cs C X.env) fp) tg (gD X.K g)) (ht : ∀ (s : Shared) (H : Hp) (C : Addr) (cs : List (Str × Addr)) (fp : List Addr), PTs (X.blk s H scope (compEnvC scope cs C X.env) fp) ifs (tT (wt X cl E0) t))
    (he : ∀ (s : Shared) (H : Hp) (C : Addr) (cs : List (Str × Addr)) (fp : List Addr), PE (X.blk s H scope (compEnvC scope cs C X.env) fp) elt (tE (wt X cl E0) de)) (hs : ∀ x, foldedSetIterable iter X.env x = pure x := by intro _; rfl) :
    SS X (wt X cl E) (.Assign [.Name y py] (.ListComp elt [⟨tg, iter, ifs, 0⟩] scope pos) spos) (dSet i (dLc src g t de (own.map (·.2)))) := ps_imp (ps_setLc hc hN hy hyl hsw hi ok hg ht he hs) fun D σ H h => by
    obtain ⟨ρ, δ, S, R, N, P⟩ := h
    have q : tE (wt X cl E) (dLc src g t de (own.map (·.2))) σ H fun x H1 => gName i x σ H1 D.nx := ⟨ρ, δ, S, R, N, PostS.res P fun ρ1 H1 v d S1 e1 R1 r1 P1 => P1 ρ1 H1 _ (Ext.refl ρ1 H1) R1 ((N.mono e1).set i r1)⟩
    exact tLc_of (W := wt X cl E) (W0 := wt X cl E0) rfl hsl q
end

/-! ### functions -/
def rDF (W : Wt) (f : DF) : List V → Hp → VK → Prop := fun vs H Q => ∃ ρ S ds, Rep W.K ρ H S ∧ DvAll W.K ρ H vs ds ∧ Post W (Dv W.K) ρ H (f ds S) Q
def SpD (K : PySem.W.Frag) (cl : Str → Value) (f : DF) : Sp := fun vs H Q E => rDF ⟨K, cl, E⟩ f vs H Q
def startD (N : Nat) (ds : List D) : En := ds.map some ++ List.replicate (N - ds.length) none
def endF (o : Out) : Res D := match o with
  | .nx _ S => .ok .non S
  | .rt d S => .ok d S
  | .exc c S => .exc c S
  | _ => .bad
/-- a function of n parameters and N names -/
def dFn (n N : Nat) (body : DS) : DF := fun ds S => if ds.length = n then endF (body (startD N ds) S) else .bad
def dCall (f : DF) (as : DA) : DE := fun δ S => (as δ S).bnd f
theorem envR_start {K : PySem.W.Frag} {ρ : List Addr} {H : Hp} {N : List Str} {vs : List V} {ds : List D} (h : DvAll K ρ H vs ds) : EnvR K ρ H (L2.start N vs) (startD N.length ds) := by
  refine ⟨by unfold L2.start startD; simp only [List.length_append, List.length_map, List.length_replicate]; rw [h.length], fun i d e => ?_⟩
  unfold startD at e
  unfold L2.start
  by_cases hi : i < ds.length
  · rw [List.getElem?_append_left (by simpa using hi), List.getElem?_map] at e
    cases q : ds[i]? with
    | none => rw [q] at e; cases e
    | some d' =>
      rw [q] at e
      cases e
      obtain ⟨v, h1, h2⟩ := h.get q
      refine ⟨v, ?_, h2⟩
      rw [List.getElem?_append_left (by simpa [h.length] using hi), List.getElem?_map, h1]
      rfl
  · rw [List.getElem?_append_right (by simpa using hi), List.getElem?_replicate] at e
    split at e <;> cases e
section
variable {P : Program} {w : World} {K : PySem.W.Frag} {mg : Str → Option Value} {base : Heap} {cl : Str → Value}
/-- THE RULE for a def: its body's denotation -/
theorem fn_ok {x qual : Str} {st : Stmt} {f : Addr} {fd : FuncData} {N ps : List Str} {k : Nat} {body : DS} (F : Fun K x qual st f fd) (S : FnScope N ps (defScope st))
    (hbody : ∀ (cdv : Value) (A : Around) (outer : List Env) (s : Shared) (H : Hp) (E : XK), Room k (A.deeper (envOfC qual (defScope st) s.heap.objs.size f cdv)) →
      SB (cxOf (L2.CX P w) P w K mg base N qual (defScope st) f cdv A outer s H E) ⟨K, cl, E⟩ (defBody st) body) : FnOk P w K mg base (L2.CX P w) (k + 1) f fd ps (SpD K cl (dFn ps.length N.length body)) := by
  refine F.okX S (fun vs H Q E h => ?_) fun cdv A outer s H vs Q E hr h => ?_
  · obtain ⟨ρ, S, ds, R, v, P⟩ := h
    unfold dFn at P
    split at P
    · rename_i hl
      rw [v.length, hl]
    · exact P.elim
  · obtain ⟨ρ, S, ds, R, v, P⟩ := h
    refine ⟨_, hbody cdv A outer s H E hr, ρ, startD N.length ds, S, R, envR_start v, ?_⟩
    unfold dFn at P
    split at P
    · cases q : body (startD N.length ds) S with
      | nx δ S1 =>
        rw [q] at P
        exact fun ρ1 H1 σ1 e1 R1 N1 => P ρ1 H1 .non e1 R1 .non
      | rt d S1 =>
        rw [q] at P
        exact P
      | exc c S1 =>
        rw [q] at P
        exact P
      | bk δ S1 => rw [q] at P; exact P.elim
      | ct δ S1 => rw [q] at P; exact P.elim
      | bad => rw [q] at P; exact P.elim
    · exact P.elim
/-- a def as its callers see it -/
structure Has (P : Program) (w : World) (K : PySem.W.Frag) (mg : Str → Option Value) (base : Heap) (cl : Str → Value) (x : Str) (k : Nat) (g : DF) : Prop where
  ex : ∃ (f : Addr) (fd : FuncData) (ps : List Str), FnOk P w K mg base (L2.CX P w) k f fd ps (SpD K cl g) ∧ mg x = some (.ref f) ∧ PySem.W.keepIn K (.ref f) = true ∧ Binds K fd ps []
end
section
variable {X : Cx} {cl : Str → Value} {E : XK} {x : Str} {p pos : Pos} {e : Expr} {es : List Expr} {da : DA} {k : Nat} {g : DF}
theorem se_call (F : Has X.prog X.w X.K X.mg X.base cl x k g) (hr : Room k X.A) (hg : Gl X x) (hx : Passes (L2.CX X.prog X.w) X E) (ha : SA X (wt X cl E) (e :: es) da) (hdb : (x == ("__debug__" : Str)) = false := by decide)
    (he : starEach (e :: es) X.env = (false, eval e X.env) :: starEach es X.env := by rfl) (hpl : (backTo pos (starEach es X.env)).any (·.1) = false := by rfl) : SE X (wt X cl E) (.Call (.Name x p) (e :: es) [] pos) (dCall g da) := by
  obtain ⟨f, fd, ps, F, hm, hk, hb⟩ := F.ex
  exact pe_imp (pe_call F hr hg hm hk hb .nil hx ha hdb he hpl) fun σ H Q h => tG.step h fun ρ δ ρ1 S1 H1 v d N e R r P => by
    show SpD X.K cl g (v ++ []) H1 Q E
    rw [List.append_nil]
    exact ⟨ρ1, S1, d, R, r, P⟩
/-- a built-in function, a built-in type called -/
abbrev CallD (X : Cx) (cl : Str → Value) (E : XK) (f : Value) (g : DF) : Prop := CallR X f (rDF (wt X cl E) g)
theorem se_callB {id : String} (h : CallD X cl E (.builtin id) g) (hg : Gl X x) (hm : X.mg x = none) (hv : bootBuiltins x = some (.builtin id)) (ha : SA X (wt X cl E) (e :: es) da) (hn : x ≠ "__name__" := by decide) (hdb : (x == ("__debug__" : Str)) = false := by decide)
    (he : starEach (e :: es) X.env = (false, eval e X.env) :: starEach es X.env := by rfl) (hpl : (backTo pos (starEach es X.env)).any (·.1) = false := by rfl) : SE X (wt X cl E) (.Call (.Name x p) (e :: es) [] pos) (dCall g da) :=
  pe_imp (pe_callB h hg hm hv ha hn hdb he hpl) fun σ H Q h => tG.step h fun ρ δ ρ1 S1 H1 v d N e R r P => ⟨ρ1, S1, d, R, r, P⟩
theorem se_callTy {T : String} (h : CallD X cl E (.type T) g) (hg : Gl X x) (hm : X.mg x = none) (hv : bootBuiltins x = some (.type T)) (ha : SA X (wt X cl E) (e :: es) da) (hn : x ≠ "__name__" := by decide) (hdb : (x == ("__debug__" : Str)) = false := by decide)
    (he : starEach (e :: es) X.env = (false, eval e X.env) :: starEach es X.env := by rfl) (hpl : (backTo pos (starEach es X.env)).any (·.1) = false := by rfl) : SE X (wt X cl E) (.Call (.Name x p) (e :: es) [] pos) (dCall g da) :=
  pe_imp (pe_callTy h hg hm hv ha hn hdb he hpl) fun σ H Q h => tG.step h fun ρ δ ρ1 S1 H1 v d N e R r P => ⟨ρ1, S1, d, R, r, P⟩
end
end Dn
set_option Elab.async false
set_option linter.all false
set_option maxRecDepth 100000
set_option maxHeartbeats 1000000
/-! Dn5: built-ins, methods, dicts, raise, try, keywords. -/
noncomputable section
namespace Dn
open PySem PySem.Spec PyProof.Rows L2

theorem cr_imp {X : Cx} {f : Value} {r r' : List V → Hp → VK → Prop} (h : CallR X f r) (i : ∀ xs H Q, r' xs H Q → r xs H Q) : CallR X f r' := fun pins s σ H xs us Q I r q => h pins s σ H xs us Q I r (i _ _ _ q)
def bLen : DF := fun ds S => match ds with
  | [d] => match items S d with
    | some xs => .ok (.int xs.length) S
    | none => .bad
  | _ => .bad
def bTuple : DF := fun ds S => match ds with
  | [.tup xs] => .ok (.tup xs) S
  | [d] => match items S d with
    | some xs => .ok (.tup xs) S
    | none => .bad
  | _ => .bad
def bList : DF := fun ds S => match ds with
  | [d] => match items S d with
    | some xs => .ok (.cell S.length) (S ++ [.lst xs])
    | none => .bad
  | _ => .bad
def bInt : DF := fun ds S => match ds with
  | [.int i] => .ok (.int i) S
  | [.bl k] => .ok (.int (if k then 1 else 0)) S
  | _ => .bad
def bAbs : DF := fun ds S => match ds with
  | [.int i] => .ok (.int (if i < 0 then -i else i)) S
  | _ => .bad
def blsOf : List D → Option (List Bool)
  | [] => some []
  | .bl b :: r => (blsOf r).map (b :: ·)
  | _ => none
def intsOf : List D → Option (List Int)
  | [] => some []
  | .int b :: r => (intsOf r).map (b :: ·)
  | _ => none
def bAll : DF := fun ds S => match ds with
  | [d] => if isL S d = true then match (items S d).bind blsOf with
      | some bs => .ok (.bl (bs.all id)) S
      | none => .bad
    else .bad
  | _ => .bad
def maxI : List Int → Int
  | [] => 0
  | [x] => x
  | x :: y :: r => if maxI (y :: r) > x then maxI (y :: r) else x
def bMax : DF := fun ds S => match ds with
  | [.int i, .int j] => .ok (.int (if j > i then j else i)) S
  | [d] => if isL S d = true then match (items S d).bind intsOf with
      | some (n :: ns) => .ok (.int (maxI (n :: ns))) S
      | _ => .bad
    else .bad
  | _ => .bad
theorem maxI_mem : ∀ (x : Int) (r : List Int), maxI (x :: r) ∈ x :: r
  | x, [] => List.mem_singleton.mpr rfl
  | x, y :: r => by
    have ih := maxI_mem y r
    show (if maxI (y :: r) > x then maxI (y :: r) else x) ∈ _
    split
    · exact List.mem_cons_of_mem _ ih
    · exact List.mem_cons_self
theorem maxI_le : ∀ (x : Int) (r : List Int) (z : Int), z ∈ x :: r → z ≤ maxI (x :: r)
  | x, [], z, h => by
    rw [List.mem_singleton.mp h]
    exact Int.le_refl _
  | x, y :: r, z, h => by
    show z ≤ (if maxI (y :: r) > x then maxI (y :: r) else x)
    rcases List.mem_cons.mp h with rfl | h
    · split <;> omega
    · have ih := maxI_le y r z h
      split <;> omega
section
variable {X : Cx} {cl : Str → Value} {E : XK} {K : PySem.W.Frag} {ρ : List Addr} {H : Hp} {S : Sto}
theorem ints_dv : ∀ {vs : List V} {ds : List D} {ns : List Int}, DvAll K ρ H vs ds → intsOf ds = some ns → vs = ns.map V.int
  | _, _, _, .nil, e => by cases e; rfl
  | _, _, ns, .cons (d := d) (ds := ds) r t, e => by
    unfold intsOf at e
    split at e
    · rename_i heq
      cases heq
    · rename_i i q heq
      cases heq
      obtain ⟨ms, h1, h2⟩ := Option.map_eq_some_iff.mp e
      rw [← h2, r.intI, ints_dv t h1]
      rfl
    · cases e
theorem bls_dv : ∀ {vs : List V} {ds : List D} {ns : List Bool}, DvAll K ρ H vs ds → blsOf ds = some ns → vs = ns.map V.bl
  | _, _, _, .nil, e => by cases e; rfl
  | _, _, ns, .cons (d := d) (ds := ds) r t, e => by
    unfold blsOf at e
    split at e
    · rename_i heq
      cases heq
    · rename_i i q heq
      cases heq
      obtain ⟨ms, h1, h2⟩ := Option.map_eq_some_iff.mp e
      rw [← h2, r.blI, bls_dv t h1]
      rfl
    · cases e
theorem cd_len : CallD X cl E (.builtin "len") bLen := cr_imp call_len_seq fun xs H Q ⟨ρ, S, ds, R, rs, P⟩ => by
  unfold bLen at P
  split at P
  · rename_i d
    split at P
    · rename_i its hi
      obtain ⟨v, rfl, r⟩ := one_of rs
      obtain ⟨a, us, rfl, sq, vs⟩ := r.seqI R hi
      refine ⟨a, us, rfl, sq, ?_⟩
      rw [vs.length]
      exact P.now R (.int _)
    · exact P.elim
  · exact P.elim
theorem cd_tuple : CallD X cl E (.type "tuple") bTuple := cr_imp call_tuple_of fun xs H Q ⟨ρ, S, ds, R, rs, P⟩ => by
  unfold bTuple at P
  split at P
  · obtain ⟨v, rfl, r⟩ := one_of rs
    obtain ⟨a, us, rfl, sq, vs⟩ := r.tupI
    exact ⟨a, us, rfl, .inr ⟨sq, P.now R r⟩⟩
  · rename_i d hd
    split at P
    · rename_i its hi
      obtain ⟨v, rfl, r⟩ := one_of rs
      have ht : isT d = false := by
        cases d <;> first | rfl | exact absurd rfl (hd _)
      obtain ⟨a, us, rfl, sq, vs⟩ := r.listI R ht hi
      exact ⟨a, us, rfl, .inl ⟨sq, fun p hp => P ρ _ _ (Ext.new hp) (R.new hp) (.tup (.inl (.inl upd_same)) (vs.mono (Ext.new hp)))⟩⟩
    · exact P.elim
  · exact P.elim
theorem cd_list : CallD X cl E (.type "list") bList := cr_imp call_list_of fun xs H Q ⟨ρ, S, ds, R, rs, P⟩ => by
  unfold bList at P
  split at P
  · rename_i d
    split at P
    · rename_i its hi
      obtain ⟨v, rfl, r⟩ := one_of rs
      obtain ⟨a, us, rfl, sq, vs⟩ := r.seqI R hi
      refine ⟨a, us, rfl, sq, fun p hp => P (ρ ++ [p]) _ _ (Ext.newC hp) (R.newC hp ⟨us, upd_same, vs.mono (Ext.newC hp)⟩) (.cell ?_)⟩
      rw [← R.len, List.getElem?_append_right (Nat.le_refl _), Nat.sub_self]
      rfl
    · exact P.elim
  · exact P.elim
theorem cd_int : CallD X cl E (.type "int") bInt := cr_imp call_int1 fun xs H Q ⟨ρ, S, ds, R, rs, P⟩ => by
  unfold bInt at P
  split at P
  · obtain ⟨v, rfl, r⟩ := one_of rs
    exact .inl ⟨_, by rw [r.intI], P.now R (.int _)⟩
  · obtain ⟨v, rfl, r⟩ := one_of rs
    exact .inr ⟨_, by rw [r.blI], P.now R (.int _)⟩
  · exact P.elim
theorem cd_abs : CallD X cl E (.builtin "abs") bAbs := cr_imp call_abs fun xs H Q ⟨ρ, S, ds, R, rs, P⟩ => by
  unfold bAbs at P
  split at P
  · obtain ⟨v, rfl, r⟩ := one_of rs
    exact ⟨_, by rw [r.intI], P.now R (.int _)⟩
  · exact P.elim
theorem cd_all (hc : X.calm = true) : CallD X cl E (.builtin "all") bAll := cr_imp (cr_all hc) fun xs H Q ⟨ρ, S, ds, R, rs, P⟩ => by
  unfold bAll at P
  split at P
  · rename_i d
    split at P
    · rename_i hl
      split at P
      · rename_i bs hb
        obtain ⟨v, rfl, r⟩ := one_of rs
        obtain ⟨its, hi, h2⟩ := Option.bind_eq_some_iff.mp hb
        obtain ⟨a, us, rfl, sq, vs⟩ := r.listI R (isL_not hl) hi
        refine ⟨a, bs, rfl, ?_, P.now R (.bl _)⟩
        rw [← bls_dv vs h2]
        exact sq
      · exact P.elim
    · exact P.elim
  · exact P.elim
theorem cd_max (hc : X.calm = true) : CallD X cl E (.builtin "max") bMax := cr_imp (CallR.or (call_max2 hc) (cr_max hc)) fun xs H Q ⟨ρ, S, ds, R, rs, P⟩ => by
  unfold bMax at P
  split at P
  · obtain ⟨v, w, rfl, r1, r2⟩ := two_of rs
    exact .inl ⟨_, _, by rw [r1.intI, r2.intI], P.now R (.int _)⟩
  · rename_i d
    split at P
    · rename_i hl
      split at P
      · rename_i n ns hb
        obtain ⟨v, rfl, r⟩ := one_of rs
        obtain ⟨its, hi, h2⟩ := Option.bind_eq_some_iff.mp hb
        obtain ⟨a, us, rfl, sq, vs⟩ := r.listI R (isL_not hl) hi
        refine .inr ⟨a, n :: ns, rfl, ?_, Nat.succ_pos _, fun m hm hle => ?_⟩
        · rw [← ints_dv vs h2]
          exact sq
        · have e : m = maxI (n :: ns) := Int.le_antisymm (maxI_le n ns m hm) (hle _ (maxI_mem n ns))
          rw [e]
          exact P.now R (.int _)
      · exact P.elim
    · exact P.elim
  · exact P.elim
end

/-! ### isinstance -/
def tyD (S : Sto) : D → String
  | .non => "NoneType"
  | .bl _ => "bool"
  | .int _ => "int"
  | .str _ => "str"
  | .tup _ => "tuple"
  | .ro _ => "list"
  | .cell n => match S[n]? with
    | some (.dic _) => "dict"
    | some (.dik _) => "dict"
    | _ => "list"
  | .rng _ _ => "#none"
theorem kitB_none {T : String} (h : T ≠ "#none") : kitB "#none" T = none := by
  unfold kitB
  have e : (Value.type "#none" == Value.type T) = false := by
    cases q : (Value.type "#none" == Value.type T) with
    | false => rfl
    | true => exact absurd (by simpa [BEq.beq, eq_comm] using q) h
  rw [e]
  have e2 : PySem.fastBuiltinMro "#none" = none := by decide +kernel
  rw [e2]
  simp
/-- a value's type, dicts with tuple keys too -/
inductive TyZ (K : PySem.W.Frag) (H : Hp) : V → Value → Prop
  | x {v : V} {t : Value} : TyX K H v t → TyZ K H v t
  | dik {a : Addr} {xs : List (NestedKey × Addr × V)} : H a = some (DkO a xs) → TyZ K H (.ref a) (.type "dict")
theorem kit_ofZ {X : Cx} {pins : List (Addr × Obj)} {σ : L2.St} {H : Hp} {s : Shared} {v : V} {u t : Value} (I : Inv X pins σ H s) (rx : RelV v u) (ty : TyZ X.K H v t) : ∃ P : Heap → Prop, PySem.W.KitX X.K u t P ∧ P s.heap ∧ u ≠ .builtin "__main__.__loader__#opaque" := by
  cases ty with
  | x h => exact kit_of I rx h
  | @dik a xs ea =>
    cases rx
    obtain ⟨⟨_, ys, o, es, ep, _, ho, hx, _⟩, _⟩ := I.hok a _ ea
    exact ⟨_, PySem.W.kitx_dict, ⟨o, ho, hx.1⟩, fun z => nomatch z⟩
def rIsiZ (K : PySem.W.Frag) : List V → Hp → VK → Prop := fun xs H Q => ∃ (v c : V) (t u : Value) (b : Bool), xs = [v, c] ∧ ClsV c u ∧ TyZ K H v t ∧ PySem.W.kitOne K t u = some b ∧ Q (.bl b) H
theorem call_isiZ {X : Cx} : CallR X (.builtin "isinstance") (rIsiZ X.K) := fun pins s σ H xs us Q I r ⟨x, c, t, u, b, e1, k, ty, e, q⟩ => by
  subst e1
  obtain ⟨u1, u2, rfl, r1, r2⟩ := vals2 r
  have e2 := k.eq r2
  subst e2
  obtain ⟨P, Z, p, hx⟩ := kit_ofZ I r1 ty
  exact PySem.W.kia_one Z I.kIn p e hx fun tk => ⟨.bl b, H, I.tok tk, rfl, q⟩
def dIsI (T : String) (a : DE) : DE := fun δ S => (a δ S).bnd fun d S1 => match kitB (tyD S1 d) T with
  | some b => .ok (.bl b) S1
  | none => .bad
section
variable {X : Cx} {cl : Str → Value} {E : XK} {K : PySem.W.Frag} {ρ : List Addr} {H : Hp} {S : Sto}
theorem Dv.ty (R : Rep K ρ H S) {v : V} {d : D} (h : Dv K ρ H v d) (hn : tyD S d ≠ "#none") : TyZ K H v (.type (tyD S d)) := by
  cases h with
  | non => exact .x <| .base .non
  | bl b => exact .x <| .base (.bl b)
  | int i => exact .x <| .base (.int i)
  | str x => exact .x <| .base (.str x)
  | tup sq vs =>
    rcases sq with (sq | ⟨o, sq⟩) | ⟨o, its, n, k, c, _⟩
    · exact .x <| .base (.tup sq)
    · exact .x <| .fTuple sq
    · exact .x <| .kTuple k c
  | ro sq f vs =>
    rcases sq with (sq | ⟨o, sq⟩) | ⟨o, its, n, k, c, _⟩
    · exact .x <| .base (.lst sq)
    · exact .x <| .base (.frz sq)
    · exact .x <| .kList k c
  | @cell a n q =>
    obtain ⟨c, h1, h2⟩ := R.cell q
    cases c with
    | lst xs =>
      obtain ⟨us, g1, _⟩ := h2
      have e : tyD S (.cell n) = "list" := by simp only [tyD, h1]
      rw [e]
      exact .x <| .base (.lst g1)
    | dic kvs =>
      obtain ⟨us, g1, _⟩ := h2
      have e : tyD S (.cell n) = "dict" := by simp only [tyD, h1]
      rw [e]
      exact .x <| .base (.dK g1)
    | dik kvs =>
      obtain ⟨us, g1, _⟩ := h2
      have e : tyD S (.cell n) = "dict" := by simp only [tyD, h1]
      rw [e]
      exact .dik g1
  | rng q => exact absurd rfl hn
theorem se_isi {x y : Str} {p p2 pos : Pos} {e : Expr} {de : DE} {T : String} (hgx : Gl X x) (hmx : X.mg x = none) (hvx : bootBuiltins x = some (.builtin "isinstance")) (he : SE X (wt X cl E) e de) (hg : Gl X y) (hm : X.mg y = none) (hv : bootBuiltins y = some (.type T))
    (hnx : x ≠ "__name__" := by decide) (hdx : (x == ("__debug__" : Str)) = false := by decide) (hn : y ≠ "__name__" := by decide) (hd : (y == ("__debug__" : Str)) = false := by decide) (hT : T ≠ "#none" := by decide)
    (hs : starEach [e, .Name y p2] X.env = (false, eval e X.env) :: starEach [.Name y p2] X.env := by rfl) (hpl : (backTo pos (starEach [.Name y p2] X.env)).any (·.1) = false := by rfl) : SE X (wt X cl E) (.Call (.Name x p) [e, .Name y p2] [] pos) (dIsI T de) :=
  pe_imp (pe_callB call_isiZ hgx hmx hvx (pa_cons he (pa_cons (pe_bltn hg hm hv (v := .ty T) rfl hn hd) pa_nil) hs) hnx hdx hs hpl) fun σ H Q h => tG.step h fun ρ δ ρ1 S1 H1 v d N e R r P => by
    split at P
    · rename_i b hb
      exact ⟨v, .ty T, _, _, b, rfl, .ty T, r.ty R (fun z => by rw [z, kitB_none hT] at hb; cases hb), kit_ty hb, P.now R (.bl b)⟩
    · exact P.elim
end

/-! ### methods of lists -/
def dMth (f : D → List D → Sto → Res D) (o : DE) (as : DA) : DE := fun δ S => (o δ S).bnd fun x S1 => if isL S1 x = true then (as δ S1).bnd fun xs S2 => f x xs S2 else .bad
def rMD (W : Wt) (f : D → List D → Sto → Res D) : V → List V → Hp → VK → Prop := fun x xs H Q => ∃ ρ S d ds, Rep W.K ρ H S ∧ Dv W.K ρ H x d ∧ DvAll W.K ρ H xs ds ∧ Post W (Dv W.K) ρ H (f d ds S) Q
def mAppend (x : D) (xs : List D) (S : Sto) : Res D := match x, xs with
  | .cell n, [d] => match S[n]? with
    | some (.lst ds) => if ds.length < lim then .ok .non (S.set n (.lst (ds ++ [d]))) else .bad
    | _ => .bad
  | _, _ => .bad
def mPop (x : D) (xs : List D) (S : Sto) : Res D := match x, xs with
  | .cell n, [] => match S[n]? with
    | some (.lst ds) => match ds[ds.length - 1]? with
      | some d => .ok d (S.set n (.lst ds.dropLast))
      | none => .bad
    | _ => .bad
  | .cell n, [.int i] => match S[n]? with
    | some (.lst ds) => if decide (0 ≤ i ∧ i < ds.length ∧ ds.length ≤ lim) = true then match ds[i.toNat]? with
        | some d => .ok d (S.set n (.lst (ds.eraseIdx i.toNat)))
        | none => .bad
      else .bad
    | _ => .bad
  | _, _ => .bad
section
variable {X : Cx} {cl : Str → Value} {E : XK}
theorem mt_imp {id : String} {r r' : V → List V → Hp → VK → Prop} (h : MtM X id r) (i : ∀ x xs H Q, r' x xs H Q → r x xs H Q) : MtR X id r' := fun pins s σ H x xs v us Q I r1 r2 q => h pins s σ H x xs v us Q I r1 r2 (i _ _ _ _ q)
theorem mt_or {id : String} {r r' : V → List V → Hp → VK → Prop} (h : MtM X id r) (h' : MtM X id r') : MtM X id (fun x xs H Q => r x xs H Q ∨ r' x xs H Q) := fun pins s σ H x xs v us Q I r1 r2 q => by
  rcases q with q | q
  · exact h pins s σ H x xs v us Q I r1 r2 q
  · exact h' pins s σ H x xs v us Q I r1 r2 q
theorem md_append : MtR X "list.append" (rMD (wt X cl E) mAppend) := mt_imp mt_append fun x xs H Q ⟨ρ, S, d, ds, R, r, rs, P⟩ => by
  unfold mAppend at P
  split at P
  · rename_i n e
    split at P
    · rename_i its hi
      split at P
      · rename_i hl
        obtain ⟨v, rfl, r2⟩ := one_of rs
        obtain ⟨a, rfl, q⟩ := r.cellI
        obtain ⟨us, g1, g2⟩ := R.lst q hi
        have ew : Ext ρ H ρ (upd H a (.lst (us ++ [v]))) := R.ext_write q
        exact ⟨a, us, v, rfl, rfl, g1, by rw [g2.length]; exact lt_lim hl, P ρ _ .non ew (R.write (c := .lst (its ++ [e])) q ⟨_, upd_same, (g2.append (.cons r2 .nil)).mono ew⟩) .non⟩
      · exact P.elim
    · exact P.elim
  · exact P.elim
theorem md_pop : MtR X "list.pop" (rMD (wt X cl E) mPop) := mt_imp (mt_or mt_pop mt_popAt) fun x xs H Q ⟨ρ, S, d, ds, R, r, rs, P⟩ => by
  unfold mPop at P
  split at P
  · rename_i n
    split at P
    · rename_i its hi
      split at P
      · rename_i e he
        cases rs
        obtain ⟨a, rfl, q⟩ := r.cellI
        obtain ⟨us, g1, g2⟩ := R.lst q hi
        obtain ⟨v, h1, h2⟩ := g2.get he
        have ew : Ext ρ H ρ (upd H a (.lst us.dropLast)) := R.ext_write q
        exact .inl ⟨a, us, v, rfl, rfl, g1, by rw [g2.length]; exact h1, P ρ _ v ew (R.write (c := .lst its.dropLast) q ⟨_, upd_same, g2.dropLast.mono ew⟩) (h2.mono ew)⟩
      · exact P.elim
    · exact P.elim
  · rename_i n i
    split at P
    · rename_i its hi
      split at P
      · rename_i hb
        have hb' := of_decide_eq_true (p := 0 ≤ i ∧ i < its.length ∧ its.length ≤ lim) hb
        split at P
        · rename_i e he
          obtain ⟨w, rfl, r2⟩ := one_of rs
          obtain ⟨a, rfl, q⟩ := r.cellI
          obtain ⟨us, g1, g2⟩ := R.lst q hi
          obtain ⟨v, h1, h2⟩ := g2.get he
          have ew : Ext ρ H ρ (upd H a (.lst (us.eraseIdx i.toNat))) := R.ext_write q
          have hlim : (its.length : Int) ≤ 100000 := by
            have := hb'.2.2
            rw [lim_eq] at this
            omega
          refine .inr ⟨a, us, i, i.toNat, v, rfl, by rw [r2.intI], g1, by omega, by omega, ?_, h1, P ρ _ v ew (R.write (c := .lst (its.eraseIdx i.toNat)) q ⟨_, upd_same, (g2.eraseIdx _).mono ew⟩) (h2.mono ew)⟩
          rw [g2.length]
          refine (ixN_seq (j := i.toNat) ?_).1
          unfold ixN
          rw [if_pos hb'.1, if_pos hb'.2.1]
        · exact P.elim
      · exact P.elim
    · exact P.elim
  · exact P.elim
variable {o e : Expr} {es : List Expr} {do' : DE} {da : DA} {apos cpos : Pos} {name : Str} {id : String} {f : D → List D → Sto → Res D}
theorem tyL_of {K : PySem.W.Frag} {ρ : List Addr} {H : Hp} {S : Sto} (R : Rep K ρ H S) {v : V} {d : D} (r : Dv K ρ H v d) (h : isL S d = true) : tyV K "list" v H := by
  obtain ⟨ds, hi⟩ := isL_items h
  obtain ⟨a, us, rfl, sq, _⟩ := r.listI R (isL_not h) hi
  exact .inl ⟨rfl, us, sq⟩
theorem se_mth (slot : Slot "list" name id) (hty : typeOf (.builtin id) = pure (.type "method_descriptor")) (hm : MtR X id (rMD (wt X cl E) f)) (ho : SE X (wt X cl E) o do') (ha : SA X (wt X cl E) (e :: es) da)
    (hbase : attributeBase o name X.env (eval o X.env) = eval o X.env := by rfl)
    (hfew : ((backTo cpos (starEach (e :: es) X.env)).all (fun x => !x.1) && (backToKw cpos (keywordEach [] X.env)).all (fun x => x.1.isSome) && decide ((e :: es).length + ([] : List Keyword).length + (if ([] : List Keyword).isEmpty then 0 else 1) < 30)) = true := by rfl)
    (hline : (apos.endLine == cpos.line) = true := by rfl) (hs : starEach (e :: es) X.env = (false, eval e X.env) :: starEach es X.env := by rfl) (hplain : (backTo cpos (starEach es X.env)).any (·.1) = false := by rfl) :
    SE X (wt X cl E) (.Call (.Attribute o name apos) (e :: es) [] cpos) (dMth f do' da) := pe_imp (pe_bm PySem.F.plainAttrs_list slot hty hm ho ha hbase hfew hline hs hplain) fun σ H Q h => tG.step h fun ρ δ ρ1 S1 H1 v d N e R r P => by
  split at P
  · rename_i hl
    exact ⟨tyL_of R r hl, ρ1, δ, S1, R, N, (Post.bnd P).imp fun vs H2 ⟨ρ2, S2, d2, e2, R2, r2, P2⟩ => ⟨ρ2, S2, d, d2, R2, r.mono e2, r2, P2⟩⟩
  · exact P.elim
theorem se_mth0 (slot : Slot "list" name id) (hty : typeOf (.builtin id) = pure (.type "method_descriptor")) (hm : MtR X id (rMD (wt X cl E) f)) (ho : SE X (wt X cl E) o do')
    (hbase : attributeBase o name X.env (eval o X.env) = eval o X.env := by rfl) (hline : (apos.endLine == cpos.line) = true := by rfl) : SE X (wt X cl E) (.Call (.Attribute o name apos) [] [] cpos) (dMth f do' dNil) := pe_imp (pe_bm0 PySem.F.plainAttrs_list slot hty hm ho hbase hline) fun σ H Q h => tG.step h fun ρ δ ρ1 S1 H1 v d N e R r P => by
  split at P
  · rename_i hl
    exact ⟨tyL_of R r hl, ρ1, S1, d, [], R, r, .nil, P⟩
  · exact P.elim
end

/-! ### dicts -/
def valD (kvs : List (Key × D)) (k : Key) : Option D := (kvs.find? fun kv => decide (kv.1 = k)).map (·.2)
def putD (kvs : List (Key × D)) (k : Key) (v : D) : List (Key × D) := if (kvs.any fun kv => decide (kv.1 = k)) = true then kvs.map (fun kv => if kv.1 = k then (kv.1, v) else kv) else kvs ++ [(k, v)]
def mergeD (kvs more : List (Key × D)) : List (Key × D) := more.foldl (fun acc kv => putD acc kv.1 kv.2) kvs
section
variable {K : PySem.W.Frag} {ρ : List Addr} {H : Hp}
theorem DvKs.val {k : Key} : ∀ {vs : List (Key × V)} {ds : List (Key × D)} {d : D}, DvKs K ρ H vs ds → valD ds k = some d → ∃ v, valV vs k = some v ∧ Dv K ρ H v d
  | _, _, _, .nil, e => by cases e
  | _, _, d, .cons (k := k') (v := v) (vs := vs) (d := d') (ds := ds) r t, e => by
    by_cases h : k' = k
    · have e1 : valD ((k', d') :: ds) k = some d' := by simp [valD, h]
      rw [e1] at e
      cases e
      exact ⟨v, valV_pos (p := (k', v)) h, r⟩
    · have e1 : valD ((k', d') :: ds) k = valD ds k := by simp [valD, h]
      rw [e1] at e
      obtain ⟨u, h1, h2⟩ := DvKs.val t e
      exact ⟨u, by rw [valV_neg (p := (k', v)) h]; exact h1, h2⟩
theorem DvKs.any {k : Key} : ∀ {vs : List (Key × V)} {ds : List (Key × D)}, DvKs K ρ H vs ds → (vs.any fun kv => decide (kv.1 = k)) = ds.any fun kv => decide (kv.1 = k)
  | _, _, .nil => rfl
  | _, _, .cons r t => by
    rw [List.any_cons, List.any_cons, DvKs.any t]
theorem DvKs.mapPut {k : Key} {v : V} {d : D} (h : Dv K ρ H v d) : ∀ {vs : List (Key × V)} {ds : List (Key × D)}, DvKs K ρ H vs ds → DvKs K ρ H (vs.map fun kv => if kv.1 = k then (kv.1, v) else kv) (ds.map fun kv => if kv.1 = k then (kv.1, d) else kv)
  | _, _, .nil => .nil
  | _, _, .cons (k := k') (v := v') (vs := vs) (d := d') (ds := ds) r t => by
    have ih := DvKs.mapPut (k := k) h t
    by_cases e : k' = k
    · have a1 : (if k' = k then (k', v) else (k', v')) = (k', v) := if_pos e
      have a2 : (if k' = k then (k', d) else (k', d')) = (k', d) := if_pos e
      show DvKs K ρ H ((if k' = k then (k', v) else (k', v')) :: _) ((if k' = k then (k', d) else (k', d')) :: _)
      rw [a1, a2]
      exact .cons h ih
    · have a1 : (if k' = k then (k', v) else (k', v')) = (k', v') := if_neg e
      have a2 : (if k' = k then (k', d) else (k', d')) = (k', d') := if_neg e
      show DvKs K ρ H ((if k' = k then (k', v) else (k', v')) :: _) ((if k' = k then (k', d) else (k', d')) :: _)
      rw [a1, a2]
      exact .cons r ih
theorem DvKs.snoc {k : Key} {v : V} {d : D} (h : Dv K ρ H v d) : ∀ {vs : List (Key × V)} {ds : List (Key × D)}, DvKs K ρ H vs ds → DvKs K ρ H (vs ++ [(k, v)]) (ds ++ [(k, d)])
  | _, _, .nil => .cons h .nil
  | _, _, .cons r t => .cons r (DvKs.snoc h t)
theorem DvKs.put {k : Key} {v : V} {d : D} (h : Dv K ρ H v d) {vs : List (Key × V)} {ds : List (Key × D)} (t : DvKs K ρ H vs ds) : DvKs K ρ H (putK vs k v) (putD ds k d) := by
  unfold putK putD
  rw [t.any]
  split
  · exact t.mapPut h
  · exact t.snoc h
theorem DvKs.length : ∀ {vs : List (Key × V)} {ds : List (Key × D)}, DvKs K ρ H vs ds → vs.length = ds.length
  | _, _, .nil => rfl
  | _, _, .cons _ t => congrArg Nat.succ (DvKs.length t)
theorem DvKs.merge : ∀ {ms : List (Key × V)} {es : List (Key × D)} {vs : List (Key × V)} {ds : List (Key × D)}, DvKs K ρ H ms es → DvKs K ρ H vs ds → DvKs K ρ H (mergeK vs ms) (mergeD ds es)
  | _, _, _, _, .nil, t => t
  | _, _, vs, ds, .cons (k := k) (v := v) (vs := ms) (d := d) (ds := es) r s, t => by
    show DvKs K ρ H (mergeK (putK vs k v) ms) (mergeD (putD ds k d) es)
    exact DvKs.merge s (t.put r)
end
def opDGet (x y : D) (S : Sto) : Res D := match x, y with
  | .cell n, .str k => match S[n]? with
    | some (.dic kvs) => match valD kvs (.inr k) with
      | some d => .ok d S
      | none => .bad
    | _ => .bad
  | _, _ => .bad
/-- x[k] = v -/
def putAt (x k v : D) (S : Sto) : Option Sto := match x, k with
  | .cell n, .str s => match S[n]? with
    | some (.dic kvs) => if kvs.length < lim then some (S.set n (.dic (putD kvs (.inr s) v))) else none
    | _ => none
  | .cell n, .int i => match S[n]? with
    | some (.lst ds) => match ixN ds.length i with
      | some j => some (S.set n (.lst (ds.set j v)))
      | none => none
    | _ => none
  | _, _ => none
def dDPut (o : DE) (k : Str) (v : DE) : DS := fun δ S => thenS (v δ S) fun d S1 => thenS (o δ S1) fun x S2 => match putAt x (.str k) d S2 with
  | some S4 => .nx δ S4
  | none => .bad
def dikPut (x y d : D) (S : Sto) : Option Sto := match x, dikOf S x, keyT y with
  | .cell n, some kvs, some k => if kvs.length < lim then some (S.set n (.dik (dkPut kvs k d))) else none
  | _, _, _ => none
/-- x[i] = v -/
def dIPut (o i v : DE) : DS := fun δ S => thenS (v δ S) fun d S1 => thenS (o δ S1) fun x S2 => thenS (i δ S2) fun y S3 => match y with
  | .int j => match putAt x (.int j) d S3 with
    | some S4 => .nx δ S4
    | none => .bad
  | y => match dikPut x y d S3 with
    | some S4 => .nx δ S4
    | none => .bad
/-- {'k': v, ..} -/
def dPairs : List (Str × DE) → En → Sto → Res (List (Key × D))
  | [], _, S => .ok [] S
  | (k, e) :: r, δ, S => (e δ S).bnd fun d S1 => (dPairs r δ S1).bnd fun ds S2 => .ok ((.inr k, d) :: ds) S2
def dDisp (l : List (Str × DE)) : DE := fun δ S => (dPairs l δ (S ++ [.dic []])).bnd fun kvs S1 => match S1[S.length]? with
  | some (.dic []) => if kvs.length ≤ 15 then .ok (.cell S.length) (S1.set S.length (.dic (mergeD [] kvs))) else .bad
  | _ => .bad
section
variable {X : Cx} {cl : Str → Value} {E : XK} {o i e : Expr} {do' di de : DE} {pos pos' : Pos}
theorem dget_of {K : PySem.W.Frag} {ρ : List Addr} {H : Hp} {S : Sto} (R : Rep K ρ H S) {x : V} {n : Nat} {kvs : List (Key × D)} (r : Dv K ρ H x (.cell n)) (h : S[n]? = some (.dic kvs)) : ∃ a kws, x = .ref a ∧ ρ[n]? = some a ∧ H a = some (.dK kws) ∧ DvKs K ρ H kws kvs := by
  obtain ⟨a, rfl, q⟩ := r.cellI
  obtain ⟨kws, h1, h2⟩ := R.at n a _ q h
  exact ⟨a, kws, rfl, q, h1, h2⟩
theorem se_dget (hu : X.A.units + 1 < cLine) (ho : SE X (wt X cl E) o do') (hi : SE X (wt X cl E) i di) (hs : NoSl i := by exact fun _ _ => rfl) : SE X (wt X cl E) (.Subscript o i pos) (dBin opDGet do' di) :=
  pe_imp (pe_dget hu ho hi hs) fun σ H Q h => tG.step h fun ρ δ ρ1 S1 H1 v d N e R r P => ⟨ρ1, δ, S1, R, N, (Post.bnd P).imp fun y H2 ⟨ρ2, S2, d2, e2, R2, r2, P2⟩ => by
    dsimp only at P2
    unfold opDGet at P2
    split at P2
    · split at P2
      · rename_i kvs hk
        split at P2
        · rename_i z hz
          obtain ⟨a, kws, rfl, _, h1, h2⟩ := dget_of R2 (r.mono e2) hk
          obtain ⟨u, g1, g2⟩ := h2.val hz
          rw [r2.strI]
          exact ⟨a, u, rfl, .inl ⟨kws, _, .inl h1, rfl, g1.symm⟩, P2.now R2 g2⟩
        · exact P2.elim
      · exact P2.elim
    · exact P2.elim⟩
theorem put_key {K : PySem.W.Frag} {ρ : List Addr} {H : Hp} {S S4 : Sto} (R : Rep K ρ H S) {x y v : V} {dx d : D} {k : Str} (rx : Dv K ρ H x dx) (ry : Dv K ρ H y (.str k)) (rv : Dv K ρ H v d) (h : putAt dx (.str k) d S = some S4) :
    ∃ a H', x = .ref a ∧ DPut H a y v H' ∧ Ext ρ H ρ H' ∧ Rep K ρ H' S4 := by
  unfold putAt at h
  split at h
  · rename_i n s heq
    cases heq
    split at h
    · rename_i kvs hk
      split at h
      · rename_i hl
        cases h
        obtain ⟨a, kws, rfl, q, h1, h2⟩ := dget_of R rx hk
        have ew : Ext ρ H ρ (upd H a (.dK (putK kws (.inr k) v))) := R.ext_write q
        rw [ry.strI]
        exact ⟨a, _, rfl, .inl ⟨kws, .inr k, h1, rfl, by rw [h2.length]; exact lt_lim hl, rfl⟩, ew, R.write (c := .dic (putD kvs (.inr k) d)) q ⟨_, upd_same, (h2.put rv).mono ew⟩⟩
      · cases h
    · cases h
  · rename_i heq
    cases heq
  · cases h
theorem put_ix {K : PySem.W.Frag} {ρ : List Addr} {H : Hp} {S S4 : Sto} (R : Rep K ρ H S) {x y v : V} {dx d : D} {j : Int} (rx : Dv K ρ H x dx) (ry : Dv K ρ H y (.int j)) (rv : Dv K ρ H v d) (h : putAt dx (.int j) d S = some S4) :
    ∃ a us l, x = .ref a ∧ y = .int j ∧ H a = some (.lst us) ∧ ixN us.length j = some l ∧ Ext ρ H ρ (upd H a (.lst (us.set l v))) ∧ Rep K ρ (upd H a (.lst (us.set l v))) S4 := by
  unfold putAt at h
  split at h
  · rename_i heq
    cases heq
  · rename_i n i heq
    cases heq
    split at h
    · rename_i ds hk
      split at h
      · rename_i l hl
        cases h
        obtain ⟨a, rfl, q⟩ := rx.cellI
        obtain ⟨us, g1, g2⟩ := R.lst q hk
        have ew : Ext ρ H ρ (upd H a (.lst (us.set l v))) := R.ext_write q
        exact ⟨a, us, l, rfl, ry.intI, g1, by rw [g2.length]; exact hl, ew, R.write (c := .lst (ds.set l d)) q ⟨_, upd_same, (g2.set rv l).mono ew⟩⟩
      · cases h
    · cases h
  · cases h
/-- d['k'] = v -/
theorem ss_dput {k : Str} {j : Nat} {p2 : Pos} (hu : X.A.units + 1 < cLine) (ho : SE X (wt X cl E) o do') (hv : SE X (wt X cl E) e de) (hs : swapsWith e (some (.Subscript o (.Constant (.str k) j p2) pos')) pos.line X.env = pure false := by rfl) :
    SS X (wt X cl E) (.Assign [.Subscript o (.Constant (.str k) j p2) pos'] e pos) (dDPut do' k de) := ps_imp (ps_dput hu ho pe_str hv hs) fun D σ H ⟨ρ, δ, S, R, N, P⟩ =>
  ⟨ρ, δ, S, R, N, PostS.res P fun ρ1 H1 v d S1 e1 R1 r1 P1 => ⟨ρ1, δ, S1, R1, N.mono e1, PostS.res P1 fun ρ2 H2 x dx S2 e2 R2 r2 P2 => by
    split at P2
    · rename_i S4 h4
      obtain ⟨a, H', ex, g, ew, R4⟩ := put_key R2 r2 (.str k) (r1.mono e2) h4
      exact ⟨a, H', ex, g, P2 ρ2 H' σ ew R4 (((N.mono e1).mono e2).mono ew)⟩
    · exact P2.elim⟩⟩
theorem put_dik {K : PySem.W.Frag} {ρ : List Addr} {H : Hp} {S S4 : Sto} (R : Rep K ρ H S) {x y v : V} {dx dy d : D} (rx : Dv K ρ H x dx) (ry : Dv K ρ H y dy) (rv : Dv K ρ H v d) (h : dikPut dx dy d S = some S4) :
    ∃ a b xs k, x = .ref a ∧ y = .ref b ∧ H a = some (DkO a xs) ∧ (∀ p ∈ xs, KOk K H p) ∧ NK K H (.ref b) k ∧ txl k = true ∧ k.depth ≤ 8 ∧ xs.length ≤ sizeLine ∧ Ext ρ H ρ (upd H a (DkO a (storedX xs k b v))) ∧ Rep K ρ (upd H a (DkO a (storedX xs k b v))) S4 := by
  unfold dikPut at h
  split at h
  · rename_i n kvs k h2 h1
    split at h
    · rename_i hl
      cases h
      obtain ⟨ds, rfl, k1, k2, k3⟩ := keyT_tup h2
      obtain ⟨n2, a, xs, e, rfl, g1, g2, g3, g4⟩ := dik_of R rx h1
      cases e
      obtain ⟨b, us, rfl, _⟩ := ry.tupI
      have ew : Ext ρ H ρ (upd H a (DkO a (storedX xs k b v))) := R.ext_write g2
      exact ⟨a, b, xs, k, rfl, rfl, g3, g4.ok, ry.nk k1, k2, k3, by rw [g4.length]; exact Nat.le_of_lt (lt_lim hl), ew, R.write (c := .dik (dkPut kvs k d)) g2 ⟨_, upd_same, (g4.put ry k1 k2 k3 rv).mono ew⟩⟩
    · cases h
  · cases h
theorem set_or {X : Cx} {t t' : TSet} (h : PSet X t) (h' : PSet X t') : PSet X (fun o i v H Q => t o i v H Q ∨ t' o i v H Q) := fun pins s σ H o i v ov iv u Q I r1 r2 r3 q => by
  rcases q with q | q
  · exact h pins s σ H o i v ov iv u Q I r1 r2 r3 q
  · exact h' pins s σ H o i v ov iv u Q I r1 r2 r3 q
/-- xs[i] = v -/
theorem ss_iput (hu : X.A.units + 64 < cLine) (ho : SE X (wt X cl E) o do') (hi : SE X (wt X cl E) i di) (hv : SE X (wt X cl E) e de)
    (ha : ∀ v, assign (.Subscript o i pos') X.env v = (do
      let ov ← holding [v] (eval o X.env)
      let iv ← holding [v, ov] (eval i X.env)
      standAt pos'
      holding [v, ov, iv] (setItem ov iv v)
      release [v, ov, iv] []) := by intro _; rfl)
    (hs : swapsWithSole [.Subscript o i pos'] e pos.line X.env = pure false := by rfl) (hw : swappedStores [.Subscript o i pos'] e X.env = pure none := by rfl) (h1 : (assignEach [.Subscript o i pos'] X.env).map (·.2) = [assign (.Subscript o i pos') X.env] := by rfl) :
    SS X (wt X cl E) (.Assign [.Subscript o i pos'] e pos) (dIPut do' di de) := ps_imp (ps_asg hv (pg_sub ho hi (set_or set_list (set_dik hu)) ha) hs hw h1) fun D σ H ⟨ρ, δ, S, R, N, P⟩ =>
  ⟨ρ, δ, S, R, N, PostS.res P fun ρ1 H1 v d S1 e1 R1 r1 P1 => ⟨ρ1, δ, S1, R1, N.mono e1, PostS.res P1 fun ρ2 H2 x dx S2 e2 R2 r2 P2 => ⟨ρ2, δ, S2, R2, (N.mono e1).mono e2, PostS.res P2 fun ρ3 H3 y dy S3 e3 R3 r3 P3 => by
    split at P3
    · split at P3
      · rename_i S4 h4
        obtain ⟨a, us, l, ex, ey, g1, g2, ew, R4⟩ := put_ix R3 (r2.mono e3) r3 ((r1.mono e2).mono e3) h4
        exact .inl ⟨a, us, _, l, ex, ey, g1, g2, P3 ρ3 _ σ ew R4 ((((N.mono e1).mono e2).mono e3).mono ew)⟩
      · exact P3.elim
    · split at P3
      · rename_i S4 h4
        obtain ⟨a, b, xs, k, ex, ey, g1, g2, g3, g4, g5, g6, ew, R4⟩ := put_dik R3 (r2.mono e3) r3 ((r1.mono e2).mono e3) h4
        exact .inr ⟨a, b, xs, k, ex, ey, g1, g2, g3, g4, g5, g6, P3 ρ3 _ σ ew R4 ((((N.mono e1).mono e2).mono e3).mono ew)⟩
      · exact P3.elim⟩⟩⟩
theorem pps_of {ks : List (Option Expr)} {vs : List Expr} {l : List (Str × DE)} {trs : List (TE × TE)} (h : PPs X pos ks vs trs) (ht : trs = l.map fun p => (tC (.str p.1), tE (wt X cl E) p.2)) : ∀ (σ : L2.St) (H : Hp) (Q : List (V × V) → Hp → Prop),
    tG (wt X cl E) (fun ρ H (ps : List (V × V)) (ds : List (Key × D)) => ∃ kws : List (Key × V), ps = kws.map (fun kv => (kV kv.1, kv.2)) ∧ DvKs X.K ρ H kws ds) (dPairs l) σ H Q → tPairs trs σ H Q := by
  subst ht
  clear h
  induction l with
  | nil => exact fun σ H Q ⟨ρ, δ, S, R, N, P⟩ => P ρ H [] (Ext.refl ρ H) R ⟨[], rfl, .nil⟩
  | cons p l ih =>
    intro σ H Q h
    show tE (wt X cl E) p.2 σ H fun y H1 => tPairs (l.map fun p => (tC (.str p.1), tE (wt X cl E) p.2)) σ H1 fun ps H3 => Q ((.str p.1, y) :: ps) H3
    refine tG.step (Q' := fun y H1 => tPairs (l.map fun p => (tC (.str p.1), tE (wt X cl E) p.2)) σ H1 fun ps H3 => Q ((.str p.1, y) :: ps) H3) h fun ρ δ ρ1 S1 H1 v d N e R r P => ih σ H1 _ ⟨ρ1, δ, S1, R, N, (Post.bnd P).imp fun ps H2 ⟨ρ2, S2, ds, e2, R2, ⟨kws, h1, h2⟩, P2⟩ => ?_⟩
    exact P2 ρ2 H2 _ (Ext.refl ρ2 H2) R2 ⟨(.inr p.1, v) :: kws, by rw [h1]; rfl, .cons (r.mono e2) h2⟩
theorem se_disp {ks : List (Option Expr)} {vs : List Expr} (l : List (Str × DE)) (h : PPs X pos ks vs (l.map fun p => (tC (.str p.1), tE (wt X cl E) p.2))) (hall : ks.all (·.isSome) = true) (hl : ks.length = vs.length) (h0 : ks ≠ []) (h15 : ks.length ≤ 15) : SE X (wt X cl E) (.Dict ks vs pos) (dDisp l) :=
  pe_imp (pe_disp h hall hl h0 h15) fun σ H Q ⟨ρ, δ, S, R, N, P⟩ p hp => by
    have e1 : Ext ρ H (ρ ++ [p]) (upd H p (.dK [])) := Ext.newC hp
    have R1 : Rep X.K (ρ ++ [p]) (upd H p (.dK [])) (S ++ [.dic []]) := R.newC hp ⟨[], upd_same, .nil⟩
    have hc : (ρ ++ [p])[S.length]? = some p := by
      rw [← R.len, List.getElem?_append_right (Nat.le_refl _), Nat.sub_self]
      rfl
    have P1 : Post (wt X cl E) (Dv X.K) (ρ ++ [p]) (upd H p (.dK [])) (dDisp l δ S) Q := Post.base e1 P
    refine pps_of h rfl σ _ _ ⟨ρ ++ [p], δ, S ++ [.dic []], R1, N.mono e1, (Post.bnd P1).imp fun ps H2 ⟨ρ2, S2, ds, e2, R2, ⟨kws, h1, h2⟩, P2⟩ => ?_⟩
    dsimp only at P2
    split at P2
    · rename_i hd
      split at P2
      · rename_i h15
        have hc2 := e2.pre _ _ hc
        obtain ⟨kz, g1, g2⟩ := R2.at _ p _ hc2 hd
        cases g2
        have ew : Ext ρ2 H2 ρ2 (upd H2 p (.dK (mergeK [] kws))) := R2.ext_write hc2
        exact ⟨g1, kws, h1, by rw [h2.length]; exact h15, P2 ρ2 _ _ ew (R2.write (c := .dic (mergeD [] ds)) hc2 ⟨_, upd_same, (h2.merge .nil).mono ew⟩) (.cell hc2)⟩
      · exact P2.elim
    · exact P2.elim
theorem sp_nil : PPs X pos [] [] ([] : List (TE × TE)) := pps_nil
theorem sp_cons {k : Str} {j : Nat} {p2 : Pos} {ks : List (Option Expr)} {vs : List Expr} {trs : List (TE × TE)} (hv : SE X (wt X cl E) e de) (h : PPs X pos ks vs trs) : PPs X pos (some (.Constant (.str k) j p2) :: ks) (e :: vs) ((tC (.str k), tE (wt X cl E) de) :: trs) := pps_cons pe_str hv h
end

/-! ### raise, try -/
def dRaise (c : Str) : DS := fun _ S => .exc c S
/-- try: body; except c: return b -/
def dTryR (body : DS) (c : Str) (b : Bool) : DS := fun δ S => match body δ S with
  | .exc c' S1 => if c' = c then .rt (.bl b) S1 else .bad
  | o => o
section
variable {X : Cx} {cl : Str → Value} {E : XK}
theorem pmk_own0 {C : Addr} {bmB : List Value} {B newId initId : String} {x : Str} {p pos : Pos} (F : ExcBaseFacts B newId initId bmB) (q : PySem.W.excIn X.K C bmB newId = true) (gC : X.mg x = some (.ref C)) (kC : PySem.W.keepIn X.K (.ref C) = true) (r : Raises X (.ref C)) (hg : Gl X x)
    (hdb : (x == ("__debug__" : Str)) = false := by decide) : PMk X (.Call (.Name x p) [] [] pos) (fun _ H Q => Q (.ref C) none H) := by
  intro pins s σ H Q I h
  refine wpAny_Call_Name_kw (ld_glob I hg gC ?_ hdb)
  refine PySem.W.callWith_K0 I.kIn kC ?_
  obtain ⟨bm, N, nm, qn, bs, hdct, sn, sub, ab, col, dd, k0, k1, k2, k3, k5, mN, hC, hN, hni, T⟩ := exc_obj I.kIn q
  show wpAny _ _ (call (.ref C) []) _ _ _
  exact wpAny_call_exc_subT F T hC hN hni (fun h' e hm => mk_of I hm r h (I.hok.gone hm.new)) (Nat.zero_le _)
/-- what a raised class is to the walk -/
structure Exn (K : PySem.W.Frag) (mg : Str → Option Value) (cl : Str → Value) (x : Str) : Prop where
  ex : ∃ C, mg x = some (.ref C) ∧ cl x = .ref C ∧ PySem.W.excIn K C [.type "ValueError", .type "Exception", .type "BaseException", .type "object"] "ValueError.__new__" = true ∧ PySem.W.keepIn K (.ref C) = true ∧
    PySem.W.subIn K (.ref C) (.type "BaseException") = some true ∧ PySem.W.typeIn K (.ref C) = some (.type "type") ∧ PySem.W.exmOne K (.ref C) (.ref C) = some true
theorem ss_raise {x : Str} {p pos pos' : Pos} (T : Exn X.K X.mg cl x) (hc : X.calm = true) (tk : Takes X (fun cls d _ H => E cls d H)) (hg : Gl X x) (hdb : (x == ("__debug__" : Str)) = false := by decide) : SS X (wt X cl E) (.Raise (some (.Call (.Name x p) [] [] pos')) none pos) (dRaise x) := by
  obtain ⟨C, gC, eC, xC, kC, sC, tC', _⟩ := T.ex
  refine ps_imp (ps_raise hc tk (pmk_own0 PySem.F.excBase_ValueError xC gC kC (raises_own sC tC') hg hdb)) fun D σ H ⟨ρ, δ, S, R, N, P⟩ => ?_
  have q := P ρ H (Ext.refl ρ H) R
  show E (.ref C) none H
  rw [← eC]
  exact q
theorem ss_try {x : Str} {np p2 p3 pos pos' : Pos} {j : Nat} {body : List Stmt} {bd : DS} {b : Bool} (T : Exn X.K X.mg cl x) (hs : X.stack = X.env :: X.outer) (hf : X.env.frame = some X.env.locals) (hg : Gl X x) (hdb : (x == ("__debug__" : Str)) = false) (tk : Takes X (fun cls d _ H => E cls d H))
    (hb : ∀ (W : WX) (pn : List (Addr × Obj)) (xe : Value → Shared → Prop), Takes (X.tr pn xe) W → PassesOwn (model X.prog X.w) X.A X.env xe → PSs (X.tr pn xe) body (tS ⟨X.K, cl, fun cls d H => ∀ σ, W cls d σ H⟩ bd)) :
    SS X (wt X cl E) (.Try body [.ExceptHandler (some (.Name x np)) none [.Return (some (.Constant (.bool b) j p2)) p3] pos'] [] [] pos) (dTryR bd x b) := by
  obtain ⟨C, gC, eC, xC, kC, sC, tC', xm⟩ := T.ex
  refine ps_imp (ps_try_only hs hf (c := .ref C) ⟨hg, hdb, .inl gC⟩ tk hb (fun a oe cls d pn _ _ => pss_one (ps_ret pe_bl))) fun D σ H ⟨ρ, δ, S, R, N, P⟩ => ⟨ρ, δ, S, R, N, ?_⟩
  unfold dTryR at P
  cases q : bd δ S with
  | exc c' S1 =>
    rw [q] at P
    dsimp only at P
    split at P
    · rename_i hc
      intro ρ1 H1 e1 R1 σ1
      refine ⟨true, by rw [hc]; show PySem.W.exmOne X.K (cl x) (.ref C) = some true; rw [eC]; exact xm, fun _ a _ => P ρ1 H1 (.bl b) e1 R1 (.bl b), fun z => by cases z⟩
    · exact P.elim
  | nx δ1 S1 => rw [q] at P; exact P
  | bk δ1 S1 => rw [q] at P; exact P
  | ct δ1 S1 => rw [q] at P; exact P
  | rt d1 S1 => rw [q] at P; exact P
  | bad => rw [q] at P; exact P.elim
end
end Dn
set_option Elab.async false
set_option linter.all false
set_option maxRecDepth 100000
set_option maxHeartbeats 1000000
/-! Dn6: repr, calls by keywords, a law's def that knows that no repr is under way. -/
noncomputable section
namespace Dn
open PySem PySem.Spec PyProof.Rows L2

/-! ### repr -/
def reprOk (p : PyData) : Bool := p.showable && p.leavesShort 1921 && decide (p.depth ≤ 50) && decide (p.weight ≤ 8000) && !p.hasDict
def bRepr : DF := fun ds S => match ds with
  | [d] => match toPy 60 S d with
    | some p => if reprOk p = true then .ok (.str p.shown) S else .bad
    | none => .bad
  | _ => .bad
section
variable {X : Cx} {cl : Str → Value} {E : XK}
theorem repr_fits {p : PyData} (h : p.leavesShort 1921 = true) (hw : p.weight ≤ 8000) : p.shown.length ≤ sizeLine := by
  have e := PyData.shown_le 1921 (by decide) p h
  have e2 : (1921 + 2) * p.weight ≤ (1921 + 2) * 8000 := Nat.mul_le_mul_left _ hw
  rw [sizeLine_eq]
  omega
theorem cd_repr (hg : X.A.guards = some []) (hu : X.A.units + 64 < cLine) : CallD X cl E (.builtin "repr") bRepr := by
  intro pins s σ H xs us Q I r h
  obtain ⟨ρ, S, ds, R, rs, P⟩ := h
  unfold bRepr at P
  split at P
  · rename_i d
    split at P
    · rename_i p hp
      split at P
      · rename_i hok
        obtain ⟨v, rfl, rv⟩ := one_of rs
        obtain ⟨u, rfl, ru⟩ := r.one
        unfold reprOk at hok
        simp only [Bool.and_eq_true, decide_eq_true_eq, Bool.not_eq_true'] at hok
        obtain ⟨⟨⟨⟨k1, k2⟩, k3⟩, k4⟩, k5⟩ := hok
        have fit := repr_fits k2 k4
        have dp := toPy_dp R _ _ _ _ rv hp
        obtain ⟨as, rd⟩ := Dp.reads I p v u dp ru
        have fin : Q (.str p.shown) H := P.now R (.str _)
        cases dp with
        | non =>
          cases ru
          exact PySem.P.repr_of_none ⟨.str _, H, I.tok _, ⟨_, rfl⟩, fin⟩
        | bl b =>
          cases ru
          refine PySem.P.repr_of_bool ⟨.str _, H, I.tok _, ⟨_, rfl⟩, ?_⟩
          have e : (PyData.bool b).shown = (if b then "True" else "False" : Str) := by simp only [PyData.shown]
          rw [e] at fin
          cases b <;> exact fin
        | int i =>
          obtain ⟨t, rfl⟩ := ru
          refine PySem.P.repr_of_int (by simpa [PyData.showable] using k1) ⟨.str _, H, I.tok _, ⟨_, rfl⟩, ?_⟩
          simpa only [PyData.shown] using fin
        | str x =>
          obtain ⟨t, rfl⟩ := ru
          refine PySem.P.repr_of_str ⟨.str _, H, I.tok _, ⟨_, rfl⟩, ?_⟩ (by simpa only [PyData.shown] using fit)
          simpa only [PyData.shown] using fin
        | lst a b =>
          cases ru
          exact repr_of_reads' rd k1 (PyData.noDict_hsm k5) hg (by omega) (fun _ _ e => e) (fun h' u tk hk => ⟨.str _, H, I.kept hk, ⟨_, rfl⟩, fin⟩) fit
        | tup a b =>
          cases ru
          exact repr_of_reads' rd k1 (PyData.noDict_hsm k5) hg (by omega) (fun _ _ e => e) (fun h' u tk hk => ⟨.str _, H, I.kept hk, ⟨_, rfl⟩, fin⟩) fit
      · exact P.elim
    · exact P.elim
  · exact P.elim
end

/-! ### f(k = v, ..): keywords alone -/
def permD (is : List Nat) (ds : List D) : List D := is.filterMap fun i => ds[i]?
def dCallK (f : DF) (is : List Nat) (as : DA) : DE := fun δ S => (as δ S).bnd fun ds S1 => if ds.length = is.length then f (permD is ds) S1 else .bad
structure HasK (P : Program) (w : World) (K : PySem.W.Frag) (mg : Str → Option Value) (base : Heap) (cl : Str → Value) (x : Str) (k : Nat) (ks : List Str) (is : List Nat) (g : DF) : Prop where
  ex : ∃ (f : Addr) (fd : FuncData) (ps : List Str), FnOk P w K mg base (L2.CX P w) k f fd ps (SpD K cl g) ∧ mg x = some (.ref f) ∧ PySem.W.keepIn K (.ref f) = true ∧
    ∀ (s : Shared) (ws : List Value), K.In s.heap → ws.length = is.length → BindsTo s fd ⟨[], ks.zip ws⟩ (ps.zip (is.filterMap fun i => ws[i]?))
section
variable {X : Cx} {cl : Str → Value} {E : XK} {x : Str} {p pos kpos : Pos} {e : Expr} {kws : List Keyword} {da : DA} {de : DE} {k : Nat} {g : DF} {ks : List Str} {is : List Nat} {nm : Option Str}
abbrev SK (X : Cx) (W : Wt) (kws : List Keyword) (de : DA) : Prop := PK X kws (tAs W de)
theorem pk_imp {X : Cx} {e : List Keyword} {t t' : TA} (h : PK X e t) (i : ∀ σ H Q, t' σ H Q → t σ H Q) : PK X e t' := ⟨fun pos pins s σ H Q I q => h.run pos pins s σ H Q I (i σ H Q q)⟩
theorem sk_nil : SK X (wt X cl E) [] dNil := pk_imp pk_nil fun σ H Q ⟨ρ, δ, S, R, N, P⟩ => Post.now (Rl := DvAll X.K) P R .nil
theorem sk_cons (ha : SE X (wt X cl E) e de) (hr : SK X (wt X cl E) kws da) : SK X (wt X cl E) (⟨nm, e, kpos⟩ :: kws) (dCons de da) :=
  pk_imp (pk_cons ha hr) fun σ H Q h => tG.step h fun ρ δ ρ1 S1 H1 v d N e R r P => ⟨ρ1, δ, S1, R, N, (Post.bnd P).imp fun vs H2 ⟨ρ2, S2, d2, e2, R2, r2, P2⟩ => Post.now (Rl := DvAll X.K) P2 R2 (.cons (r.mono e2) r2)⟩
theorem perm_dv {K : PySem.W.Frag} {ρ : List Addr} {H : Hp} {vs : List V} {ds : List D} {us : List Value} (h : DvAll K ρ H vs ds) (r : Vals vs us) : ∀ is : List Nat, DvAll K ρ H (is.filterMap fun i => vs[i]?) (permD is ds) ∧ Vals (is.filterMap fun i => vs[i]?) (is.filterMap fun i => us[i]?)
  | [] => ⟨.nil, .nil⟩
  | i :: is => by
    obtain ⟨i1, i2⟩ := perm_dv h r is
    unfold permD
    cases q : vs[i]? with
    | none =>
      have q2 : ds[i]? = none := by
        rw [List.getElem?_eq_none_iff] at q ⊢
        rw [← h.length]
        exact q
      rw [List.filterMap_cons, List.filterMap_cons, List.filterMap_cons, q, q2, r.none_of q]
      exact ⟨i1, i2⟩
    | some v =>
      obtain ⟨d, q2, dv⟩ := h.getV q
      obtain ⟨u, q3, ru⟩ := r.get q
      rw [List.filterMap_cons, List.filterMap_cons, List.filterMap_cons, q, q2, q3]
      exact ⟨.cons dv i1, .cons ru i2⟩
theorem se_callK (F : HasK X.prog X.w X.K X.mg X.base cl x k ks is g) (hr : Room k X.A) (hg : Gl X x) (hx : Passes (L2.CX X.prog X.w) X E) (hkw : SK X (wt X cl E) kws da)
    (hall : (backToKw pos (keywordEach kws X.env)).all (·.1.isSome) = true := by rfl) (hks : (backToKw pos (keywordEach kws X.env)).filterMap (·.1) = ks := by rfl) (hdb : (x == ("__debug__" : Str)) = false := by decide)
    (hpl : ((backTo pos (starEach [] X.env)).any (·.1) || (backToKw pos (keywordEach kws X.env)).any (·.1.isNone)) = false := by rfl) : SE X (wt X cl E) (.Call (.Name x p) [] kws pos) (dCallK g is da) := by
  obtain ⟨f, fd, ps, F, hm, hk, hb⟩ := F.ex
  refine ⟨fun pins s σ H Q I h => ?_⟩
  refine wpAny_Call_Name_kw (ld_glob I hg hm ?_ hdb)
  have h2 : tAs (wt X cl E) da σ H fun vs H1 => ∃ ρ S ds, Rep X.K ρ H1 S ∧ DvAll X.K ρ H1 vs ds ∧ ds.length = is.length ∧ Post (wt X cl E) (Dv X.K) ρ H1 (g (permD is ds) S) Q := tG.step h fun ρ δ ρ1 S1 H1 v d N e R r P => by
    split at P
    · rename_i hl
      exact ⟨ρ1, S1, d, R, r, hl, P⟩
    · exact P.elim
  refine PySem.W.callWith_KW0 (h₀ := X.base) I.ok.mod.kin hk hall (thn (hkw.run pos pins s σ H _ I h2) fun ws s1 ⟨vs, H1, I1, rv, ρ, S, ds, R, dv, hl, P⟩ => ⟨I1.kIn, ?_⟩) hpl
  rw [hks]
  obtain ⟨pd, pv⟩ := perm_dv dv rv is
  have hw : ws.length = is.length := by rw [← rv.length, dv.length, hl]
  refine wpAny_call (codeAny_mono (F.run X.A X.stack s1 H1 ⟨[], ks.zip ws⟩ (is.filterMap fun i => ws[i]?) (is.filterMap fun i => vs[i]?) Q E hr I1.env0 (hb s1 ws I1.kIn hw) pv ⟨ρ, S, permD is ds, R, pd, P⟩) fun r s' hq => ?_)
  match r, hq with
  | .error e, hq => exact hx pins σ H1 s1 e s' I1 hq
  | .ok (.ret u), hq => exact I1.after hq
  | .ok .next, hq => exact False.elim hq
  | .ok .brk, hq => exact False.elim hq
  | .ok .cont, hq => exact False.elim hq
end

/-! ### the law's own def -/
def RunG (P : Program) (w : World) (K : PySem.W.Frag) (mg : Str → Option Value) (base : Heap) (cl : Str → Value) (k : Nat) (f : Addr) (fd : FuncData) (ps : List Str) (g : DF) : Prop :=
  ∀ (A : Around) (outer : List Env) (s : Shared) (H : Hp) (args : Args) (us : List Value) (vs : List V) (Q : VK) (E : XK), Room k A → A.guards = some [] → Env0 P w K mg base A outer s H → BindsTo s fd args (ps.zip us) → Vals vs us →
    rDF ⟨K, cl, E⟩ g vs H Q → codeAny (model P w) A (.call (.ref f) args) (CR (L2.CX P w) outer P w H s Q E) s
section
variable {P : Program} {w : World} {K : PySem.W.Frag} {mg : Str → Option Value} {base : Heap} {cl : Str → Value}
theorem fn_okG {x qual : Str} {st : Stmt} {f : Addr} {fd : FuncData} {N ps : List Str} {k : Nat} {body : DS} (F : Fun K x qual st f fd) (S : FnScope N ps (defScope st))
    (hbody : ∀ (cdv : Value) (A : Around) (outer : List Env) (s : Shared) (H : Hp) (E : XK), Room k (A.deeper (envOfC qual (defScope st) s.heap.objs.size f cdv)) → (A.deeper (envOfC qual (defScope st) s.heap.objs.size f cdv)).guards = some [] →
      SB (cxOf (L2.CX P w) P w K mg base N qual (defScope st) f cdv A outer s H E) ⟨K, cl, E⟩ (defBody st) body) : RunG P w K mg base cl (k + 1) f fd ps (dFn ps.length N.length body) := by
  obtain ⟨oc, od, kV, doc, pm, an, cdv, ct, osl, rfl, lk, hcd⟩ := F.ex
  intro A outer s H args us vs Q E hr hg e0 hb r ⟨ρ, S0, ds, R, dv, hP⟩
  unfold dFn at hP
  split at hP
  case isFalse => exact hP.elim
  case isTrue hlen =>
    have hl : vs.length = ps.length := by rw [dv.length, hlen]
    have inK : K.In s.heap := e0.mod.kin.keeps fun b o e => (e0.bs b o e).1
    have nolim : s.heap.NoLimit := e0.mod.nolimit.keeps fun b o e => (e0.bs b o e).1
    have kinds : ∀ y ∈ ps.zip us, (defScope st).names.lookup y.1 = some .local ∨ ((defScope st).names.lookup y.1 = some .cell ∧ ((cellsFrom (s.heap.objs.size + 1) (defScope st).names []).lookup y.1).isSome = true) := by
      intro y hy
      obtain ⟨n, v⟩ := y
      exact (S.par n (List.of_mem_zip hy).1).imp id fun q => ⟨q, PySem.W.cellsFrom_some _ _ _ (.inl q)⟩
    refine codeAny_call_function hr.depth (inK _ _ lk) rfl S.co S.gen rfl (PySem.W.codeRec_of inK hcd) (hb _ _ _ _ (wpAny_newFunctionEnv_cells S.kind kinds fun env he s1 x => ?_))
    subst he
    refine ⟨nolim.keeps x.toInCall.keep, codeAny_func ?_⟩
    have I := inv_start (CX := L2.CX P w) (P := P) (w := w) (K := K) (mg := mg) (base := base) (qual := qual) (f := f) (cd := cdv) (E := E) S hr.hd e0 hl r x
    refine wpAny_mono ((hbody cdv A outer s H E (hr.deeper _) hg).run [] s1 (L2.start N vs) H { nx := fun _ H' => Q .non H', rt := Q } I ⟨ρ, startD N.length ds, S0, R, envR_start dv, ?_⟩) (fun fl s' hs => ?_) fun _ _ hs => hs
    · cases q : body (startD N.length ds) S0 with
      | nx δ S1 => rw [q] at hP; exact fun ρ1 H1 σ1 e1 R1 N1 => hP ρ1 H1 .non e1 R1 .non
      | rt d S1 => rw [q] at hP; exact hP
      | exc c S1 => rw [q] at hP; exact hP
      | bk δ S1 => rw [q] at hP; exact hP.elim
      | ct δ S1 => rw [q] at hP; exact hP.elim
      | bad => rw [q] at hP; exact hP.elim
    · match fl, hs with
      | .ret u, ⟨v, σ', H', J, rv, q⟩ => exact ⟨v, H', J.os, J.bare, J.base, J.hok, rv, q⟩
      | .next, ⟨σ', H', J, q⟩ => exact ⟨V.non, H', J.os, J.bare, J.base, J.hok, rfl, q⟩
      | .brk, ⟨_, _, _, q⟩ => exact False.elim q
      | .cont, ⟨_, _, _, q⟩ => exact False.elim q
end
section
open PySem.W
/-- at the heap behind the top: the law's own call, its script a list that is known to the object or written at the top; cs: code objects and their tables -/
theorem lawG {P : Program} {w : World} {K : PySem.W.Frag} {mg mb : Str → Option Value} {cl : Str → Value} {k : Nat} {fa a : Addr} {cs : List (Addr × Addr)} {fd : FuncData} {x : Str} {g : DF} {s₁ : Shared} {vs : List Value} {ns : List Int}
    (KX : K.In s₁.heap) (hns : s₁.heap.Ns mainGlobals mg) (hb : s₁.heap.Ns builtinsNs mb) (hbb : ∀ x : Str, x ≠ "__name__" → mb x = bootBuiltins x) (hlim : s₁.heap.NoLimit) (hgen : s₁.gens = #[])
    (hT : ∀ p ∈ cs, s₁.heap.get? p.2 = some { cls := .none, data := .fields #[] }) (nT : ∀ p ∈ cs, K.lookup p.2 = none) (C : ∀ p ∈ cs, PySem.W.CodeHd s₁.heap p.1 p.2) (hTT : ∀ p ∈ TTof K, p.1 ∈ cs.map (·.2))
    (hbm : ∃ (bm : Addr) (ob : Obj), mg "__builtins__" = some (.ref bm) ∧ bm ≠ builtinsNs ∧ s₁.heap.get? bm = some ob ∧ ob.cls = .type "module" ∧ ob.dict = some builtinsNs ∧ ob.data = .plain)
    (ha : s₁.heap.get? a = some { cls := .type "list", data := .seq vs.toArray }) (hi : IntsAre vs ns) (hl : ns.length ≤ sizeLine) (hr : Room k callerA)
    (F : ∀ base : Heap, K.In base → base.Ns mainGlobals mg → (∀ p ∈ cs, LamX.TabB base mg p.1 p.2) → RunG P w K mg base cl k fa fd [x] g) (hbind : ∀ (s : Shared) (u : Value), BindsTo s fd ⟨[u], []⟩ [(x, u)])
    (hD : ∃ S', g [.ro (ns.map .int)] [] = .ok (.bl true) S') :
    codeAny (model P w) callerA (.call (.ref fa) ⟨[.ref a], []⟩) (fun r s' => r = .ok (.ret (.bool true)) ∧ OldK s₁.heap s'.heap ∧ s'.os = s₁.os ∧ AllBare s'.gens) s₁ := by
  obtain ⟨S', hD⟩ := hD
  have rv := vals_ints hi
  have lenV := hi.length
  have numsD : ∀ (ρ : List Addr) (H : Hp) (l : List Int), DvAll K ρ H (l.map V.int) (l.map D.int) := by
    intro ρ H l
    induction l with
    | nil => exact .nil
    | cons z l ih => exact .cons (.int z) ih
  have isT : ∀ b : Addr, b ∈ cs.map (·.2) → s₁.heap.get? b = some { cls := .none, data := .fields #[] } := fun b hb => by
    obtain ⟨p, hp, e⟩ := List.mem_map.mp hb
    rw [← e]
    exact hT p hp
  have aT : a ∉ cs.map (·.2) := fun z => by
    have q := isT a z
    rw [ha] at q
    have z' : Data.seq vs.toArray _ = Data.fields #[] := congrArg Obj.data (Option.some.inj q)
    cases z'
  have memT : ∀ p ∈ cs, p.2 ∈ cs.map (·.2) := fun p hp => List.mem_map.mpr ⟨p, hp, rfl⟩
  -- from an abstract heap in which nothing but the script and the tables may be tracked
  have core : ∀ H : Hp, (∀ p ∈ cs, H p.2 = some (.tbl #[])) → (∀ b, H b = none ∨ b ∈ cs.map (·.2) ∨ ∃ o xs, H b = some (.frz o (.lst xs))) → SqL K H a (ns.map V.int) → ((∃ o, H a = some (.frz o (.lst (ns.map V.int)))) ∨ ∀ H', SqL K H' a (ns.map V.int)) →
      HOk P w H s₁.heap → (∀ b, H b ≠ none → b = a ∨ b ∈ cs.map (·.2)) → (H a ≠ none → K.lookup a = none) →
      codeAny (model P w) callerA (.call (.ref fa) ⟨[.ref a], []⟩) (fun r s' => r = .ok (.ret (.bool true)) ∧ OldK s₁.heap s'.heap ∧ s'.os = s₁.os ∧ AllBare s'.gens) s₁ := by
    intro H hH hO hS hF hok hA hK
    have base_of : ∀ {b : Addr} {o : Obj}, s₁.heap.get? b = some o → H b = none → (hidT s₁.heap H).get? b = some o := fun e n => hidT_get e n
    have noD : ∀ {b : Addr} {o : Obj}, s₁.heap.get? b = some o → (∀ vs n, o.data ≠ .seq vs n) → o.data ≠ .fields #[] → H b = none := fun {b o} e h1 h2 => by
      cases q : H b with
      | none => rfl
      | some u =>
        rcases hA b (by rw [q]; simp) with e' | e'
        · rw [e', ha] at e
          cases e
          exact (h1 _ _ rfl).elim
        · rw [isT b e'] at e
          cases e
          exact (h2 rfl).elim
    have noA : ∀ {b : Addr} {o : Obj} {es : Array DictEntry} {ep : Nat}, s₁.heap.get? b = some o → o.data = .dict es ep → H b = none := fun {b o es ep} e d => by
      refine noD e (fun vs n z => ?_) fun z => ?_
      · rw [d] at z
        cases z
      · rw [d] at z
        cases z
    have nsK : ∀ {b : Addr} {m : Str → Option Value}, s₁.heap.Ns b m → (hidT s₁.heap H).Ns b m := fun {b m} ⟨o, es, ep, e, d, r⟩ => ⟨o, es, ep, base_of e (noA e d), d, r⟩
    have hKb : K.In (hidT s₁.heap H) := fun b o e => base_of (KX b o e) (by
      cases q : H b with
      | none => rfl
      | some u =>
        rcases hA b (by rw [q]; simp) with e' | e'
        · rw [e'] at e q
          rw [hK (by rw [q]; simp)] at e
          cases e
        · obtain ⟨p, hp, ep⟩ := List.mem_map.mp e'
          rw [← ep, nT p hp] at e
          cases e)
    have hM : L2.Mod K mg (hidT s₁.heap H) := ⟨hKb, nsK hns, ⟨mb, nsK hb, hbb⟩, let ⟨mc, h1, h2⟩ := hlim; ⟨mc, nsK h1, h2⟩⟩
    have TB : ∀ p ∈ cs, LamX.TabB (hidT s₁.heap H) mg p.1 p.2 := fun p hp => by
      have hTp := hT p hp
      refine ⟨?_, ?_, fun z => ?_⟩
      · obtain ⟨o, us, file, tf, flags, tg, inF, text, tt, e1, r1, r2, r3, r4, r5, r6, r7, r8, hne⟩ := C p hp
        refine ⟨o, us, file, tf, flags, tg, inF, text, tt, base_of e1 (noD e1 (fun vs n z => ?_) fun z => ?_), r1, r2, r3, r4, r5, r6, r7, r8, hne⟩
        · rw [r2] at z
          cases z
        · rw [r2] at z
          cases z
          simp at r3
      · obtain ⟨bm, ob, b1, b2, b3, b4, b5, b6⟩ := hbm
        have nG : bm ≠ mainGlobals := fun q => by
          obtain ⟨o, es, ep, e, hd, _⟩ := hns
          rw [q, e] at b3
          cases b3
          rw [hd] at b6
          cases b6
        have nP : bm ≠ p.2 := fun q => by
          rw [q, hTp] at b3
          cases b3
          cases b6
        refine ⟨bm, ob, b1, b2, nG, nP, base_of b3 (noD b3 (fun vs n z => ?_) fun z => ?_), b4, b5, b6⟩
        · rw [b6] at z
          cases z
        · rw [b6] at z
          cases z
      · obtain ⟨o, es, ep, e, hd, _⟩ := hns
        rw [z, hTp] at e
        cases e
        cases hd
    have e0 : Env0 P w K mg (hidT s₁.heap H) callerA [] s₁ H := ⟨rfl, hM, fun b o e => of_hidT e, Nat.le_of_eq (hidT_size _ _), trivial, fun b hb => absurd (show b ∈ ([] : List Addr) from hb) (by simp), hok, .of_eq hgen⟩
    have tabs : LamX.Tabs (TTof K) H := fun p hp => by
      obtain ⟨q, hq, e⟩ := List.mem_map.mp (hTT p hp)
      refine LamX.TabS.nil ?_
      rw [← e]
      exact hH q hq
    have sp : rDF ⟨K, cl, fun _ _ _ => False⟩ g [.ref a] H (fun v _ => v = .bl true) := by
      refine ⟨[], [], [.ro (ns.map D.int)], ⟨rfl, fun i j b e => (by simp at e), fun n b c e => (by simp at e), tabs⟩, .cons (.ro hS hF (numsD _ _ _)) .nil, ?_⟩
      rw [hD]
      intro ρ' H' v e R r
      exact r.blI
    refine codeAny_mono (F _ hKb (nsK hns) TB callerA [] s₁ H ⟨[.ref a], []⟩ [.ref a] [.ref a] _ _ hr rfl e0 (hbind s₁ (.ref a)) (.cons rfl .nil) sp) fun r s' h => ?_
    match r, h with
    | .error e, h =>
      obtain ⟨_, _, _, _, _, _, _, _, _, _, _, _, z⟩ := h
      exact z.elim
    | .ok .next, h => exact False.elim h
    | .ok .brk, h => exact False.elim h
    | .ok .cont, h => exact False.elim h
    | .ok (.ret u), ⟨v, H', os, bare, un, hok', r', q⟩ =>
      obtain rfl : v = .bl true := q
      obtain rfl : u = Value.bool true := r'
      have key : ∀ b o, b ∉ cs.map (·.2) → s₁.heap.get? b = some o → s'.heap.get? b = some o := fun b o nb e => by
        cases q : H b with
        | none => exact un.keep b o e q (by intro z; exact absurd (show b ∈ ([] : List Addr) from z) (by simp)) (by simp)
        | some u =>
          rcases hO b with z | z | ⟨ob, xs, z⟩
          · rw [q] at z; cases z
          · exact absurd z nb
          · have z2 := un.frzs b ob _ z
            obtain ⟨e1, _⟩ := hok b _ z
            obtain ⟨e2, _⟩ := hok' b _ z2
            rw [e] at e1; cases e1
            exact e2
      have grown : ∀ p ∈ cs, ∃ more : Array Value, s'.heap.get? p.2 = some { cls := .none, data := .fields more } := fun p hp => by
        obtain ⟨more, z⟩ := un.tbls p.2 #[] (hH p hp)
        exact ⟨_, hok' p.2 _ z⟩
      refine ⟨rfl, ⟨fun b o e => ?_, fun b o e => ?_⟩, os, bare⟩
      · by_cases hb : b ∈ cs.map (·.2)
        · obtain ⟨p, hp, ep⟩ := List.mem_map.mp hb
          obtain ⟨more, hm⟩ := grown p hp
          rw [← ep] at e ⊢
          rw [hT p hp] at e
          cases e
          exact .inr (.inl ⟨((C p hp).tab (hT p hp)).isCodeTable, rfl, #[], more, rfl, by rw [Array.empty_append]; exact hm⟩)
        · exact .inl (key b o hb e)
      · by_cases hb : b ∈ cs.map (·.2)
        · obtain ⟨p, hp, ep⟩ := List.mem_map.mp hb
          obtain ⟨more, hm⟩ := grown p hp
          rw [← ep]
          exact ⟨_, hm⟩
        · exact ⟨o, key b o hb e⟩
  cases hk : K.lookup a with
  | some o =>
    have e := KX a o hk
    rw [ha] at e
    cases e
    have all : ∀ H' : Hp, SqL K H' a (ns.map V.int) := fun H' => .inr ⟨_, vs.toArray, _, hk, rfl, rfl, rfl, by rw [List.size_toArray, lenV]; exact hl, by simpa using rv⟩
    refine core (fun b => if b ∈ cs.map (·.2) then some (.tbl #[]) else none) (fun p hp => if_pos (memT p hp)) (fun b => ?_) (all _) (.inr all) (fun b u z => ?_) (fun b z => ?_) fun z => absurd (show (if a ∈ cs.map (·.2) then some (HO.tbl #[]) else none) = none from if_neg aT) z
    · by_cases hb : b ∈ cs.map (·.2)
      · exact .inr (.inl hb)
      · exact .inl (if_neg hb)
    · by_cases hb : b ∈ cs.map (·.2)
      · have z' := (if_pos hb).symm.trans z
        cases z'
        exact isT b hb
      · have z' := (if_neg hb).symm.trans z
        cases z'
    · by_cases hb : b ∈ cs.map (·.2)
      · exact .inr hb
      · exact absurd (if_neg hb) z
  | none =>
    have at' : (fun b => if b = a then some (HO.frz { cls := .type "list", data := .seq vs.toArray } (.lst (ns.map V.int))) else if b ∈ cs.map (·.2) then some (.tbl #[]) else none : Hp) a = some (.frz { cls := .type "list", data := .seq vs.toArray } (.lst (ns.map V.int))) := if_pos rfl
    refine core (fun b => if b = a then some (.frz { cls := .type "list", data := .seq vs.toArray } (.lst (ns.map V.int))) else if b ∈ cs.map (·.2) then some (.tbl #[]) else none) (fun p hp => (if_neg (show ¬ p.2 = a from fun z => aT (by rw [← z]; exact memT p hp))).trans (if_pos (memT p hp))) (fun b => ?_)
      (.inl (.inr ⟨{ cls := .type "list", data := .seq vs.toArray }, if_pos rfl⟩)) (.inl ⟨_, at'⟩) (fun b u z => ?_) (fun b z => ?_) fun _ => hk
    · by_cases hb : b = a
      · exact .inr (.inr ⟨_, _, if_pos hb⟩)
      · by_cases hb2 : b ∈ cs.map (·.2)
        · exact .inr (.inl hb2)
        · exact .inl ((if_neg hb).trans (if_neg hb2))
    · by_cases hb : b = a
      · have z' := (if_pos hb).symm.trans z
        cases z'
        rw [hb]
        exact ⟨ha, by rw [List.length_map]; exact hl, vs, _, rv, ha⟩
      · have z1 := (if_neg hb).symm.trans z
        by_cases hb2 : b ∈ cs.map (·.2)
        · have z' := (if_pos hb2).symm.trans z1
          cases z'
          exact isT b hb2
        · have z' := (if_neg hb2).symm.trans z1
          cases z'
    · by_cases hb : b = a
      · exact .inl hb
      · by_cases hb2 : b ∈ cs.map (·.2)
        · exact .inr hb2
        · exact absurd ((if_neg hb).trans (if_neg hb2)) z
end
end Dn
set_option Elab.async false
set_option linter.all false
set_option maxRecDepth 100000
set_option maxHeartbeats 1000000
/-! Dn7: odds and ends: -x, {}, list(range(n)), a written tuple of texts and its index. -/
noncomputable section
namespace Dn
open PySem PySem.Spec PyProof.Rows L2
def dNeg (a : DE) : DE := fun δ S => (a δ S).bnd fun d S1 => match d with
  | .int i => .ok (.int (-i)) S1
  | _ => .bad
def dDic0 : DE := fun _ S => .ok (.cell S.length) (S ++ [.dic []])
def dListRg (a : DE) : DE := fun δ S => (a δ S).bnd fun d S1 => match d with
  | .int n => if decide (0 ≤ n ∧ n ≤ 100000) = true then .ok (.cell S1.length) (S1 ++ [.lst ((List.range n.toNat).map fun i => D.int (i : Nat))]) else .bad
  | _ => .bad
def ixStr (ys : List Str) (z : Str) : Option Nat := match ys with
  | [] => none
  | y :: r => if y = z then some 0 else (ixStr r z).map (· + 1)
def dIxC (ys : List Str) (a : DE) : DE := fun δ S => (a δ S).bnd fun d S1 => match d with
  | .str z => match ixStr ys z with
    | some j => .ok (.int (j : Nat)) S1
    | none => .bad
  | _ => .bad
theorem ixStr_some : ∀ {ys : List Str} {z : Str} {j : Nat}, ixStr ys z = some j → ys[j]? = some z ∧ ∀ m, m < j → ys[m]? ≠ some z
  | [], _, _, h => by cases h
  | y :: r, z, j, h => by
    unfold ixStr at h
    split at h
    · rename_i e
      cases h
      exact ⟨by rw [e]; rfl, fun m hm => absurd hm (Nat.not_lt_zero _)⟩
    · rename_i e
      obtain ⟨i, h1, rfl⟩ := Option.map_eq_some_iff.mp h
      obtain ⟨a, b⟩ := ixStr_some h1
      refine ⟨a, fun m hm => ?_⟩
      cases m with
      | zero => exact fun z => e (Option.some.inj z)
      | succ m => exact b m (by omega)
/-- a module's name that holds a written tuple of texts -/
structure TupC (K : PySem.W.Frag) (mg : Str → Option Value) (x : Str) (ys : List Str) : Prop where
  ex : ∃ (a : Addr) (o : Obj) (n : Nat) (its : Array Value), mg x = some (.ref a) ∧ K.lookup a = some o ∧ o.cls = .type "tuple" ∧ o.dict = none ∧ o.data = .seq its n ∧ its.size ≤ sizeLine ∧ Vals (ys.map V.str) its.toList
section
variable {X : Cx} {cl : Str → Value} {E : XK} {a : Expr} {da : DE} {pos p apos cpos : Pos}
theorem se_neg (ha : SE X (wt X cl E) a da) : SE X (wt X cl E) (.UnaryOp .USub a pos) (dNeg da) := pe_imp (pe_un un_neg ha) fun σ H Q h => tG.step h fun ρ δ ρ1 S1 H1 v d N e R r P => by
  cases r with
  | int i => exact ⟨i, rfl, P.now R (.int _)⟩
  | _ => exact P.elim
theorem se_dic0 : SE X (wt X cl E) (.Dict [] [] pos) dDic0 := pe_imp pe_dnewK fun σ H Q ⟨ρ, δ, S, R, N, P⟩ p hp => by
  refine P (ρ ++ [p]) _ _ (Ext.newC hp) (R.newC hp ⟨[], upd_same, .nil⟩) (.cell ?_)
  rw [← R.len, List.getElem?_append_right (Nat.le_refl _), Nat.sub_self]
  rfl
theorem rg_dv {K : PySem.W.Frag} {ρ : List Addr} {H : Hp} : ∀ l : List Nat, DvAll K ρ H (l.map fun i => V.int (0 + (i : Nat))) (l.map fun i => D.int (i : Nat))
  | [] => .nil
  | i :: l => by
    refine .cons ?_ (rg_dv l)
    show Dv K ρ H (.int (0 + ((i : Nat) : Int))) (.int (i : Nat))
    rw [Int.zero_add]
    exact .int _
theorem se_listRg {p2 pos2 : Pos} (hc : X.calm = true) (hgr : Gl X "range") (hmr : X.mg "range" = none) (hg : Gl X "list") (hm : X.mg "list" = none) (ha : SE X (wt X cl E) a da) (na : starEach [a] X.env = (false, eval a X.env) :: starEach [] X.env := by rfl)
    (na2 : starEach [.Call (.Name "range" p2) [a] [] pos2] X.env = (false, eval (.Call (.Name "range" p2) [a] [] pos2) X.env) :: starEach [] X.env := by rfl) : SE X (wt X cl E) (.Call (.Name "list" p) [.Call (.Name "range" p2) [a] [] pos2] [] pos) (dListRg da) :=
  pe_imp (pe_listRg hc hg hm (prg_1 hgr hmr ha na) na2) fun σ H Q h => tG.step h fun ρ δ ρ1 S1 H1 v d N e R r P => by
    cases r with
    | int n =>
      dsimp only at P
      split at P
      · rename_i hn
        have hn' := of_decide_eq_true (p := 0 ≤ n ∧ n ≤ 100000) hn
        refine ⟨n, rfl, RgOk.of_le (by omega) (by omega) (by omega) (by omega), fun q hq => ?_⟩
        refine P (ρ1 ++ [q]) _ _ (Ext.newC hq) (R.newC hq ⟨_, upd_same, ?_⟩) (.cell ?_)
        · unfold rgV
          rw [Int.sub_zero]
          exact rg_dv _
        · rw [← R.len, List.getElem?_append_right (Nat.le_refl _), Nat.sub_self]
          rfl
      · exact P.elim
    | _ => exact P.elim
theorem se_ixC {x : Str} {ys : List Str} (T : TupC X.K X.mg x ys) (hg : Gl X x) (ha : SE X (wt X cl E) a da) (hdb : (x == ("__debug__" : Str)) = false := by decide)
    (hbase : attributeBase (.Name x p) "index" X.env (eval (.Name x p) X.env) = eval (.Name x p) X.env := by rfl)
    (hfew : ((backTo cpos (starEach [a] X.env)).all (fun x => !x.1) && (backToKw cpos (keywordEach [] X.env)).all (fun x => x.1.isSome) && decide ([a].length + ([] : List Keyword).length + (if ([] : List Keyword).isEmpty then 0 else 1) < 30)) = true := by rfl)
    (hline : (apos.endLine == cpos.line) = true := by rfl) (hs : starEach [a] X.env = (false, eval a X.env) :: starEach [] X.env := by rfl) (hplain : (backTo cpos (starEach [] X.env)).any (·.1) = false := by rfl) :
    SE X (wt X cl E) (.Call (.Attribute (.Name x p) "index" apos) [a] [] cpos) (dIxC ys da) := by
  obtain ⟨ad, o, n, its, hm, hk, hc, hd, hs1, hz, hv⟩ := T.ex
  refine pe_imp (pe_bm PySem.F.plainAttrs_tuple PySem.F.slot_tuple_index PySem.F.type_tuple_index mt_tup_index (pe_glob (v := .ref ad) hg hm rfl hdb) (pa_cons ha pa_nil hs) hbase hfew hline hs hplain) fun σ H Q h => ?_
  refine ⟨.inr (.inl ⟨rfl, o, hk, hc, hd⟩), tG.step h fun ρ δ ρ1 S1 H1 v d N e R r P => ?_⟩
  cases r with
  | str z =>
    dsimp only at P
    split at P
    · rename_i j hj
      obtain ⟨h1, h2⟩ := ixStr_some hj
      exact ⟨ad, ys, z, j, rfl, rfl, .inr ⟨o, its, n, hk, hc, hs1, hz, hv⟩, h1, h2, P.now R (.int _)⟩
    · exact P.elim
  | _ => exact P.elim
end
end Dn
set_option Elab.async false
set_option linter.all false
set_option maxRecDepth 100000
set_option maxHeartbeats 1000000
/-! Dn8: the head's facts by names, one more Bool; the law's end over them. -/
noncomputable section
namespace Dn
open PySem PySem.Spec PyProof.Rows L2
abbrev AlM : Type := Bool × He.Al
def obsMK (fa : List He.Fa) (fn : List He.FnD) (ex : PySem.W.Frag → Bool) (K : PySem.W.Frag) : AlM := (ex K, He.obsE fa fn K)
def valM (fn : List He.FnD) : AlM := (true, He.valE fn)
def SaysM (fa : List He.Fa) (fn : List He.FnD) (ex : PySem.W.Frag → Bool) (K : PySem.W.Frag) : Prop := obsMK fa fn ex K = valM fn
def obsM (n : Nat) (fa : List He.Fa) (fn : List He.FnD) (ex : PySem.W.Frag → Bool) (g : Addr → Option Obj) : AlM := obsMK fa fn ex (He.frT g (He.asG g n))
/-- no empty table is known -/
def NoTab (K : PySem.W.Frag) : Prop := ∀ a o, K.lookup a = some o → He.emptyTab o = false
theorem NoTab.none {K : PySem.W.Frag} {h : Heap} (n : NoTab K) (X : K.In h) {P : Addr} (hP : h.get? P = some { cls := .none, data := .fields #[] }) : K.lookup P = Option.none := by
  cases e : K.lookup P with
  | none => rfl
  | some o =>
    have q := X P o e
    rw [hP] at q
    have z := n P o e
    rw [← Option.some.inj q] at z
    cases z
def hookM (n : Nat) (fa : List He.Fa) (fn : List He.FnD) (ex : PySem.W.Frag → Bool) : PySem.W.Hook where
  α := AlM
  obs := fun s => obsM n fa fn ex s.heap.get?
  val := fun _ => valM fn
  says := fun _ h => ∃ K : PySem.W.Frag, K.In h ∧ NoTab K ∧ SaysM fa fn ex K
  of := fun _ _ e => ⟨_, He.frT_in, fun _ _ z => (He.frT_mem z).2, e⟩
  keeps := fun _ _ _ ⟨K, hK, c⟩ k => ⟨K, PySem.W.Frag.In.keeps hK k, c⟩
theorem obsM_eq {n : Nat} {fa : List He.Fa} {fn : List He.FnD} {ex : PySem.W.Frag → Bool} {g : Addr → Option Obj} {s : Shared} (h : ∀ a, g a = s.heap.get? a) : obsM n fa fn ex g = (hookM n fa fn ex).obs s := by
  have e : g = s.heap.get? := funext h
  rw [e] <;> rfl
theorem SaysM.e {fa : List He.Fa} {fn : List He.FnD} {ex : PySem.W.Frag → Bool} {K : PySem.W.Frag} (c : SaysM fa fn ex K) : He.SaysE fa fn K := congrArg (fun z : AlM => z.2) c
theorem SaysM.x {fa : List He.Fa} {fn : List He.FnD} {ex : PySem.W.Frag → Bool} {K : PySem.W.Frag} (c : SaysM fa fn ex K) : ex K = true := congrArg (fun z : AlM => z.1) c
/-- a written tuple of texts at a module's name -/
def relSt : List Str → List Value → Bool
  | [], [] => true
  | x :: xs, .str y _ :: vs => decide (x = y) && relSt xs vs
  | _, _ => false
theorem relSt_ok : ∀ {xs : List Str} {vs : List Value}, relSt xs vs = true → Vals (xs.map V.str) vs
  | [], [], _ => .nil
  | x :: xs, v :: vs, h => by
    cases v with
    | str y t =>
      obtain ⟨h1, h2⟩ := Bool.and_eq_true_iff.mp (show (decide (x = y) && relSt xs vs) = true from h)
      exact .cons ⟨t, by rw [of_decide_eq_true h1]⟩ (relSt_ok h2)
    | _ => cases h
def tcB (K : PySem.W.Frag) (x : Str) (ys : List Str) : Bool := He.eqO (PySem.W.nsIn K mainGlobals x) (some (some (.ref (He.ga K x)))) && match K.lookup (He.ga K x) with
  | some ⟨.type c, none, .seq its _, _⟩ => decide (c = "tuple") && (decide (its.size ≤ sizeLine) && relSt ys its.toList)
  | _ => false
theorem tcB_ok {K : PySem.W.Frag} {h : Heap} {mg : Str → Option Value} (X : K.In h) (G : h.Ns mainGlobals mg) {x : Str} {ys : List Str} (c : tcB K x ys = true) : TupC K mg x ys := by
  obtain ⟨c0, c⟩ := Bool.and_eq_true_iff.mp c
  cases q : K.lookup (He.ga K x) with
  | none =>
    rw [q] at c
    cases c
  | some o =>
    obtain ⟨oc, od, dt, osl⟩ := o
    rw [q] at c
    cases oc with
    | type t =>
      cases od with
      | none =>
        cases dt with
        | seq its n =>
          obtain ⟨h1, h2⟩ := Bool.and_eq_true_iff.mp (show (decide (t = "tuple") && (decide (its.size ≤ sizeLine) && relSt ys its.toList)) = true from c)
          obtain ⟨h3, h4⟩ := Bool.and_eq_true_iff.mp h2
          exact ⟨_, _, n, its, PySem.W.mg_of X G (He.eqO_ok c0), q, congrArg Value.type (of_decide_eq_true h1), rfl, rfl, of_decide_eq_true h3, relSt_ok h4⟩
        | _ => cases c
      | some a => cases dt <;> cases c
    | _ => cases od <;> cases dt <;> cases c
abbrev clG (K : PySem.W.Frag) : Str → Value := fun c => .ref (He.ga K c)
theorem exn_ok {K : PySem.W.Frag} {h : Heap} {mg : Str → Option Value} (X : K.In h) (G : h.Ns mainGlobals mg) {x : Str} (g : (He.Fa.glo x).ok K = true) (e : (He.Fa.exc x).ok K = true) (m : (He.Fa.exm x x true).ok K = true) : Exn K mg (clG K) x := by
  obtain ⟨h1, h2, h3, h4⟩ := He.exc_ok e
  exact ⟨_, He.glo_ok X G g, rfl, h1, h2, h3, h4, He.exm_ok m⟩
/-- the code object and the table of each def that makes lambdas -/
def csOf (K : PySem.W.Frag) : List (Addr × Addr) := lamL.filterMap fun x => PySem.W.tabIn K x
theorem ttof_cs {K : PySem.W.Frag} : ∀ p ∈ TTof K, p.1 ∈ (csOf K).map (·.2) := fun p hp => by
  obtain ⟨x, hx, e⟩ := List.mem_filterMap.mp hp
  cases q : PySem.W.tabIn K x with
  | none =>
    rw [q] at e
    cases e
  | some cP =>
    rw [q] at e
    have e2 : (cP.2, lamQ x) = p := Option.some.inj e
    rw [← e2]
    exact List.mem_map.mpr ⟨cP, List.mem_filterMap.mpr ⟨x, hx, q⟩, rfl⟩
theorem cs_mem {K : PySem.W.Frag} {x : Str} {c P : Addr} (hx : x ∈ lamL) (h : PySem.W.tabIn K x = some (c, P)) : (c, P) ∈ csOf K := List.mem_filterMap.mpr ⟨x, hx, h⟩
/-- the goal that head_any leaves -/
theorem walkGE {l : PySem.W.OpenLaw} {n k : Nat} {q : Program} {loose : List Str} {XP : (Str → Option Value) → Heap → Prop} {YP : World → Heap → Prop} {d : DefRec} {x : Str} {g : DF}
    (hn : l.most = some n) (hn2 : n ≤ sizeLine) (hdf : d.params.defaults = []) (hr : Room k callerA) (hrec : lamL.all (fun x => (recsOf q).any fun e => e.name == x) = true)
    (F : ∀ (w : World) (mg : Str → Option Value) (fa : Addr) (h : Heap), YP w h → h.Ns mainGlobals mg → mg d.name = some (.ref fa) →
      ∃ (K : PySem.W.Frag) (fd : FuncData) (cl : Str → Value), K.In h ∧ NoTab K ∧ (∀ (s : Shared) (u : Value), BindsTo s fd ⟨[u], []⟩ [(x, u)]) ∧ ∀ base : Heap, K.In base → base.Ns mainGlobals mg → (∀ p ∈ csOf K, LamX.TabB base mg p.1 p.2) → RunG l.prog w K mg base cl k fa fd [x] g)
    (hD : ∀ ns : List Int, ns.length ≤ n → ∃ S', g [.ro (ns.map .int)] [] = .ok (.bl true) S') : PySem.W.WalkO q loose XP YP l.row.toRowW d [] (fun f vs => PySem.call f vs) := by
  refine Att.attach_call hn hdf fun w s₀ s₁ mg mb fa o pm cd doc a vs ns G Y ho hd hcd hmg hobj hints hlen hg => ?_
  obtain ⟨K, fd, cl, KX, nt, hb, hF⟩ := F w mg fa _ Y G.T.g hmg
  have tb : ∀ p ∈ csOf K, PySem.W.CodeHd s₁.heap p.1 p.2 ∧ s₁.heap.get? p.2 = some (PySem.W.tabObj #[]) := fun p hp => by
    obtain ⟨x, hx, e⟩ := List.mem_filterMap.mp hp
    obtain ⟨dr, hdr, e2⟩ := List.any_eq_true.mp (List.all_eq_true.mp hrec x hx)
    cases q : (recsOf q).find? (fun e => e.name == x) with
    | none =>
      rw [List.find?_eq_none] at q
      exact absurd e2 (q dr hdr)
    | some d2 => exact PySem.W.tab_of G.T KX q e
  exact lawG KX G.T.g G.T.b G.T.builtins G.T.nolimit hg (fun p hp => (tb p hp).2) (fun p hp => nt.none KX (tb p hp).2) (fun p hp => (tb p hp).1) ttof_cs G.T.bmain hobj hints (Nat.le_trans hlen hn2) hr hF hb (hD ns hlen)
end Dn
set_option Elab.async false
set_option linter.all false
set_option maxRecDepth 100000
set_option maxHeartbeats 1000000
/-! Dn9: while, whatever is walked, range values, dicts with tuple keys, order of tuples, zip, .. -/
noncomputable section
namespace Dn
open PySem PySem.Spec PyProof.Rows L2

/-! ### while -/
def Wf : Nat := (Classical.choice (⟨⟨1000000, rfl⟩⟩ : Nonempty { n : Nat // n = 1000000 })).1
theorem Wf_eq : Wf = 1000000 := (Classical.choice (⟨⟨1000000, rfl⟩⟩ : Nonempty { n : Nat // n = 1000000 })).2
def dWhl (t : DT) (b : DS) : Nat → DS
  | 0 => fun _ _ => .bad
  | f + 1 => fun δ S => thenS (t δ S) fun k S1 => if k = true then loopEnd (b δ S1) (dWhl t b f) else .nx δ S1
def dWhile (t : DT) (b : DS) : DS := dWhl t b Wf
theorem tWhile_of {W : Wt} {t : DT} {b : DS} {D : Ends} {σ : L2.St} {H : Hp} (h : tS W (dWhile t b) D σ H) : tWhile (tT W t) (tS W b) D σ H := by
  obtain ⟨ρ, δ, S, R, N, P⟩ := h
  refine ⟨fun m σ H => ∃ ρ δ S, Rep W.K ρ H S ∧ EnvR W.K ρ H σ δ ∧ PostS W ρ H (dWhl t b m δ S) D, ⟨Wf, ρ, δ, S, R, N, P⟩, ?_⟩
  clear R N P
  rintro m σ H ⟨ρ, δ, S, R, N, P⟩
  cases m with
  | zero => exact P.elim
  | succ m =>
    refine ⟨ρ, δ, S, R, N, PostS.res (Rl := rlB) P fun ρ1 H1 v k S1 e1 R1 r1 P1 => ?_⟩
    have r1' : v = k := r1
    subst r1'
    cases v with
    | false => exact P1 ρ1 H1 σ (Ext.refl _ _) R1 (N.mono e1)
    | true =>
      refine ⟨fun σ' H' => ∃ ρ δ S, Rep W.K ρ H' S ∧ EnvR W.K ρ H' σ' δ ∧ PostS W ρ H' (dWhl t b m δ S) D, fun σ' H' q => ⟨m, Nat.lt_succ_self m, q⟩, ρ1, δ, S1, R1, N.mono e1, ?_⟩
      have P2 : PostS W ρ1 H1 (loopEnd (b δ S1) (dWhl t b m)) D := P1
      cases hb : b δ S1 with
      | nx δ2 S2 =>
        rw [hb] at P2
        exact fun ρ3 H3 σ3 e3 R3 N3 => ⟨ρ3, δ2, S2, R3, N3, PostS.base e3 P2⟩
      | ct δ2 S2 =>
        rw [hb] at P2
        exact fun ρ3 H3 σ3 e3 R3 N3 => ⟨ρ3, δ2, S2, R3, N3, PostS.base e3 P2⟩
      | bk δ2 S2 => rw [hb] at P2; exact P2
      | rt d2 S2 => rw [hb] at P2; exact P2
      | exc c2 S2 => rw [hb] at P2; exact P2
      | bad => rw [hb] at P2; exact P2
theorem ss_while {X : Cx} {cl : Str → Value} {E : XK} {c : Expr} {bs : List Stmt} {t : DT} {b : DS} {pos : Pos} (hp : PassesOwn (model X.prog X.w) X.A X.env X.xe) (hc : ST X (wt X cl E) c t) (hb : SB X (wt X cl E) bs b) : SS X (wt X cl E) (.While c bs [] pos) (dWhile t b) :=
  ps_imp (ps_while hp hc hb) fun D σ H h => tWhile_of h

/-! ### what is walked: a list, a tuple, a range -/
theorem pi_or {X : Cx} {tg e : Expr} {t t' : TI} (h : PI X tg e t) (h' : PI X tg e t') : PI X tg e (fun σ H R => t σ H R ∨ t' σ H R) := ⟨fun pins s σ H R I q => by
  rcases q with q | q
  · exact h.run pins s σ H R I q
  · exact h'.run pins s σ H R I q⟩
def isR : D → Bool
  | .rng i j => inRng i && inRng j
  | _ => false
def srcR (a : DE) : DSrc := fun δ S => (a δ S).bnd fun d S1 => match d with
  | .rng i j => if (inRng i && inRng j) = true then .ok (.rng i j) S1 else .bad
  | _ => .bad
def srcA (a : DE) : DSrc := fun δ S => (a δ S).bnd fun d S1 => match d with
  | .rng i j => if (inRng i && inRng j) = true then .ok (.rng i j) S1 else .bad
  | d => if (isL S1 d || isT d) = true then .ok (.seq d) S1 else .bad
def enA (a : DA) : DSrc := fun δ S => (a δ S).bnd fun ds S1 => match ds with
  | [d] => if (isL S1 d || isT d) = true then .ok (.en d) S1 else .bad
  | _ => .bad
section
variable {X : Cx} {cl : Str → Value} {E : XK} {tg e : Expr} {de : DE} {da : DA} {p pos tpos : Pos} {te : TE}
def iRngV (te : TE) : TI := fun σ H R => te σ H fun v H1 => ∃ (a : Addr) (i j : Int), v = .ref a ∧ H1 a = some (.rng i j) ∧ (-(2 ^ 62) ≤ i ∧ i < 2 ^ 62 ∧ -(2 ^ 62) ≤ j ∧ j < 2 ^ 62) ∧ R (Itr i (j - i).toNat) H1
theorem pi_rngV (h : PE X e te) : PI X tg e (iRngV te) := by
  refine ⟨fun pins s σ H R I h' => thn (h.run pins s σ H _ I h') fun v s1 ⟨x, H1, I1, r1, q1⟩ => ?_⟩
  obtain ⟨a, lo, hi, rfl, ha, ⟨b1, b2, b3, b4⟩, q⟩ := q1
  cases r1
  obtain ⟨t, u, z, ho⟩ := I1.hok a _ ha
  refine wpAny_pyIter_range (a := lo) (b := hi) (c := 1) (t := t) (u := u) (v := z) ho (small_one b1 b2 b3 b4) ?_
  refine ⟨s1.heap.objs.size, [s1.heap.objs.size], _, _, H1, rfl, I1.kept (t' := s1.toks) fun b o e => Heap.get?_push_of_some _ e, turn_range _ lo (hi - lo).toNat, ?_, fun b hb => ?_, q⟩
  · have e1 : lo + ((0 : Nat) : Int) * 1 = lo := by simp
    have e2 : (((hi - lo).toNat : Nat) : Int) - ((0 : Nat) : Int) = Builtin.Range.rangeSize lo hi 1 := by rw [rangeSize_one]; split <;> omega
    show IsRangeIter _ _ (lo + ((0 : Nat) : Int) * 1) ((((hi - lo).toNat : Nat) : Int) - ((0 : Nat) : Int)) 1
    rw [e1, e2]
    exact Heap.get?_push_size _ rfl
  · rw [List.mem_singleton.mp hb]
    exact I1.fpOk (Nat.le_refl _) (I1.hok.fresh (Nat.le_refl _))
theorem Dv.rngI {K : PySem.W.Frag} {ρ : List Addr} {H : Hp} {v : V} {i j : Int} (h : Dv K ρ H v (.rng i j)) : ∃ a, v = .ref a ∧ H a = some (.rng i j) := by
  cases h with
  | rng q => exact ⟨_, rfl, q⟩
theorem so_rngV (h : SE X (wt X cl E) e de) : PI X tg e (tSrc (wt X cl E) (srcR de)) := pi_imp (pi_rngV h) fun σ H R h => tG.step h fun ρ δ ρ1 S1 H1 v d N e R1 r P => by
  split at P
  · rename_i i j
    split at P
    · rename_i hl
      rw [Bool.and_eq_true] at hl
      have b1 := inRng_bd hl.1
      have b2 := inRng_bd hl.2
      obtain ⟨a, rfl, ha⟩ := r.rngI
      exact ⟨a, i, j, rfl, ha, ⟨b1.1, b1.2, b2.1, b2.2⟩, Post.now (Rl := fun ρ H J s => SrcR X.K ρ H J s) P R1 (src_rng i j)⟩
    · exact P.elim
  · exact P.elim
theorem so_any (h : SE X (wt X cl E) e de) : PI X tg e (tSrc (wt X cl E) (srcA de)) := pi_imp (pi_or (so_list h) (pi_or (so_tup h) (so_rngV h))) fun σ H R ⟨ρ, δ, S, R1, N, P⟩ => by
  cases hd : de δ S with
  | ok d S1 =>
    unfold srcA at P
    rw [hd] at P
    dsimp only [bnd_ok] at P
    split at P
    · refine .inr (.inr ⟨ρ, δ, S, R1, N, ?_⟩)
      unfold srcR
      rw [hd]
      exact P
    · split at P
      · rename_i hl
        rw [Bool.or_eq_true] at hl
        by_cases h1 : isL S1 d = true
        · refine .inl ⟨ρ, δ, S, R1, N, ?_⟩
          unfold srcL
          rw [hd]
          simp only [bnd_ok, h1, if_true]
          exact P
        · have h2 := hl.resolve_left h1
          refine .inr (.inl ⟨ρ, δ, S, R1, N, ?_⟩)
          unfold srcT
          rw [hd]
          simp only [bnd_ok, h2, if_true]
          exact P
      · exact P.elim
  | exc c S1 =>
    refine .inl ⟨ρ, δ, S, R1, N, ?_⟩
    unfold srcA at P
    rw [hd] at P
    unfold srcL
    rw [hd]
    exact P
  | bad =>
    unfold srcA at P
    rw [hd] at P
    exact P.elim
theorem so_enumA {elts : List Expr} {kk : Nat} (hg : Gl X "enumerate") (hm : X.mg "enumerate" = none) (ha : SA X (wt X cl E) [e] da) (hs : starEach [e] X.env = [(false, eval e X.env)] := by rfl) :
    PI X (.Tuple elts kk tpos) (.Call (.Name "enumerate" p) [e] [] pos) (tSrc (wt X cl E) (enA da)) := pi_imp (pi_or (so_enumL hg hm ha hs) (so_enumT hg hm ha hs)) fun σ H R ⟨ρ, δ, S, R1, N, P⟩ => by
  cases hd : da δ S with
  | ok ds S1 =>
    unfold enA at P
    rw [hd] at P
    dsimp only [bnd_ok] at P
    split at P
    · rename_i d
      split at P
      · rename_i hl
        rw [Bool.or_eq_true] at hl
        by_cases h1 : isL S1 d = true
        · refine .inl ⟨ρ, δ, S, R1, N, ?_⟩
          unfold enL
          rw [hd]
          simp only [bnd_ok, h1, if_true]
          exact P
        · have h2 := hl.resolve_left h1
          refine .inr ⟨ρ, δ, S, R1, N, ?_⟩
          unfold enT
          rw [hd]
          simp only [bnd_ok, h2, if_true]
          exact P
      · exact P.elim
    · exact P.elim
  | exc c S1 =>
    refine .inl ⟨ρ, δ, S, R1, N, ?_⟩
    unfold enA at P
    rw [hd] at P
    unfold enL
    rw [hd]
    exact P
  | bad =>
    unfold enA at P
    rw [hd] at P
    exact P.elim
end
/-! ### zip -/
section
variable {K : PySem.W.Frag} {ρ : List Addr} {H : Hp} {S : Sto}
theorem pairD2 {R : Rep K ρ H S} {T : Addr} {x y : V} {d e : D} (hT : H T = none) (r : Dv K ρ H x d) (q : Dv K ρ H y e) : Ext ρ H ρ (upd H T (.tup [x, y])) ∧ Rep K ρ (upd H T (.tup [x, y])) S ∧ Dv K ρ (upd H T (.tup [x, y])) (.ref T) (.tup [d, e]) :=
  ⟨Ext.new hT, R.new hT, .tup (.inl (.inl upd_same)) (.cons (r.mono (Ext.new hT)) (.cons (q.mono (Ext.new hT)) .nil))⟩
theorem zp_len {d e : D} {n : Nat} (h : (Src.zp d e).len S = some n) : ∃ xs ys, items S d = some xs ∧ items S e = some ys ∧ n = min xs.length ys.length := by
  obtain ⟨xs, h1, h2⟩ := Option.bind_eq_some_iff.mp (show (items S d).bind _ = some n from h)
  obtain ⟨ys, h3, h4⟩ := Option.map_eq_some_iff.mp h2
  exact ⟨xs, ys, h1, h3, h4.symm⟩
theorem src_zpT {v u : V} {d e : D} {a b : Addr} (hv : v = .ref a) (hu : u = .ref b) (r : Dv K ρ H v d) (q : Dv K ρ H u e) (h1 : isT d = true) (h2 : isT e = true) : SrcR K ρ H (RZ.ItzT K a b) (.zp d e) := fun ρ1 H1 S1 ex R n hn => by
  obtain ⟨ds, es, i1, i2, rfl⟩ := zp_len hn
  cases d with
  | tup ds' =>
    cases e with
    | tup es' =>
      cases i1
      cases i2
      obtain ⟨a', xs, ha, sq, vs⟩ := (r.mono ex).tupI
      obtain ⟨b', ys, hb, sq2, us⟩ := (q.mono ex).tupI
      rw [hv] at ha
      rw [hu] at hb
      cases ha
      cases hb
      refine ⟨fun i hi => ⟨xs, ys, xs[i]'(by rw [vs.length]; omega), ys[i]'(by rw [us.length]; omega), sq, sq2, List.getElem?_eq_getElem _, List.getElem?_eq_getElem _⟩, fun i hi => ⟨xs, ys, sq, sq2, by rw [vs.length, us.length]; omega⟩, fun i x H' hi y => ?_⟩
      obtain ⟨T, x1, y1, hx, hT, hH, g1, g2⟩ := y
      obtain ⟨dx, k1, k2⟩ := vs.getV (g1 xs sq)
      obtain ⟨dy, k3, k4⟩ := us.getV (g2 ys sq2)
      obtain ⟨z1, z2, z3⟩ := pairD2 (R := R) hT k2 k4
      subst hH hx
      refine ⟨.tup [dx, dy], ?_, z1, z2, z3⟩
      simp only [Src.item, items, Option.bind_some, k1, k3, Option.map_some]
    | _ => cases h2
  | _ => cases h1
theorem src_zpL {v u : V} {d e : D} {a b : Addr} (hv : v = .ref a) (hu : u = .ref b) (r : Dv K ρ H v d) (q : Dv K ρ H u e) (h1 : isT d = false) (h2 : isT e = false) : SrcR K ρ H (Itz K a b) (.zp d e) := fun ρ1 H1 S1 ex R n hn => by
  obtain ⟨ds, es, i1, i2, rfl⟩ := zp_len hn
  obtain ⟨a', xs, ha, sq, vs⟩ := (r.mono ex).listI R h1 i1
  obtain ⟨b', ys, hb, sq2, us⟩ := (q.mono ex).listI R h2 i2
  rw [hv] at ha
  rw [hu] at hb
  cases ha
  cases hb
  refine ⟨fun i hi => ⟨xs, ys, xs[i]'(by rw [vs.length]; omega), ys[i]'(by rw [us.length]; omega), sq, sq2, List.getElem?_eq_getElem _, List.getElem?_eq_getElem _⟩, fun i hi => ⟨xs, ys, sq, sq2, by rw [vs.length, us.length]; omega⟩, fun i x H' hi y => ?_⟩
  obtain ⟨T, x1, y1, hx, hT, hH, g1, g2⟩ := y
  obtain ⟨dx, k1, k2⟩ := vs.getV (g1 xs sq)
  obtain ⟨dy, k3, k4⟩ := us.getV (g2 ys sq2)
  obtain ⟨z1, z2, z3⟩ := pairD2 (R := R) hT k2 k4
  subst hH hx
  refine ⟨.tup [dx, dy], ?_, z1, z2, z3⟩
  simp only [Src.item, i1, i2, Option.bind_some, k1, k3, Option.map_some]
end
def srcZ (a : DA) : DSrc := fun δ S => (a δ S).bnd fun ds S1 => match ds with
  | [d, e] => if ((isT d && isT e) || (isL S1 d && isL S1 e)) = true then .ok (.zp d e) S1 else .bad
  | _ => .bad
section
variable {X : Cx} {cl : Str → Value} {E : XK} {tg e e2 a : Expr} {de dv : DE} {da : DA} {p pos tpos : Pos} {te : TE}
theorem so_zip {elts : List Expr} {kk : Nat} (hg : Gl X "zip") (hm : X.mg "zip" = none) (ha : SA X (wt X cl E) [e, e2] da)
    (hs : starEach [e, e2] X.env = (false, eval e X.env) :: starEach [e2] X.env := by rfl) (hpl : (backTo pos (starEach [e2] X.env)).any (·.1) = false := by rfl) :
    PI X (.Tuple elts kk tpos) (.Call (.Name "zip" p) [e, e2] [] pos) (tSrc (wt X cl E) (srcZ da)) := pi_imp (RZ.pi_zipA hg hm ha hs hpl) fun σ H R h => tG.step h fun ρ δ ρ1 S1 H1 v d N e R1 r P => by
  split at P
  · rename_i d e
    split at P
    · rename_i hl
      obtain ⟨w1, w2, rfl, r1, r2⟩ := two_of r
      rw [Bool.or_eq_true, Bool.and_eq_true, Bool.and_eq_true] at hl
      rcases hl with ⟨h1, h2⟩ | ⟨h1, h2⟩
      · cases d with
        | tup ds =>
          cases e with
          | tup es =>
            obtain ⟨a, xs, rfl, sq, vs⟩ := r1.tupI
            obtain ⟨b, ys, rfl, sq2, us⟩ := r2.tupI
            exact ⟨a, b, xs, ys, rfl, .inr ⟨sq, sq2, Post.now (Rl := fun ρ H J s => SrcR X.K ρ H J s) P R1 (src_zpT rfl rfl r1 r2 h1 h2)⟩⟩
          | _ => cases h2
        | _ => cases h1
      · obtain ⟨ds, i1⟩ := isL_items h1
        obtain ⟨es, i2⟩ := isL_items h2
        obtain ⟨a, xs, rfl, sq, vs⟩ := r1.listI R1 (isL_not h1) i1
        obtain ⟨b, ys, rfl, sq2, us⟩ := r2.listI R1 (isL_not h2) i2
        exact ⟨a, b, xs, ys, rfl, .inl ⟨sq, sq2, Post.now (Rl := fun ρ H J s => SrcR X.K ρ H J s) P R1 (src_zpL rfl rfl r1 r2 (isL_not h1) (isL_not h2))⟩⟩
    · exact P.elim
  · exact P.elim
/-! ### a range's value, a written tuple of texts -/
def bRange : DF := fun ds S => match ds with
  | [.int j] => .ok (.rng 0 j) S
  | [.int i, .int j] => .ok (.rng i j) S
  | _ => .bad
theorem cr_range1 : CallR X (.type "range") (fun vs H Q => ∃ j, vs = [V.int j] ∧ ∀ p, H p = none → Q (.ref p) (upd H p (.rng 0 j))) := by
  intro pins s σ H vs us Q I r h
  obtain ⟨j, rfl, q⟩ := h
  obtain ⟨u, rfl, ru⟩ := r.one
  obtain ⟨t, rfl⟩ := ru
  exact call_range_1 ⟨.ref s.heap.objs.size, upd H s.heap.objs.size (.rng 0 j), I.laid (t' := s.toks + 1 + 1) (fun b o e => Heap.get?_push_of_some _ e) (Nat.le_refl _) ⟨s.toks, t, s.toks + 1, Heap.get?_push_size _ rfl⟩, rfl, q _ (I.hok.fresh (Nat.le_refl _))⟩
theorem cd_range : CallD X cl E (.type "range") bRange := cr_imp (CallR.or cr_range1 cr_range2) fun xs H Q ⟨ρ, S, ds, R, rs, P⟩ => by
  unfold bRange at P
  split at P
  · rename_i j
    obtain ⟨w, rfl, r⟩ := one_of rs
    exact .inl ⟨j, by rw [r.intI], fun p hp => P ρ _ _ (Ext.new hp) (R.new hp) (.rng upd_same)⟩
  · rename_i i j
    obtain ⟨w, w2, rfl, r, r2⟩ := two_of rs
    exact .inr ⟨i, j, by rw [r.intI, r2.intI], fun p hp => P ρ _ _ (Ext.new hp) (R.new hp) (.rng upd_same)⟩
  · exact P.elim
theorem strs_dv {K : PySem.W.Frag} {ρ : List Addr} {H : Hp} : ∀ ys : List Str, DvAll K ρ H (ys.map V.str) (ys.map D.str)
  | [] => .nil
  | y :: ys => .cons (.str y) (strs_dv ys)
theorem se_tupC {x : Str} {ys : List Str} (T : TupC X.K X.mg x ys) (hg : Gl X x) (hdb : (x == ("__debug__" : Str)) = false := by decide) : SE X (wt X cl E) (.Name x p) (dC (.tup (ys.map .str))) := by
  obtain ⟨ad, o, n, its, hm, hk, hc, hd, hs1, hz, hv⟩ := T.ex
  exact se_c (pe_glob (v := .ref ad) hg hm rfl hdb) fun ρ H => .tup (.inr ⟨o, its, n, hk, hc, hs1, hz, hv⟩) (strs_dv ys)
/-! ### dicts with tuple keys: {}, {k: v} -/
def dDik0 : DE := fun _ S => .ok (.cell S.length) (S ++ [.dik []])
theorem se_dik0 : SE X (wt X cl E) (.Dict [] [] pos) dDik0 := pe_imp pe_dik0 fun σ H Q ⟨ρ, δ, S, R, N, P⟩ p hp => by
  refine P (ρ ++ [p]) _ _ (Ext.newC hp) (R.newC hp ⟨[], upd_same, .nil⟩) (.cell ?_)
  rw [← R.len, List.getElem?_append_right (Nat.le_refl _), Nat.sub_self]
  rfl
def dDik1 (k v : DE) : DE := fun δ S => (k δ (S ++ [.dik []])).bnd fun x S1 => (v δ S1).bnd fun y S2 => match S2[S.length]?, keyT x with
  | some (.dik []), some kk => .ok (.cell S.length) (S2.set S.length (.dik [(kk, y)]))
  | _, _ => .bad
theorem se_dik1 (hu : X.A.units + 64 < cLine) (hk : SE X (wt X cl E) a de) (hv : SE X (wt X cl E) e dv) : SE X (wt X cl E) (.Dict [some a] [e] pos) (dDik1 de dv) := pe_imp (pe_dik1 hu hk hv) fun σ H Q ⟨ρ, δ, S, R, N, P⟩ p hp => by
  have e1 : Ext ρ H (ρ ++ [p]) (upd H p (DkO p [])) := Ext.newC hp
  have R1 : Rep X.K (ρ ++ [p]) (upd H p (DkO p [])) (S ++ [.dik []]) := R.newC hp ⟨[], upd_same, .nil⟩
  have hc : (ρ ++ [p])[S.length]? = some p := by
    rw [← R.len, List.getElem?_append_right (Nat.le_refl _), Nat.sub_self]
    rfl
  have P1 : Post (wt X cl E) (Dv X.K) (ρ ++ [p]) (upd H p (DkO p [])) (dDik1 de dv δ S) Q := Post.base e1 P
  refine ⟨ρ ++ [p], δ, S ++ [.dik []], R1, N.mono e1, (Post.bnd P1).imp fun x H2 ⟨ρ2, S2, dx, e2, R2, r2, P2⟩ => ⟨ρ2, δ, S2, R2, (N.mono e1).mono e2, (Post.bnd P2).imp fun y H3 ⟨ρ3, S3, dy, e3, R3, r3, P3⟩ => ?_⟩⟩
  dsimp only at P3
  split at P3
  · rename_i kk h1 h2
    have hc3 := e3.pre _ _ (e2.pre _ _ hc)
    obtain ⟨kz, g1, g2⟩ := R3.at _ p _ hc3 h1
    cases g2
    obtain ⟨ds, rfl, k1, k2, k3⟩ := keyT_tup h2
    have r4 := r2.mono e3
    obtain ⟨b, us, rfl, _⟩ := r4.tupI
    refine ⟨g1, b, kk, rfl, r4.nk k1, k2, k3, ?_⟩
    have ew : Ext ρ3 H3 ρ3 (upd H3 p (DkO p [(kk, b, y)])) := R3.ext_write hc3
    exact P3 ρ3 _ _ ew (R3.write (c := .dik [(kk, dy)]) hc3 ⟨_, upd_same, .cons (r4.mono ew) k1 k2 k3 (r3.mono ew) .nil⟩) (.cell hc3)
  · exact P3.elim
/-! ### order of tuples of whole numbers -/
def lexGt : List Int → List Int → Bool
  | [], _ => false
  | _ :: _, [] => true
  | x :: xs, y :: ys => if x = y then lexGt xs ys else decide (y < x)
theorem lexAt_shift {e r e' r' : Nat → Bool} {z : Bool} (h1 : ∀ i, e (i + 1) = e' i) (h2 : ∀ i, r (i + 1) = r' i) : ∀ k i, Ob.lexAt e r z (i + 1) k = Ob.lexAt e' r' z i k
  | 0, _ => rfl
  | k + 1, i => by
    rw [Ob.lexAt_succ, Ob.lexAt_succ, h1, h2, lexAt_shift h1 h2 k (i + 1)]
theorem lexAt_gt : ∀ ns ms : List Int, Ob.lexAt (fun j => decide (ns.getD j 0 = ms.getD j 0)) (fun j => decide (ms.getD j 0 < ns.getD j 0)) (decide (ns.length > ms.length)) 0 (min ns.length ms.length) = lexGt ns ms
  | [], ms => by simp [lexGt, Ob.lexAt_zero]
  | n :: ns, [] => by simp [lexGt, Ob.lexAt_zero]
  | n :: ns, m :: ms => by
    have e : min (n :: ns).length (m :: ms).length = min ns.length ms.length + 1 := by simp only [List.length_cons]; omega
    rw [e, Ob.lexAt_succ, lexAt_shift (e' := fun j => decide (ns.getD j 0 = ms.getD j 0)) (r' := fun j => decide (ms.getD j 0 < ns.getD j 0)) (fun i => by simp) (fun i => by simp)]
    have z : (decide ((n :: ns).length > (m :: ms).length)) = decide (ns.length > ms.length) := by simp
    rw [z, lexAt_gt ns ms]
    show _ = if n = m then lexGt ns ms else decide (m < n)
    by_cases h : n = m <;> simp [h]
def rGtT (K : PySem.W.Frag) : R2 := fun x y H Q => ∃ (a b : Addr) (ns ms : List Int), x = .ref a ∧ y = .ref b ∧ SqT K H a (ns.map V.int) ∧ SqT K H b (ms.map V.int) ∧ Q (.bl (lexGt ns ms)) H
theorem op_gtT (hu : X.A.units < cLine) : OpR X (compareOp .Gt) (rGtT X.K) := by
  intro pins s σ H x y v u Q I rx ry h
  obtain ⟨a, b, ns, ms, rfl, rfl, ha, hb, q⟩ := h
  cases rx
  cases ry
  obtain ⟨its, r1, p1, _⟩ := I.tuple ha
  obtain ⟨its2, r2, p2, _⟩ := I.tuple hb
  have i1 : IntsAre its ns := Vals.ints r1
  have i2 : IntsAre its2 ms := Vals.ints r2
  have e1 : its.toArray.size = ns.length := i1.length
  have e2 : its2.toArray.size = ms.length := i2.length
  have at1 : ∀ j (h1 : j < its.toArray.size), ∃ t, its.toArray[j] = .int (ns.getD j 0) t := fun j h1 => PyProof.Rows.IntsAre.int_at i1 _ _ (by simp at h1; simp [h1])
  have at2 : ∀ j (h1 : j < its2.toArray.size), ∃ t, its2.toArray[j] = .int (ms.getD j 0) t := fun j h1 => PyProof.Rows.IntsAre.int_at i2 _ _ (by simp at h1; simp [h1])
  have R := Ob.RcOp.tuples_gt (A := X.A) (s := s) (e := fun j => decide (ns.getD j 0 = ms.getD j 0)) (r := fun j => decide (ms.getD j 0 < ns.getD j 0)) p1 p2 hu (fun j h1 h2 => by
    obtain ⟨t, et⟩ := at1 j h1
    obtain ⟨t', et'⟩ := at2 j h2
    rw [et, et']
    have z : (ns.getD j 0 == ms.getD j 0) = decide (ns.getD j 0 = ms.getD j 0) := by
      generalize ns.getD j 0 = p
      generalize ms.getD j 0 = q
      by_cases h : p = q <;> simp [h]
    rw [← z]
    exact SeqAt.EqAt.int_int _ _ _ _) (fun j h1 h2 _ => by
    obtain ⟨t, et⟩ := at1 j h1
    obtain ⟨t', et'⟩ := at2 j h2
    rw [et, et']
    exact Ob.RcOp.gt_int _ _ _ _)
  rw [e1, e2, lexAt_gt] at R
  exact R X.prog X.w X.xe (EP X pins σ Q) ⟨.bl _, H, I, rfl, q⟩
def opGtT (x y : D) (S : Sto) : Res D := match x, y with
  | .tup xs, .tup ys => match intsOf xs, intsOf ys with
    | some ns, some ms => .ok (.bl (lexGt ns ms)) S
    | _, _ => .bad
  | _, _ => .bad
theorem od_gtT (hu : X.A.units + 64 < cLine) : OpD X (wt X cl E) (compareOp .Gt) opGtT := OpR.imp (op_gtT (by omega)) fun x y H Q ⟨ρ, S, d, e, R, r1, r2, P⟩ => by
  unfold opGtT at P
  split at P
  · split at P
    · rename_i ns ms h1 h2
      obtain ⟨a, us, rfl, s1, v1⟩ := r1.tupI
      obtain ⟨b, ws, rfl, s2, v2⟩ := r2.tupI
      rw [ints_dv v1 h1] at s1
      rw [ints_dv v2 h2] at s2
      exact ⟨a, b, ns, ms, rfl, rfl, s1, s2, P.now R (.bl _)⟩
    · exact P.elim
  · exact P.elim
/-! ### any, min -/
def bAny : DF := fun ds S => match ds with
  | [d] => if isL S d = true then match (items S d).bind blsOf with
      | some bs => .ok (.bl (bs.any id)) S
      | none => .bad
    else .bad
  | _ => .bad
def bMin : DF := fun ds S => match ds with
  | [.int i, .int j] => .ok (.int (if j < i then j else i)) S
  | _ => .bad
theorem cd_any (hc : X.calm = true) : CallD X cl E (.builtin "any") bAny := cr_imp (cr_any hc) fun xs H Q ⟨ρ, S, ds, R, rs, P⟩ => by
  unfold bAny at P
  split at P
  · split at P
    · rename_i hl
      split at P
      · rename_i bs hb
        obtain ⟨zs, h1, h2⟩ := Option.bind_eq_some_iff.mp hb
        obtain ⟨w, rfl, r⟩ := one_of rs
        obtain ⟨a, us, rfl, sq, vs⟩ := r.listI R (isL_not hl) h1
        rw [bls_dv vs h2] at sq
        exact ⟨a, bs, rfl, sq, P.now R (.bl _)⟩
      · exact P.elim
    · exact P.elim
  · exact P.elim
theorem cd_min (hc : X.calm = true) : CallD X cl E (.builtin "min") bMin := cr_imp (call_min2 hc) fun xs H Q ⟨ρ, S, ds, R, rs, P⟩ => by
  unfold bMin at P
  split at P
  · rename_i i j
    obtain ⟨w, w2, rfl, r, r2⟩ := two_of rs
    exact ⟨i, j, by rw [r.intI, r2.intI], P.now R (.int _)⟩
  · exact P.elim
end
end Dn
set_option Elab.async false
set_option linter.all false
set_option maxRecDepth 100000
set_option maxHeartbeats 2000000
/-! Dn10: max(xs, key=lambda y: ..): the lambda's context, a key's call, the walk. -/
noncomputable section
namespace Dn
open PySem PySem.Spec PyProof.Rows L2

/-! ### the lambda's names: one parameter, captured ones, globals -/
structure LamS1 (sc scope : Scope) (y : Str) : Prop where
  kind : scope.kind = .function
  co : scope.isCoroutine = false
  gen : scope.isGenerator = false
  par : scope.names.lookup y = some .local
  own : ∀ z ∈ scope.names, z.2 = .local → z.1 = y
  noc : ∀ z ∈ scope.names, z.2 ≠ .cell
  free : ∀ z ∈ scope.names, z.2 = .free → sc.names.lookup z.1 = some .cell ∨ sc.names.lookup z.1 = some .free
def lamS1B (sc scope : Scope) (y : Str) : Bool :=
  decide (scope.kind = .function) && !scope.isCoroutine && !scope.isGenerator && decide (scope.names.lookup y = some .local) && scope.names.all fun z => (!decide (z.2 = .local) || decide (z.1 = y)) && !decide (z.2 = .cell) && (!decide (z.2 = .free) || decide (sc.names.lookup z.1 = some .cell) || decide (sc.names.lookup z.1 = some .free))
theorem lamS1_by {sc scope : Scope} {y : Str} (h : lamS1B sc scope y = true) : LamS1 sc scope y := by
  unfold lamS1B at h
  simp only [Bool.and_eq_true, Bool.or_eq_true, Bool.not_eq_true', decide_eq_true_eq, decide_eq_false_iff_not, List.all_eq_true] at h
  obtain ⟨⟨⟨⟨h1, h2⟩, h3⟩, h4⟩, h5⟩ := h
  refine ⟨h1, h2, h3, h4, fun z hz e => ?_, fun z hz => (h5 z hz).1.2, fun z hz e => ?_⟩
  · rcases (h5 z hz).1.1 with q | q
    · exact absurd e q
    · exact q
  · rcases (h5 z hz).2 with (q | q) | q
    · exact absurd e q
    · exact .inl q
    · exact .inr q
/-- the context of the lambda's body -/
def lamCx1 (X : Cx) (A : Around) (outer : List Env) (s : Shared) (H : Hp) (E : XK) (scope : Scope) (f c' : Addr) (y : Str) : Cx := { LamX.lamCx X A outer s H E scope f c' with N := y :: X.N }
section
variable {X : Cx} {pins : List (Addr × Obj)} {σ : L2.St} {H HZ : Hp} {s s1 : Shared} {scope : Scope} {f c' : Addr} {y : Str}
theorem LamS1.has (L : LamS1 X.env.scope scope y) (ok : X.Ok) : ∀ z ∈ scope.names, z.2 = .free → ∃ c, X.env.cells.lookup z.1 = some c := fun z hz e => by
  rcases L.free z hz e with k | k
  · exact ok.has _ (.inl k)
  · exact ok.has _ (.inr k)
theorem lam_start1 {A : Around} {outer : List Env} {E : XK} {h₁ : Heap} {tk : Nat} {x : V} {u : Value} (I : Inv X pins σ H s1) (L : LamS1 X.env.scope scope y) (hy : y ∉ X.N) (e0 : Env0 X.prog X.w X.K X.mg X.base A outer s1 HZ) (hd : A.handled = none) (hz : ∀ b, H b = none → HZ b = none)
    (rx : RelV x u) (hns : h₁.Ns s1.heap.objs.size fun z => [(y, u)].reverse.lookup z) (kp : ∀ b o, s1.heap.get? b = some o → h₁.get? b = some o) :
    Inv (lamCx1 X A outer s1 HZ E scope f c' y) [] (some x :: σ) HZ { s1 with heap := h₁, toks := tk } := by
  have hfree := L.has I.ok
  have cm : ∀ {z c}, (cloFrom X.env.cells scope.names []).lookup z = some c → X.env.cells.lookup z = some c := fun {z c} e => by
    rcases cloFrom_mem (PySem.mem_of_lookup e) with hm | ⟨h1, h2⟩
    · cases hm
    · obtain ⟨c1, hc⟩ := hfree _ h1 rfl
      have hc : X.env.cells.lookup z = some c1 := hc
      have e2 : c = c1 := by
        rw [h2, hc] <;> rfl
      rw [e2]
      exact hc
  have look : ∀ {z}, scope.names.lookup z = some .free → ∃ c, (cloFrom X.env.cells scope.names []).lookup z = some c := fun {z} hl => by
    have hy : (z, NameKind.free) ∈ scope.names := PySem.mem_of_lookup hl
    exact mem_lookup (cloFrom_has (cells := X.env.cells) (acc := []) hy)
  have cellK : ∀ {c : Addr} {v : Option Value}, s1.heap.IsCell c v → h₁.IsCell c v := fun {c v} ⟨o, ho, hd⟩ => ⟨_, kp _ _ ho, hd⟩
  have noA : ∀ b : Addr, b ∉ (lamCx1 X A outer s1 HZ E scope f c' y).ex := fun b z => absurd (show b ∈ ([] : List Addr) from z) (by simp)
  refine ⟨⟨e0.mod, L.kind, rfl, rfl, Nat.le_refl _, fun y z c e1 e2 => I.ok.inj y z c (cm e1) (cm e2), fun z hy => ?_, fun y c z _ => ?_, fun _ => hd, Around.frames_deeper e0.frames, .inr ⟨rfl, rfl⟩, fun b z => absurd z (noA b), e0.bs, e0.bsz, fun b _ _ => noA b,
      fun b z => absurd z (noA b), e0.funs, e0.frf⟩,
    rfl, e0.bare, Un.kept kp, ⟨_, hns, fun i z v e1 e2 e3 => ?_⟩, fun z c e => ?_, e0.hok.fresh (Nat.le_refl _), fun z c e => ?_, fun q hq => absurd (show q ∈ ([] : List (Addr × Obj)) ++ [] from hq) (by simp), e0.hok.kept kp, ?_⟩
  · have hy : scope.names.lookup z = some .cell ∨ scope.names.lookup z = some .free := hy
    rcases hy with hy | hy
    · exact absurd rfl (L.noc _ (PySem.mem_of_lookup hy))
    · exact look hy
  · have z : false = true := z
    cases z
  · have e3 : Vis scope z := e3
    cases i with
    | zero =>
      have e1 : some y = some z := e1
      have e2 : some (some x) = some (some v) := e2
      cases e1
      cases e2
      exact ⟨u, rx, .inl ⟨L.par, by simp⟩⟩
    | succ i =>
      have e1 : X.N[i]? = some z := e1
      have e2 : σ[i]? = some (some v) := e2
      have ne : z ≠ y := fun q => hy (q ▸ List.mem_of_getElem? e1)
      rcases e3 with k | k | k
      · exact absurd (L.own _ (PySem.mem_of_lookup k) rfl) ne
      · exact absurd rfl (L.noc _ (PySem.mem_of_lookup k))
      · obtain ⟨m, hn, hl⟩ := I.loc
        have hvis : Vis X.env.scope z := (L.free _ (PySem.mem_of_lookup k) rfl).elim (fun k => .inr (.inl k)) (fun k => .inr (.inr k))
        obtain ⟨w', r, q⟩ := hl i z v e1 e2 hvis
        obtain ⟨c2, h2⟩ := look k
        refine ⟨w', r, .inr ⟨.inr k, c2, h2, ?_⟩⟩
        have c1 := cm h2
        rcases q with ⟨k', _⟩ | ⟨_, c3, e', z'⟩
        · have k' : X.env.scope.names.lookup z = some .local := k'
          rcases L.free _ (PySem.mem_of_lookup k) rfl with k2 | k2 <;> rw [show X.env.scope.names.lookup z = _ from k2] at k' <;> cases k'
        · rw [c1] at e'
          cases e'
          exact cellK z'
  · obtain ⟨w', z'⟩ := I.cell z c (cm e)
    exact ⟨w', cellK z'⟩
  · exact hz _ (I.freeC z c (cm e))
  · show (some x :: σ).length = (y :: X.N).length
    rw [List.length_cons, List.length_cons]
    exact congrArg Nat.succ I.len
end
/-! ### what is known while a key is asked: tuples and lists as they stand -/
def frzO (g : Option Obj) : HO → Option HO
  | .tup xs => g.map fun o => .frz o (.tup xs)
  | .lst xs => g.map fun o => .frz o (.lst xs)
  | .frz o (.tup xs) => some (.frz o (.tup xs))
  | .frz o (.lst xs) => some (.frz o (.lst xs))
  | _ => none
def HZof (h : Heap) (H : Hp) : Hp := fun b => (H b).bind (frzO (h.get? b))
def Frz (K : PySem.W.Frag) (H HZ : Hp) : Prop := (∀ a xs, SqT K H a xs → SqT K HZ a xs) ∧ ∀ a xs, SqL K H a xs → SqL K HZ a xs
theorem hz_none {h : Heap} {H : Hp} {b : Addr} (e : H b = none) : HZof h H b = none := by
  unfold HZof
  rw [e]
  rfl
theorem hz_frz {P : Program} {w : World} {h : Heap} {H : Hp} (ok : HOk P w H h) {b : Addr} {z : HO} (e : HZof h H b = some z) : ∃ o u, z = .frz o u ∧ h.get? b = some o ∧ ((∃ xs, u = .tup xs) ∨ ∃ xs, u = .lst xs) ∧ ObjOk P w H h b u := by
  unfold HZof at e
  cases q : H b with
  | none =>
    rw [q] at e
    cases e
  | some u =>
    rw [q] at e
    have e : frzO (h.get? b) u = some z := e
    have g := ok b u q
    cases u with
    | tup xs =>
      cases hb : h.get? b with
      | none =>
        rw [hb] at e
        cases e
      | some o =>
        rw [hb] at e
        have e : some (HO.frz o (.tup xs)) = some z := e
        cases e
        exact ⟨_, _, rfl, rfl, .inl ⟨_, rfl⟩, g⟩
    | lst xs =>
      cases hb : h.get? b with
      | none =>
        rw [hb] at e
        cases e
      | some o =>
        rw [hb] at e
        have e : some (HO.frz o (.lst xs)) = some z := e
        cases e
        exact ⟨_, _, rfl, rfl, .inr ⟨_, rfl⟩, g⟩
    | frz o v =>
      cases v with
      | tup xs =>
        have e : some (HO.frz o (.tup xs)) = some z := e
        cases e
        exact ⟨_, _, rfl, g.1, .inl ⟨_, rfl⟩, g.2⟩
      | lst xs =>
        have e : some (HO.frz o (.lst xs)) = some z := e
        cases e
        exact ⟨_, _, rfl, g.1, .inr ⟨_, rfl⟩, g.2⟩
      | _ => cases e
    | _ => cases e
theorem hz_ok {P : Program} {w : World} {h : Heap} {H : Hp} (ok : HOk P w H h) : HOk P w (HZof h H) h := fun b z e => by
  obtain ⟨o, u, rfl, g, k, m⟩ := hz_frz ok e
  refine ⟨g, ?_⟩
  rcases k with ⟨xs, rfl⟩ | ⟨xs, rfl⟩
  · exact m
  · exact m
theorem hz_rdT {P : Program} {w : World} {h : Heap} {H : Hp} (ok : HOk P w H h) {a : Addr} {u : HO} (hu : (∃ xs, u = .tup xs) ∨ ∃ xs, u = .lst xs) (r : Rd H a u) : Rd (HZof h H) a u := by
  rcases r with r | ⟨o, r⟩
  · have g := ok a u r
    rcases hu with ⟨xs, rfl⟩ | ⟨xs, rfl⟩
    · obtain ⟨_, its, _, ob, ho, _⟩ := g
      refine .inr ⟨ob, ?_⟩
      unfold HZof
      rw [r]
      show frzO (h.get? a) (.tup xs) = _
      rw [ho]
      rfl
    · obtain ⟨_, its, n, _, ho⟩ := g
      refine .inr ⟨{ cls := .type "list", data := .seq its.toArray n }, ?_⟩
      unfold HZof
      rw [r]
      show frzO (h.get? a) (.lst xs) = _
      rw [ho]
      rfl
  · refine .inr ⟨o, ?_⟩
    unfold HZof
    rw [r]
    rcases hu with ⟨xs, rfl⟩ | ⟨xs, rfl⟩ <;> rfl
theorem hz_Frz {P : Program} {w : World} {K : PySem.W.Frag} {h : Heap} {H : Hp} (ok : HOk P w H h) : Frz K H (HZof h H) :=
  ⟨fun a xs r => r.imp (hz_rdT ok (.inl ⟨_, rfl⟩)) id, fun a xs r => r.imp (hz_rdT ok (.inr ⟨_, rfl⟩)) id⟩
section
variable {X : Cx} {pins : List (Addr × Obj)} {σ : L2.St} {H : Hp} {s : Shared}
theorem fresh_notfr (I : Inv X pins σ H s) {b : Addr} (h : s.heap.objs.size ≤ b) : b ∉ frs X.stack := fun z => by
  rcases List.mem_cons.mp (I.stkSub _ z) with e | e
  · have h1 := I.lt
    rw [← e] at h1
    exact Nat.lt_irrefl _ (Nat.lt_of_lt_of_le h1 h)
  · exact I.nofs h e
theorem base_notfr (I : Inv X pins σ H s) {b : Addr} {o : Obj} (h : X.base.get? b = some o) : b ∉ frs X.stack := fun z => by
  rcases List.mem_cons.mp (I.stkSub _ z) with e | e
  · have h1 := Heap.lt_size h
    rw [e] at h1
    exact Nat.lt_irrefl _ (Nat.lt_of_lt_of_le h1 (Nat.le_trans I.ok.bsz I.ok.above))
  · exact I.ok.nofr h e
theorem trk_notfr (I : Inv X pins σ H s) {b : Addr} {u : HO} (h : H b = some u) : b ∉ frs X.stack := fun z => by
  have q := I.stkFree b z
  rw [h] at q
  cases q
theorem sqL_notfr (I : Inv X pins σ H s) {a : Addr} {xs : List V} (h : SqL X.K H a xs) : a ∉ frs X.stack := by
  rcases h with (h | ⟨o, h⟩) | ⟨o, its, n, h, _⟩
  · exact trk_notfr I h
  · exact trk_notfr I h
  · exact base_notfr I (I.ok.mod.kin a o h)
theorem sqT_notfr (I : Inv X pins σ H s) {a : Addr} {xs : List V} (h : SqT X.K H a xs) : a ∉ frs X.stack := by
  rcases h with (h | ⟨o, h⟩) | ⟨o, its, n, h, _⟩
  · exact trk_notfr I h
  · exact trk_notfr I h
  · exact base_notfr I (I.ok.mod.kin a o h)
/-- a key is asked: all but the frames stays as it is -/
theorem lam_turn {scope : Scope} {f c' : Addr} {y q : Str} {params : Arguments} {body : Expr} {pm ctv : Value} {t : TE} {x : V} {u : Value} {k : Int} {k0 : Nat} {Q : Value → Shared → Prop} {E : Value → Shared → Prop}
    (I : Inv X pins σ H s) (L : LamS1 X.env.scope scope y) (hy : y ∉ X.N) (hq : q = X.env.qual ++ "<lambda>") (hf : s.heap.get? f = some (PySem.W.kla_obj "<lambda>" q params body scope (cloFrom X.env.cells scope.names []) pm c' ctv))
    (hco : H c' = some (LamX.CodeO c' q)) (hr : Room (k0 + 1) X.A.in1)
    (hbind : ∀ u : Value, bindArgs (PySem.W.kla_fn "<lambda>" q params body scope (cloFrom X.env.cells scope.names []) pm (.ref c') ctv) ⟨[u], []⟩ = pure [(y, u)])
    (rx : RelV x u) (hbody : ∀ (A : Around) (outer : List Env) (s : Shared) (H : Hp) (E : XK), PE (lamCx1 X A outer s H E scope f c' y) body t) (ht : ∀ HZ, Frz X.K H HZ → t (some x :: σ) HZ fun v _ => v = .int k)
    (h : ∀ s' tk, Inv X pins σ H s' → (∀ b o, b ∉ frs X.stack → s.heap.get? b = some o → s'.heap.get? b = some o) → Q (.int k tk) s') : wpAny (model X.prog X.w) X.A.in1 (call (.ref f) [u]) Q E s := by
  subst hq
  have okZ := hz_ok I.hok
  have noneZ : ∀ b, H b = none → HZof s.heap H b = none := fun b e => hz_none e
  have e0 : Env0 X.prog X.w X.K X.mg X.base X.A.in1 X.stack s (HZof s.heap H) := by
    have e := I.env0.in1
    exact ⟨e.frames, e.mod, fun b o g => ⟨(e.bs b o g).1, noneZ b (e.bs b o g).2⟩, e.bsz, e.funs, fun b hb => noneZ b (e.frf b hb), okZ, e.bare⟩
  obtain ⟨⟨oc, vs, tq, hoc, hdc, hvc⟩, _, _⟩ := I.hok c' _ hco
  have rc : codeAny (model X.prog X.w) X.A.in1 (.call (.ref f) ⟨[u], []⟩) (CR (L2.CX X.prog X.w) X.stack X.prog X.w (HZof s.heap H) s (fun v _ => v = .int k) fun _ _ _ => False) s := by
    refine PySem.W.kla_callFunE hr.depth hf rfl L.co L.gen rfl ⟨c', oc, vs, tq, rfl, hoc, hdc, hvc⟩ ?_
    rw [hbind]
    refine wpAny_pure (wpAny_newFunctionEnv (fun z hz => L.noc z hz) (fun z hz => ?_) (fun h₁ hns hsb => ⟨I.nolimit.fresh _ hsb, ?_⟩) L.kind)
    · rw [List.mem_singleton.mp hz]
      exact L.par
    show codeAny _ _ (.expr body (LamX.lamEnv X scope s.heap.objs.size f c')) _ _
    have kp : ∀ b o, s.heap.get? b = some o → h₁.get? b = some o := fun b o e => hsb.extBut b o (Nat.ne_of_lt (Heap.lt_size e)) (Heap.get?_push_of_some _ e)
    have J := lam_start1 (E := fun _ _ _ => False) (f := f) (c' := c') (tk := s.toks + [(y, u)].length) I L hy e0 hr.hd noneZ rx hns kp
    refine PySem.W.kla_codeExpr (wpAny_mono ((hbody _ _ s _ _).run [] _ _ _ _ J (ht _ (hz_Frz I.hok))) (fun v s' hq => ?_) fun e s' hq => hq)
    obtain ⟨w', H', J', rv, q⟩ := hq
    exact ⟨w', H', J'.os, J'.bare, J'.base, J'.hok, rv, q⟩
  refine wpAny_call (codeAny_mono rc fun r s' hq => ?_)
  match r, hq with
  | .error e, hq =>
    obtain ⟨_, _, _, _, _, _, _, _, _, _, _, _, z⟩ := hq
    exact z.elim
  | .ok .next, hq => exact False.elim hq
  | .ok .brk, hq => exact False.elim hq
  | .ok .cont, hq => exact False.elim hq
  | .ok (.ret u'), ⟨v, H', os, bare, un, hok', rv, qv⟩ =>
    obtain rfl : v = .int k := qv
    obtain ⟨tk, rfl⟩ : ∃ tk, u' = .int k tk := rv
    have keep : ∀ b o, b ∉ frs X.stack → s.heap.get? b = some o → s'.heap.get? b = some o := fun b o hb e => by
      cases q : HZof s.heap H b with
      | none => exact un.keep b o e q hb (by simp)
      | some z =>
        obtain ⟨o1, u1, rfl, g, _, _⟩ := hz_frz I.hok q
        have z2 := un.frzs b o1 _ q
        obtain ⟨g2, _⟩ := hok' b _ z2
        rw [g] at e
        cases e
        exact g2
    refine h s' tk (I.call' (ch := []) os ⟨fun b o e n hb _ => keep b o hb e, fun b o e n hb _ => un.slot b o e (noneZ b n) hb (by simp), fun b o _ n _ => n, fun b o e _ => un.there b o e (by simp), fun _ _ e => e, fun _ _ _ e => e, fun b ps e => ⟨#[], by rw [e]; simp⟩⟩ (fun b z e => ?_) bare fun b hb => absurd hb (by simp)) keep
    refine (I.hok b z e).stay (fun c v hc g => keep c v ?_ g) (fun _ g => g) fun _ _ g => g
    rcases hc with z' | z'
    · rw [z']
      exact trk_notfr I e
    · exact trk_notfr I z'
/-- the place of the first of the greatest keys -/
def bestOf (ks : List Int) : Nat := argBest (fun i j => decide (ks.getD i 0 > ks.getD j 0)) (ks.length - 1)
/-- the walk of max -/
theorem max_core {scope : Scope} {f c' it ax : Addr} {y q : Str} {params : Arguments} {body : Expr} {pm ctv : Value} {t : TE} {xs : List V} {ks : List Int} {items : Array Value} {St0 : Nat → Heap → Prop} {k0 : Nat} {oI : Obj} {Q : VK}
    (I : Inv X pins σ H s) (L : LamS1 X.env.scope scope y) (hy : y ∉ X.N) (hq : q = X.env.qual ++ "<lambda>") (hf : s.heap.get? f = some (PySem.W.kla_obj "<lambda>" q params body scope (cloFrom X.env.cells scope.names []) pm c' ctv))
    (hfr : f ∉ frs X.stack) (hco : H c' = some (LamX.CodeO c' q)) (hr : Room (k0 + 1) X.A.in1)
    (hbind : ∀ u : Value, bindArgs (PySem.W.kla_fn "<lambda>" q params body scope (cloFrom X.env.cells scope.names []) pm (.ref c') ctv) ⟨[u], []⟩ = pure [(y, u)])
    (hbody : ∀ (A : Around) (outer : List Env) (s : Shared) (H : Hp) (E : XK), PE (lamCx1 X A outer s H E scope f c' y) body t)
    (rv : Vals xs items.toList) (hne : xs ≠ []) (hlen : ks.length = xs.length) (ht : ∀ (HZ : Hp), Frz X.K H HZ → ∀ (i : Nat) (x : V) (k : Int), xs[i]? = some x → ks[i]? = some k → t (some x :: σ) HZ fun v _ => v = .int k)
    (hit : it = s.heap.objs.size) (hax : ax ∉ frs X.stack) (W : Walks X.prog X.w X.A.in1 it [it, ax] [it] items.size (fun i v => items[i]? = some v) St0) (hst : St0 0 (s.heap.push oI)) (haxl : ax < s.heap.objs.size)
    (hQ : ∀ x, xs[bestOf ks]? = some x → Q x H) :
    ∃ (I0 : Addr) (fp wr : List Addr) (G : Array GenState → Array GenState → Prop) (n : Nat) (P : Nat → Value → Prop) (St : Nat → Shared → Prop) (J : Shared → Prop) (V : Nat → Value → Shared → Prop) (bt : Nat → Nat → Bool), (Value.ref it : Value) = .ref I0 ∧ WalksS X.prog X.w X.A.in1 I0 fp wr G n P St ∧ St 0 { s with heap := s.heap.push oI } ∧ (∀ b ∈ fp, b < (s.heap.push oI).objs.size) ∧ 0 < n ∧
      KeyRun X.prog X.w X.A.in1 (.ref f) .Gt (s.heap.push oI).objs.size wr G n P St J V bt ∧ J { s with heap := s.heap.push oI } ∧ ∀ v s', P (argBest bt (n - 1)) v → J s' → EP X pins σ Q v s' := by
  have hxl : xs.length = items.size := by rw [rv.length, Array.length_toList]
  have itemAt : ∀ {i : Nat} {v : Value}, items[i]? = some v → ∃ x, xs[i]? = some x ∧ RelV x v := fun {i v} e => by
    have e2 : items.toList[i]? = some v := by rw [Array.getElem?_toList]; exact e
    have hi : i < xs.length := by
      rw [rv.length]
      exact (List.getElem?_eq_some_iff.mp e2).1
    obtain ⟨u, h1, h2⟩ := rv.get (List.getElem?_eq_getElem hi)
    rw [e2] at h1
    cases h1
    exact ⟨_, List.getElem?_eq_getElem hi, h2⟩
  have hS : (s.heap.push oI).objs.size = s.heap.objs.size + 1 := Heap.size_push ..
  have Nit : H it = none := I.hok.fresh (Nat.le_of_eq hit.symm)
  have NS : H (s.heap.push oI).objs.size = none := I.hok.fresh (by rw [hS]; exact Nat.le_succ _)
  have fit : it ∉ frs X.stack := fresh_notfr I (Nat.le_of_eq hit.symm)
  have fS : (s.heap.push oI).objs.size ∉ frs X.stack := fresh_notfr I (by rw [hS]; exact Nat.le_succ _)
  have fl : f < s.heap.objs.size := Heap.lt_size hf
  have fok : ∀ b ∈ [(s.heap.push oI).objs.size, it], FpOk X pins H b := fun b hb => by
    rcases List.mem_cons.mp hb with rfl | hb
    · exact I.fpOk (by rw [hS]; exact Nat.le_succ _) NS
    · rw [List.mem_singleton.mp hb]
      exact I.fpOk (Nat.le_of_eq hit.symm) Nit
  have WS := W.toS
  refine ⟨it, [it, ax], [it], fun a b => b = a, items.size, fun i v => items[i]? = some v, fun i s => St0 i s.heap, fun a => Inv X pins σ H a ∧ a.heap.get? f = some (PySem.W.kla_obj "<lambda>" q params body scope (cloFrom X.env.cells scope.names []) pm c' ctv),
    fun i k _ => ∃ t, k = .int (ks.getD i 0) t, fun i j => decide (ks.getD i 0 > ks.getD j 0), rfl, WS, hst, fun b hb => ?_, ?_, ⟨fun a b ⟨J, hfa⟩ m => ?_, fun i k a b z _ => z, fun i v a o Qc Ec hi hP ⟨J, hfa⟩ hSt hSo k => ?_, fun i j ki kj a Qc Ec _ ⟨t1, z1⟩ ⟨t2, z2⟩ hQc => ?_⟩, ⟨?_, Heap.get?_push_of_some _ hf⟩, fun v s' hv ⟨J, _⟩ => ?_⟩
  · rw [hS]
    rcases List.mem_cons.mp hb with rfl | hb
    · rw [hit]
      exact Nat.lt_succ_self _
    · rw [List.mem_singleton.mp hb]
      exact Nat.lt_succ_of_lt haxl
  · rw [← hxl]
    exact List.length_pos_iff.mpr hne
  · have J2 := J.turnedL (h' := b.heap) (t' := b.toks) (ch := [(s.heap.push oI).objs.size, it]) (fun c o hc e => m.heap c o hc e) fok
    have e : ({ a with heap := b.heap, toks := b.toks } : Shared) = b := by
      obtain ⟨h1, g1, d1, t1, o1⟩ := b
      have m1 : g1 = a.gens := m.gens
      have m2 : d1 = a.drawn := m.drawn
      have m3 : o1 = a.os := m.os
      subst m1
      subst m2
      subst m3
      rfl
    rw [e] at J2
    refine ⟨J2, m.heap f _ (fun hb => ?_) hfa⟩
    rcases List.mem_cons.mp hb with z | hb
    · rw [z, hS] at fl
      exact Nat.lt_irrefl _ (Nat.lt_of_succ_lt fl)
    · rw [List.mem_singleton.mp hb, hit] at fl
      exact Nat.lt_irrefl _ fl
  · obtain ⟨x, hx, rx⟩ := itemAt hP
    have hk : i < ks.length := by rw [hlen, hxl]; exact hi
    refine lam_turn J L hy hq hfa hco hr hbind rx hbody (fun HZ z => ht HZ z i x (ks.getD i 0) hx ?_) fun s' tk J' kp => k _ s' ⟨J', kp f _ hfr hfa⟩ (W.frame _ _ _ hSt fun b hb o e => kp b o ?_ e) (kp _ _ fS hSo) ⟨tk, rfl⟩ fun _ _ z => z
    · rw [List.getD_eq_getElem?_getD, List.getElem?_eq_getElem hk]
      rfl
    · rcases List.mem_cons.mp hb with rfl | hb
      · exact fit
      · rw [List.mem_singleton.mp hb]
        exact hax
  · exact CmpOf.ints_gt (prog := X.prog) (w := X.w) (A := X.A.in1) (P := fun i v => ∃ t, v = .int (ks.getD i 0) t) (fun i => ks.getD i 0) (fun i v h => h) i j _ _ _ _ _ ⟨t1, z1⟩ ⟨t2, z2⟩ hQc
  · exact I.kept fun b o e => Heap.get?_push_of_some _ e
  · obtain ⟨x, hx, rx⟩ := itemAt hv
    refine ⟨x, H, J, rx, hQ x ?_⟩
    unfold bestOf
    rw [hlen, hxl]
    exact hx
/-- max(e, key=lambda y: body): the reading -/
def tMaxL (X : Cx) (T : List (Addr × Str)) (t : TE) (ta : TA) : TE := fun σ H Q => ta σ H fun vs H1 => ∃ (a : Addr) (xs : List V) (ks : List Int), vs = [.ref a] ∧ (SqL X.K H1 a xs ∨ SqT X.K H1 a xs) ∧ xs ≠ [] ∧ ks.length = xs.length ∧ LamX.Tabs T H1 ∧
  ∀ H2, LamX.ExtN H1 H2 → LamX.Tabs T H2 → (∀ (HZ : Hp), Frz X.K H2 HZ → ∀ (i : Nat) (x : V) (k : Int), xs[i]? = some x → ks[i]? = some k → t (some x :: σ) HZ fun v _ => v = .int k) ∧ ∀ x, xs[bestOf ks]? = some x → Q x H2
theorem extN_sqL {K : PySem.W.Frag} {H H' : Hp} {a : Addr} {xs : List V} (e : LamX.ExtN H H') (h : SqL K H a xs) : SqL K H' a xs := by
  rcases h with (h | ⟨o, h⟩) | h
  · exact .inl (.inl (e _ _ h fun _ z => by cases z))
  · exact .inl (.inr ⟨o, e _ _ h fun _ z => by cases z⟩)
  · exact .inr h
theorem extN_sqT {K : PySem.W.Frag} {H H' : Hp} {a : Addr} {xs : List V} (e : LamX.ExtN H H') (h : SqT K H a xs) : SqT K H' a xs := by
  rcases h with (h | ⟨o, h⟩) | h
  · exact .inl (.inl (e _ _ h fun _ z => by cases z))
  · exact .inl (.inr ⟨o, e _ _ h fun _ z => by cases z⟩)
  · exact .inr h
theorem pe_maxL {T : List (Addr × Str)} {c P : Addr} {scope : Scope} {y : Str} {params : Arguments} {body : Expr} {t : TE} {ta : TA} {k0 : Nat} {e : Expr} {p pos lpos kpos : Pos}
    (TB : LamX.TabB X.base X.mg c P) (hcode : X.env.code = .ref c) (hmT : (P, X.env.qual ++ "<lambda>") ∈ T) (hu : ∀ p ∈ T, p.1 = P → p.2 = X.env.qual ++ "<lambda>") (hr : Room (k0 + 2) X.A) (L : LamS1 X.env.scope scope y) (hy : y ∉ X.N) (hdef : defaultsOf params X.env = ([], []))
    (hbind : ∀ (q : Str) (cl : List (Str × Addr)) (pm cv ctv u : Value), bindArgs (PySem.W.kla_fn "<lambda>" q params body scope cl pm cv ctv) ⟨[u], []⟩ = pure [(y, u)])
    (hbody : ∀ (f c' : Addr) (A : Around) (outer : List Env) (s : Shared) (H : Hp) (E : XK), PE (lamCx1 X A outer s H E scope f c' y) body t)
    (hg : Gl X "max") (hm : X.mg "max" = none) (hv : bootBuiltins "max" = some (.builtin "max")) (ha : PA X [e] ta)
    (he : backTo pos (starEach [e] X.env) = (false, eval e X.env) :: backTo pos (starEach [] X.env) := by rfl) (hpl : (backTo pos (starEach [e] X.env)).any (·.1) = false := by rfl) :
    PE X (.Call (.Name "max" p) [e] [⟨some "key", .Lambda params body scope lpos, kpos⟩] pos) (tMaxL X T t ta) := by
  refine ⟨fun pins s σ H Q I h => ?_⟩
  refine wpAny_Call_Name_kw (ld_blt I hg hm hv ?_ (by decide) (by decide))
  refine PyProof.Rows.callWith_kw (thn (ha.run pos pins s σ H _ I h) fun us s1 ⟨vs, H1, I1, r1, a, xs, ks, ev, hs, hne, hlen, hT, hK⟩ => ?_) he hpl (by rfl) (by rfl)
  show wpAny _ _ (evalAll ((do let v ← eval (.Lambda params body scope lpos) X.env; standAt pos; pure v) :: [])) _ _ s1
  refine wpAny_evalAll_cons (wpAny_bind (LamX.lam_make2 I1 TB hcode hmT hu hT hdef (L.has I1.ok) fun f c' pm ctv H2 s2 I2 eN T2 hf hfn hfr hco => wpAny_bind (wpAny_standAt (wpAny_pure ?_))))
  refine wpAny_evalAll_nil ?_
  subst ev
  obtain ⟨u, rfl, ru⟩ : ∃ u, us = [u] ∧ RelV (V.ref a) u := by
    cases r1 with
    | cons r q => cases q with
      | nil => exact ⟨_, rfl, r⟩
  obtain rfl : u = Value.ref a := ru
  show wpAny _ _ (call (.builtin "max") [.ref a] [(Str.ofString "key", .ref f)]) _ _ s2
  obtain ⟨hkey, hQ⟩ := hK H2 eN T2
  rcases hs with hs | hs
  · have hs2 := extN_sqL eN hs
    obtain ⟨its, rv, pl, _⟩ := I2.list hs2
    have hl : s2.heap.IsList a its.toArray := pl.isList
    have haxl : a < s2.heap.objs.size := by obtain ⟨_, e, _⟩ := hl; exact Heap.lt_size e
    have hne2 : a ≠ s2.heap.objs.size := Nat.ne_of_lt haxl
    refine call_max_walkK (wpAny_pyIter_list hl ?_)
    exact max_core (ks := ks) I2 L hy rfl hf hfr hco hr.in1 (fun u => hbind _ _ _ _ _ u) (hbody f c') (by simpa using rv) hne hlen hkey rfl (sqL_notfr I2 hs2)
      (Walks.list (A := X.A.in1) hr.hd _ a hne2 its.toArray) ⟨⟨_, Heap.get?_push_size _ rfl, rfl, rfl⟩, hl.push _⟩ haxl hQ
  · have hs2 := extN_sqT eN hs
    obtain ⟨its, rv, pl, _⟩ := I2.tuple hs2
    have hl : s2.heap.IsTuple a its.toArray := pl
    have haxl : a < s2.heap.objs.size := by obtain ⟨_, e, _⟩ := hl; exact Heap.lt_size e
    have hne2 : a ≠ s2.heap.objs.size := Nat.ne_of_lt haxl
    refine call_max_walkK (wpAny_pyIter_tuple hl ?_)
    exact max_core (ks := ks) I2 L hy rfl hf hfr hco hr.in1 (fun u => hbind _ _ _ _ _ u) (hbody f c') (by simpa using rv) hne hlen hkey rfl (sqT_notfr I2 hs2)
      (Walks.tuple (A := X.A.in1) hr.hd _ a hne2 its.toArray) ⟨⟨_, Heap.get?_push_size _ rfl, rfl, rfl⟩, hl.push _⟩ haxl hQ
end

/-! ### the same over D -/
section
variable {K : PySem.W.Frag} {ρ : List Addr} {H H' : Hp} {S : Sto}
theorem extN_Ext (e : LamX.ExtN H H') : Ext ρ H ρ H' := ⟨fun _ _ h => h, fun _ _ h => e _ _ h (fun _ z => by cases z), fun _ _ _ h => e _ _ h (fun _ z => by cases z), fun _ _ _ h => e _ _ h (fun _ z => by cases z)⟩
theorem Rep.lam (R : Rep K ρ H S) (e : LamX.ExtN H H') (t : LamX.Tabs (TTof K) H') : Rep K ρ H' S := by
  refine ⟨R.len, R.inj, fun n a c h1 h2 => ?_, t⟩
  have q := R.at n a c h1 h2
  obtain ⟨o, ho, m⟩ := q.mut
  exact q.mono (extN_Ext e) ((e _ _ ho m.2.2.2.1).trans ho.symm)
end
/-- the keys by an item's place in a row -/
def keyIx (S : Sto) (r d : D) : Option Int := match opIx r d S with
  | .ok (.int k) _ => some k
  | _ => none
def keysIx (S : Sto) (r : D) : List D → Option (List Int)
  | [] => some []
  | d :: ds => match keyIx S r d, keysIx S r ds with
    | some k, some ks => some (k :: ks)
    | _, _ => none
def dMaxIx (i : Nat) (da : DA) : DE := fun δ S => (da δ S).bnd fun vs S1 => match vs with
  | [x] => match items S1 x, δ[i]? with
    | some ds, some (some r) => match keysIx S1 r ds with
      | some ks => if ds = [] then .bad else match ds[bestOf ks]? with
        | some d => .ok d S1
        | none => .bad
      | none => .bad
    | _, _ => .bad
  | _ => .bad
theorem keysIx_len {S : Sto} {r : D} : ∀ {ds : List D} {ks : List Int}, keysIx S r ds = some ks → ks.length = ds.length
  | [], ks, h => by
    cases h
    rfl
  | d :: ds, ks, h => by
    unfold keysIx at h
    split at h
    · rename_i k l h1 h2
      cases h
      rw [List.length_cons, List.length_cons, keysIx_len h2]
    · cases h
theorem keysIx_at {S : Sto} {r : D} : ∀ {ds : List D} {ks : List Int} {j : Nat} {d : D} {k : Int}, keysIx S r ds = some ks → ds[j]? = some d → ks[j]? = some k → keyIx S r d = some k
  | [], ks, j, d, k, h, h1, _ => by simp at h1
  | d :: ds, ks, j, d', k, h, h1, h2 => by
    unfold keysIx at h
    split at h
    · rename_i k0 l e1 e2
      cases h
      cases j with
      | zero =>
        simp at h1 h2
        subst h1
        subst h2
        exact e1
      | succ j =>
        simp at h1 h2
        exact keysIx_at e2 h1 h2
    · cases h
/-- what a def that makes a lambda tells of its code object -/
structure LamF (K : PySem.W.Frag) (base : Heap) (mg : Str → Option Value) (x : Str) (fd : FuncData) : Prop where
  ex : ∃ c P, fd.code = .ref c ∧ LamX.TabB base mg c P ∧ (P, lamQ x) ∈ TTof K ∧ ∀ p ∈ TTof K, p.1 = P → p.2 = lamQ x
section
variable {X : Cx} {cl : Str → Value} {E : XK}
theorem se_maxIx {cdc cdP : Addr} {scope : Scope} {y z : Str} {params : Arguments} {da : DA} {k0 i : Nat} {e : Expr} {p p1 p2 p3 pos lpos kpos : Pos}
    (TB : LamX.TabB X.base X.mg cdc cdP) (hcode : X.env.code = .ref cdc) (hmT : (cdP, X.env.qual ++ "<lambda>") ∈ TTof X.K) (hu : ∀ p ∈ TTof X.K, p.1 = cdP → p.2 = X.env.qual ++ "<lambda>") (hr : Room (k0 + 2) X.A) (L : LamS1 X.env.scope scope y) (hy : y ∉ X.N) (hdef : defaultsOf params X.env = ([], []))
    (hbind : ∀ (q : Str) (cl : List (Str × Addr)) (pm cv ctv u : Value), bindArgs (PySem.W.kla_fn "<lambda>" q params (.Subscript (.Name z p1) (.Name y p2) p3) scope cl pm cv ctv) ⟨[u], []⟩ = pure [(y, u)])
    (hN : X.N[i]? = some z) (hz : scope.names.lookup z = some .free) (hg : Gl X "max") (hm : X.mg "max" = none) (hv : bootBuiltins "max" = some (.builtin "max")) (ha : SA X (wt X cl E) [e] da)
    (d1 : (y == ("__debug__" : Str)) = false) (d2 : (y == ("__classdict__" : Str)) = false) (d3 : (z == ("__debug__" : Str)) = false) (d4 : (z == ("__classdict__" : Str)) = false)
    (he : backTo pos (starEach [e] X.env) = (false, eval e X.env) :: backTo pos (starEach [] X.env)) (hpl : (backTo pos (starEach [e] X.env)).any (·.1) = false) :
    SE X (wt X cl E) (.Call (.Name "max" p) [e] [⟨some "key", .Lambda params (.Subscript (.Name z p1) (.Name y p2) p3) scope lpos, kpos⟩] pos) (dMaxIx i da) := by
  have hbody : ∀ (f c' : Addr) (A : Around) (outer : List Env) (s : Shared) (H : Hp) (E : XK), PE (lamCx1 X A outer s H E scope f c' y) (.Subscript (.Name z p1) (.Name y p2) p3) (L2.tOp (fun a b H Q => rIxL X.K a b H Q ∨ rIxT X.K a b H Q) (tVar (i + 1)) (tVar 0)) := fun f c' A outer s H E =>
    pe_ix (IxR.or ix_list ix_tup) (pe_var (X := lamCx1 X A outer s H E scope f c' y) (i := i + 1) hN (Or.inr (Or.inr hz)) d3 d4) (pe_var (X := lamCx1 X A outer s H E scope f c' y) (i := 0) rfl (Or.inl L.par) d1 d2) fun _ _ => rfl
  refine pe_imp (pe_maxL TB hcode hmT hu hr L hy hdef hbind hbody hg hm hv ha he hpl) fun σ H Q h => ?_
  refine tG.step h fun ρ δ ρ1 S1 H1 vs ds N e1 R r P => ?_
  unfold dMaxIx at P
  match ds, r, P with
  | [], _, P => exact P.elim
  | _ :: _ :: _, _, P => exact P.elim
  | [x], .cons rx .nil, P =>
    revert P
    dsimp only
    split
    · rename_i its rr hi hδ
      split
      · rename_i ks hks
        split
        · exact fun P => P.elim
        · rename_i hne
          split
          · rename_i d hd
            intro P
            obtain ⟨a, xs, rfl, sq, dv⟩ := rx.seqI R hi
            have hlx : ks.length = xs.length := by rw [keysIx_len hks, dv.length]
            refine ⟨a, xs, ks, rfl, sq, fun z => hne (dv.nil_iff.mp z), hlx, R.tab, fun H2 eN T2 => ?_⟩
            have R2 := R.lam eN T2
            have E2 : Ext ρ1 H1 ρ1 H2 := extN_Ext eN
            refine ⟨fun HZ hF j x k hx hk => ?_, fun x hx => ?_⟩
            · obtain ⟨dj, hdj, rj⟩ := (dv.mono E2).getV hx
              have hkey := keysIx_at hks hdj hk
              unfold keyIx opIx at hkey
              obtain ⟨v, hv, rv⟩ := N.at i rr hδ
              refine ⟨v, hv, x, rfl, ?_⟩
              split at hkey
              · rename_i k' S' hop
                cases hkey
                split at hop
                · rename_i jj
                  split at hop
                  · rename_i rs hrs
                    split at hop
                    · rename_i dk hdk
                      cases hop
                      obtain ⟨b, us, rfl, sqr, dvr⟩ := (rv.mono E2).seqI R2 hrs
                      obtain ⟨w, h1, h2⟩ := atI_dv dvr hdk
                      have hw : w = .int k := h2.intI
                      have hx2 : x = .int jj := rj.intI
                      rcases sqr with sqr | sqr
                      · exact .inl ⟨b, us, jj, w, rfl, hx2, hF.2 _ _ sqr, h1, hw⟩
                      · exact .inr ⟨b, us, jj, w, rfl, hx2, hF.1 _ _ sqr, h1, hw⟩
                    · cases hop
                  · cases hop
                · cases hop
              · cases hkey
            · obtain ⟨dx, hdx, rxx⟩ := (dv.mono E2).getV hx
              have e3 : d = dx := by
                have q := hd
                rw [hdx] at q
                exact (Option.some.inj q).symm
              subst e3
              exact P ρ1 H2 x E2 R2 rxx
          · exact fun P => P.elim
      · exact fun P => P.elim
    · exact fun P => P.elim
end
section
variable {P : Program} {w : World} {K : PySem.W.Frag} {mg : Str → Option Value} {base : Heap} {cl : Str → Value}
/-- a def that makes a lambda -/
theorem fn_okL {x qual : Str} {st : Stmt} {f : Addr} {fd : FuncData} {N ps : List Str} {k : Nat} {body : DS} (F : Fun K x qual st f fd) (LF : LamF K base mg x fd) (S : FnScope N ps (defScope st))
    (hbody : ∀ (cdv : Value) (cdc cdP : Addr), cdv = .ref cdc → LamX.TabB base mg cdc cdP → (cdP, lamQ x) ∈ TTof K → (∀ p ∈ TTof K, p.1 = cdP → p.2 = lamQ x) → ∀ (A : Around) (outer : List Env) (s : Shared) (H : Hp) (E : XK), Room k (A.deeper (envOfC qual (defScope st) s.heap.objs.size f cdv)) →
      SB (cxOf (L2.CX P w) P w K mg base N qual (defScope st) f cdv A outer s H E) ⟨K, cl, E⟩ (defBody st) body) : FnOk P w K mg base (L2.CX P w) (k + 1) f fd ps (SpD K cl (dFn ps.length N.length body)) := by
  obtain ⟨oc, od, kV, doc, pm, an, cdv, ct, osl, rfl, lk, hcd⟩ := F.ex
  obtain ⟨c, cP, hc, TB, hm, hu⟩ := LF.ex
  refine fn_of lk hcd S (fun vs H Q E h => ?_) fun A outer s H vs Q E hr h => ?_
  · obtain ⟨ρ, S, ds, R, v, P⟩ := h
    unfold dFn at P
    split at P
    · rename_i hl
      rw [v.length, hl]
    · exact P.elim
  · obtain ⟨ρ, S, ds, R, v, P⟩ := h
    refine ⟨_, hbody cdv c cP hc TB hm hu A outer s H E hr, ρ, startD N.length ds, S, R, envR_start v, ?_⟩
    unfold dFn at P
    split at P
    · cases q : body (startD N.length ds) S with
      | nx δ S1 =>
        rw [q] at P
        exact fun ρ1 H1 σ1 e1 R1 N1 => P ρ1 H1 .non e1 R1 .non
      | rt d S1 =>
        rw [q] at P
        exact P
      | exc c S1 =>
        rw [q] at P
        exact P
      | bk δ S1 => rw [q] at P; exact P.elim
      | ct δ S1 => rw [q] at P; exact P.elim
      | bad => rw [q] at P; exact P.elim
    · exact P.elim
end
end Dn
set_option Elab.async false
set_option linter.all false
set_option maxRecDepth 100000
/-! Den_k78: the defs' denotations, printed by gen.py. -/
noncomputable section
namespace Dn
open PySem L2
def b_is_integer : DS := (dRet (dAndV (dIsI "int" (dVar 0)) (dNotV (dIsI "bool" (dVar 0)))))
def d_is_integer : DF := dFn 1 1 b_is_integer
def b_held : DS := (dSeq (dSet 2 (dLst dNil)) (dSeq (dFor (srcT (dSl (dVar 0) dNoPart (dPart (dVar 1)))) (.nm 3) (dIfS (dB (dBin opNe (dBin opIx (dVar 3) (dC (.int 0))) (dC (.str "out")))) (dDrop (dMth mAppend (dVar 2) (dCons (dTup (dCons (dBin opIx (dVar 3) (dC (.int 1))) (dCons (dBin opIx (dVar 3) (dC (.int 2))) dNil))) dNil))) (dDrop (dMth mPop (dVar 2) dNil)))) (dRet (dCall bTuple (dCons (dVar 2) dNil)))))
def d_held : DF := dFn 2 4 b_held
def b_wish : DS := (dSeq (dSet 2 (dBin opIx (dVar 0) (dVar 1))) (dRet (dIf (dB (dBin opNe (dBin opIx (dVar 2) (dC (.int 0))) (dC (.str "out")))) (dTup (dCons (dBin opIx (dVar 2) (dC (.int 1))) (dCons (dBin opIx (dVar 2) (dC (.int 2))) dNil))) (dC .non))))
def d_wish : DF := dFn 2 3 b_wish
def b_is_door : DS := (dRet (dBin opEq (dBin opIx (dBin opIx (dBin opIx (dVar 0) (dC (.int 0))) (dVar 1)) (dC (.int 0))) (dC (.str "door"))))
def d_is_door : DF := dFn 2 2 b_is_door
def b_clash : DS := (dRet (dAndV (dBin opEq (dBin opIx (dVar 1) (dC (.int 0))) (dBin opIx (dVar 2) (dC (.int 0)))) (dOrV (dCall d_is_door (dCons (dVar 0) (dCons (dBin opIx (dVar 1) (dC (.int 0))) dNil))) (dOrV (dBin opEq (dBin opIx (dVar 1) (dC (.int 1))) (dC (.str "alone"))) (dBin opEq (dBin opIx (dVar 2) (dC (.int 1))) (dC (.str "alone")))))))
def d_clash : DF := dFn 3 3 b_clash
def b_is_calm : DS := (dSeq (dIfS (dB (dBin opNe (dLc (srcT (dBin opIx (dVar 0) (dC (.int 0)))) (.nm 1) (dB (dBin opNe (dVar 1) (dTup (dCons (dC (.str "store")) (dCons (dC .non) dNil))))) (dVar 1) [1]) (dLst dNil))) (dRet (dC (.bl false))) dSkip) (dRet (dBin opEq (dLc (srcT (dBin opIx (dVar 0) (dC (.int 1)))) (.nm 3) (dB (dBin (opIn false) (dC (.str "try")) (dLc (srcT (dVar 3)) (.nm 2) dYes (dBin opIx (dVar 2) (dC (.int 0))) [2]))) (dVar 3) [3]) (dLst dNil))))
def d_is_calm : DF := dFn 1 4 b_is_calm
def b_calm : DS := (dIfS (dNot (dB (dCall d_is_calm (dCons (dVar 0) dNil)))) (dRaise "Unfit") dSkip)
def d_calm : DF := dFn 1 1 b_calm
def b_ranks_error : DS := (dSeq (dDrop (dCall d_calm (dCons (dVar 0) dNil))) (dSeq (dSet 2 (dCall bLen (dCons (dBin opIx (dVar 0) (dC (.int 1))) dNil))) (dSeq (dIfS (dOr (dNot (dB (dIsI "tuple" (dVar 1)))) (dOr (dB (dBin opNe (dCall bLen (dCons (dVar 1) dNil)) (dVar 2))) (dNot (dB (dCall bAll (dCons (dLc (srcT (dVar 1)) (.nm 5) dYes (dCall d_is_integer (dCons (dVar 5) dNil)) [5]) dNil)))))) (dRet (dC (.str "form"))) dSkip) (dSeq (dFor (rng1 (dCons (dVar 2) dNil)) (.nm 3) (dFor (rng2 (dCons (dBin opAdd (dVar 3) (dC (.int 1))) (dCons (dVar 2) dNil))) (.nm 4) (dIfS (dB (dBin opEq (dBin opIx (dVar 1) (dVar 3)) (dBin opIx (dVar 1) (dVar 4)))) (dRet (dTup (dCons (dC (.str "same")) (dCons (dVar 3) (dCons (dVar 4) dNil))))) dSkip))) (dRet (dC .non))))))
def d_ranks_error : DF := dFn 2 6 b_ranks_error
def b_ranked : DS := (dIfS (dB (dBin (opIsN true) (dCall d_ranks_error (dCons (dVar 0) (dCons (dVar 1) dNil))) (dC .non))) (dRaise "Unfit") dSkip)
def d_ranked : DF := dFn 2 2 b_ranked
def b_things_at : DS := (dRet (dIf (dB (dBin (opIsN false) (dBin opIx (dVar 1) (dVar 2)) (dC .non))) (dTup dNil) (dCall d_held (dCons (dBin opIx (dBin opIx (dVar 0) (dC (.int 1))) (dVar 2)) (dCons (dBin opIx (dVar 1) (dVar 2)) dNil)))))
def d_things_at : DF := dFn 3 3 b_things_at
def b_does_clash : DS := (dRet (dBin opNe (dLc (srcT (dVar 2)) (.nm 3) (dB (dCall d_clash (dCons (dVar 0) (dCons (dVar 1) (dCons (dVar 3) dNil))))) (dC (.int 1)) [3]) (dLst dNil)))
def d_does_clash : DF := dFn 3 4 b_does_clash
def b_blockers : DS := (dSeq (dSet 3 (dIf (dB (dBin (opIsN false) (dBin opIx (dVar 1) (dVar 2)) (dC .non))) (dC .non) (dCall d_wish (dCons (dBin opIx (dBin opIx (dVar 0) (dC (.int 1))) (dVar 2)) (dCons (dBin opIx (dVar 1) (dVar 2)) dNil))))) (dSeq (dIfS (dB (dBin (opIsN false) (dVar 3) (dC .non))) (dRet (dLst dNil)) dSkip) (dSeq (dSet 4 (dLc (rng1 (dCons (dCall bLen (dCons (dVar 1) dNil)) dNil)) (.nm 5) (dB (dBin opNe (dVar 5) (dVar 2))) (dVar 5) [5])) (dRet (dLc (srcL (dVar 4)) (.nm 5) (dB (dCall d_does_clash (dCons (dVar 0) (dCons (dVar 3) (dCons (dCall d_things_at (dCons (dVar 0) (dCons (dVar 1) (dCons (dVar 5) dNil)))) dNil))))) (dVar 5) [5])))))
def d_blockers : DF := dFn 3 6 b_blockers
def b_movers_at : DS := (dSeq (dSet 2 (dLc (enT (dCons (dVar 1) dNil)) (.tp [(.nm 3), (.nm 4)]) (dB (dBin (opIsN true) (dVar 4) (dC .non))) (dVar 3) [3, 4])) (dRet (dLc (srcL (dVar 2)) (.nm 3) (dB (dBin opEq (dCall d_blockers (dCons (dVar 0) (dCons (dVar 1) (dCons (dVar 3) dNil)))) (dLst dNil))) (dVar 3) [3])))
def d_movers_at : DF := dFn 2 5 b_movers_at
def b_highest : DS := (dRet (dIf (dB (dBin opNe (dVar 1) (dLst dNil))) (dMaxIx 0 (dCons (dVar 1) dNil)) (dC .non)))
def d_highest : DF := dFn 2 2 b_highest
def b_foremost : DS := (dSeq (dDrop (dCall d_ranked (dCons (dVar 0) (dCons (dVar 1) dNil)))) (dRet (dCall d_highest (dCons (dVar 1) (dCons (dCall d_movers_at (dCons (dVar 0) (dCons (dVar 2) dNil))) dNil)))))
def d_foremost : DF := dFn 3 3 b_foremost
def b_law_deck : DS := (dSeq (dSet 1 (dDisp [("great", (dLst dNil)), ("mixed", (dBin opAdd (dC (.int 1591378)) (dCall bLen (dCons (dSl (dVar 0) dNoPart (dPart (dC (.int 63)))) dNil)))), ("turns", (dC (.int 0)))])) (dSeq (dFor (srcL (dSl (dVar 0) dNoPart (dPart (dC (.int 63))))) (.nm 2) (dSeq (dSet 3 (dBin opAdd (dBin opMul (dC (.int 2)) (dCall bAbs (dCons (dVar 2) dNil))) (dCall bInt (dCons (dBin opLt (dVar 2) (dC (.int 0))) dNil)))) (dSeq (dIfS (dB (dBin opGe (dVar 3) (dBin opPow (dC (.int 10)) (dC (.int 16))))) (dDrop (dMth mAppend (dBin opDGet (dVar 1) (dC (.str "great"))) (dCons (dVar 3) dNil))) dSkip) (dDPut (dVar 1) "mixed" (dBin opMod (dCall bInt (dCons (dBin opAdd (dBin opAdd (dBin opMul (dBin opDGet (dVar 1) (dC (.str "mixed"))) (dC (.int 69621))) (dVar 3)) (dC (.int 29))) dNil)) (dC (.int 4294967291))))))) (dRet (dVar 1))))
def d_law_deck : DF := dFn 1 4 b_law_deck
def b_law_draw : DS := (dSeq (dIfS (dB (dBin opLt (dVar 1) (dC (.int 2)))) (dRet (dC (.int 0))) dSkip) (dSeq (dIfS (dB (dBin opNe (dBin opDGet (dVar 0) (dC (.str "great"))) (dLst dNil))) (dSeq (dSet 2 (dMth mPop (dBin opDGet (dVar 0) (dC (.str "great"))) dNil)) (dSeq (dIfS (dB (dBin opGe (dVar 2) (dVar 1))) (dDrop (dMth mAppend (dBin opDGet (dVar 0) (dC (.str "great"))) (dCons (dBin opFdiv (dVar 2) (dVar 1)) dNil))) dSkip) (dRet (dBin opMod (dCall bInt (dCons (dVar 2) dNil)) (dVar 1))))) dSkip) (dSeq (dDPut (dVar 0) "turns" (dBin opAdd (dBin opDGet (dVar 0) (dC (.str "turns"))) (dC (.int 1)))) (dSeq (dSet 3 (dBin opMod (dCall bInt (dCons (dBin opAdd (dBin opDGet (dVar 0) (dC (.str "mixed"))) (dBin opMul (dC (.int 2654435761)) (dBin opDGet (dVar 0) (dC (.str "turns"))))) dNil)) (dC (.int 4294967279)))) (dSeq (dSet 3 (dBin opMod (dCall bInt (dCons (dBin opAdd (dBin opAdd (dBin opMul (dVar 3) (dVar 3)) (dBin opMul (dC (.int 40692)) (dBin opDGet (dVar 0) (dC (.str "turns"))))) (dC (.int 23))) dNil)) (dC (.int 4294967231)))) (dSeq (dSet 3 (dBin opMod (dCall bInt (dCons (dBin opAdd (dBin opMul (dVar 3) (dVar 3)) (dBin opMul (dBin opDGet (dVar 0) (dC (.str "mixed"))) (dC (.int 11)))) dNil)) (dC (.int 4294967197)))) (dRet (dBin opMod (dCall bInt (dCons (dBin opFdiv (dVar 3) (dC (.int 64))) dNil)) (dVar 1)))))))))
def d_law_draw : DF := dFn 2 4 b_law_draw
def b_law_pick : DS := (dRet (dBin opIx (dVar 1) (dCall d_law_draw (dCons (dVar 0) (dCons (dCall bLen (dCons (dVar 1) dNil)) dNil)))))
def d_law_pick : DF := dFn 2 2 b_law_pick
def b_law_any (rec : DF) : DS := (dSeq (dSet 2 (dCall d_law_draw (dCons (dVar 0) (dCons (dIf (dB (dBin opGt (dVar 1) (dC (.int 0)))) (dC (.int 9)) (dC (.int 6))) dNil)))) (dSeq (dIfS (dB (dBin opLt (dVar 2) (dC (.int 6)))) (dRet (dBin opIx (dLst (dCons (dC .non) (dCons (dC (.bl true)) (dCons (dCall d_law_pick (dCons (dVar 0) (dCons (dLst (dCons (dC (.int 0)) (dCons (dC (.int 1)) (dCons (dC (.int 2)) (dCons (dC (.int 3)) (dCons (dNeg (dC (.int 1))) (dCons (dBin opPow (dC (.int 10)) (dC (.int 18))) dNil))))))) dNil))) (dCons (dC (.str "")) (dCons (dC (.str "on")) (dCons (dC (.str "in")) dNil))))))) (dVar 2))) dSkip) (dSeq (dSet 3 (dLc (rng1 (dCons (dCall d_law_draw (dCons (dVar 0) (dCons (dC (.int 4)) dNil))) dNil)) (.nm 4) dYes (dCall rec (dCons (dVar 0) (dCons (dBin opSub (dVar 1) (dC (.int 1))) dNil))) [4])) (dRet (dIf (dB (dBin opLt (dVar 2) (dC (.int 8)))) (dCall bTuple (dCons (dVar 3) dNil)) (dVar 3))))))
def d_law_any : Nat → DF
  | 0 => fun _ _ => .bad
  | k + 1 => dFn 2 5 (b_law_any (d_law_any k))
def b_law_way : DS := (dSeq (dAsg (.tp [(.nm 4), (.nm 5), (.nm 6)]) (dTup (dCons (dLst dNil) (dCons (dLst dNil) (dCons (dBin opAdd (dC (.int 2)) (dBin opMul (dC (.int 2)) (dCall d_law_draw (dCons (dVar 0) (dCons (dBin opFdiv (dVar 2) (dC (.int 2))) dNil))))) dNil))))) (dSeq (dFor (rng1 (dCons (dVar 6) dNil)) (.nm 7) (dSeq (dSet 8 (dLc (rng1 (dCons (dCall bLen (dCons (dVar 1) dNil)) dNil)) (.nm 11) (dB (dBin (opIn true) (dVar 11) (dVar 5))) (dVar 11) [11])) (dSeq (dSet 9 (dOrV (dBin opEq (dVar 8) (dLst dNil)) (dBin opEq (dBin opSub (dVar 6) (dVar 7)) (dCall bLen (dCons (dVar 5) dNil))))) (dIfS (dAnd (dB (dBin opNe (dVar 5) (dLst dNil))) (dOr (dB (dVar 9)) (dB (dBin opEq (dCall d_law_draw (dCons (dVar 0) (dCons (dC (.int 3)) dNil))) (dC (.int 0)))))) (dDrop (dMth mAppend (dVar 4) (dCons (dTup (dCons (dC (.str "out")) (dCons (dMth mPop (dVar 5) dNil) dNil))) dNil))) (dSeq (dSet 10 (dIf (dAnd (dB (dVar 3)) (dB (dBin opEq (dCall d_law_draw (dCons (dVar 0) (dCons (dC (.int 2)) dNil))) (dC (.int 0))))) (dC (.str "try")) (dC (.str "in")))) (dSeq (dDrop (dMth mAppend (dVar 5) (dCons (dCall d_law_pick (dCons (dVar 0) (dCons (dVar 8) dNil))) dNil))) (dDrop (dMth mAppend (dVar 4) (dCons (dTup (dCons (dVar 10) (dCons (dBin opIx (dVar 5) (dNeg (dC (.int 1)))) (dCons (dCall d_law_pick (dCons (dVar 0) (dCons (dBin opIx (dVar 1) (dBin opIx (dVar 5) (dNeg (dC (.int 1))))) dNil))) dNil)))) dNil))))))))) (dRet (dCall bTuple (dCons (dVar 4) dNil)))))
def d_law_way : DF := dFn 4 12 b_law_way
def b_law_beyond : DS := (dSeq (dPar [2, 3] (dCons (dC (.int 0)) (dCons (dVar 1) dNil))) (dSeq (dFor (srcT (dSl (dVar 0) (dPart (dVar 1)) dNoPart)) (.nm 4) (dSeq (dPar [2, 3] (dCons (dBin opAdd (dVar 2) (dIf (dB (dBin opEq (dBin opIx (dVar 4) (dC (.int 0))) (dC (.str "out")))) (dNeg (dC (.int 1))) (dC (.int 1)))) (dCons (dBin opAdd (dVar 3) (dC (.int 1))) dNil))) (dIfS (dB (dBin opEq (dVar 2) (dC (.int 0)))) dBrk dSkip))) (dRet (dVar 3))))
def d_law_beyond : DF := dFn 2 5 b_law_beyond
def b_law_plan : DS := (dSeq (dSet 1 (dLst dNil)) (dSeq (dFor (srcT (dBin opIx (dVar 0) (dC (.int 1)))) (.nm 2) (dSeq (dPar [3, 4] (dCons (dLst dNil) (dCons (dTup dNil) dNil))) (dSeq (dFor (enT (dCons (dVar 2) dNil)) (.tp [(.nm 5), (.nm 6)]) (dIfS (dB (dBin opEq (dBin opIx (dVar 6) (dC (.int 0))) (dC (.str "out")))) (dSeq (dDrop (dMth mAppend (dVar 3) (dCons (dTup (dCons (dVar 4) (dCons (dC .non) (dCons (dC (.bl false)) (dCons (dC (.int 0)) dNil))))) dNil))) (dSet 4 (dSl (dVar 4) dNoPart (dPart (dNeg (dC (.int 1))))))) (dSeq (dDrop (dMth mAppend (dVar 3) (dCons (dTup (dCons (dVar 4) (dCons (dSl (dVar 6) (dPart (dC (.int 1))) dNoPart) (dCons (dBin opEq (dBin opIx (dVar 6) (dC (.int 0))) (dC (.str "try"))) (dCons (dCall d_law_beyond (dCons (dVar 2) (dCons (dVar 5) dNil))) dNil))))) dNil))) (dSet 4 (dBin opAdd (dVar 4) (dTup (dCons (dSl (dVar 6) (dPart (dC (.int 1))) dNoPart) dNil))))))) (dDrop (dMth mAppend (dVar 1) (dCons (dVar 3) dNil)))))) (dRet (dVar 1))))
def d_law_plan : DF := dFn 1 7 b_law_plan
def b_law_meets : DS := (dSeq (dFor (srcT (dVar 2)) (.tp [(.nm 3), (.nm 4)]) (dIfS (dAnd (dB (dBin opEq (dVar 3) (dBin opIx (dVar 1) (dC (.int 0))))) (dOr (dB (dBin opEq (dBin opIx (dBin opIx (dBin opIx (dVar 0) (dC (.int 0))) (dVar 3)) (dC (.int 0))) (dC (.str "door")))) (dOr (dB (dBin opEq (dVar 4) (dC (.str "alone")))) (dB (dBin opEq (dBin opIx (dVar 1) (dC (.int 1))) (dC (.str "alone"))))))) (dRet (dC (.bl true))) dSkip)) (dRet (dC (.bl false))))
def d_law_meets : DF := dFn 3 5 b_law_meets
def b_law_bars : DS := (dSeq (dSet 5 (dLst dNil)) (dSeq (dFor (enT (dCons (dVar 2) dNil)) (.tp [(.nm 6), (.nm 7)]) (dIfS (dAnd (dB (dBin opNe (dVar 6) (dVar 3))) (dAnd (dB (dBin (opIsN true) (dVar 7) (dC .non))) (dB (dCall d_law_meets (dCons (dVar 0) (dCons (dVar 4) (dCons (dBin opIx (dBin opIx (dBin opIx (dVar 1) (dVar 6)) (dVar 7)) (dC (.int 0))) dNil))))))) (dDrop (dMth mAppend (dVar 5) (dCons (dVar 6) dNil))) dSkip)) (dRet (dVar 5))))
def d_law_bars : DF := dFn 5 8 b_law_bars
def b_law_put : DS := (dSeq (dSet 4 (dIf (dB (dBin opEq (dVar 3) (dCall bLen (dCons (dBin opIx (dVar 0) (dVar 2)) dNil)))) (dC .non) (dVar 3))) (dRet (dBin opAdd (dBin opAdd (dSl (dVar 1) dNoPart (dPart (dVar 2))) (dTup (dCons (dVar 4) dNil))) (dSl (dVar 1) (dPart (dBin opAdd (dVar 2) (dC (.int 1)))) dNoPart))))
def d_law_put : DF := dFn 4 5 b_law_put
def b_law_calm : DS := (dSeq (dSet 4 (dLc (rng1 (dCons (dVar 2) dNil)) (.nm 5) dYes (dCall d_law_pick (dCons (dVar 0) (dCons (dLst (dCons (dLst (dCons (dC (.str "alone")) dNil)) (dCons (dLst (dCons (dC (.str "alone")) (dCons (dC (.str "beside")) dNil))) dNil))) dNil))) [5])) (dRet (dTup (dCons (dBin opMul (dTup (dCons (dTup (dCons (dC (.str "store")) (dCons (dC .non) dNil))) dNil)) (dVar 2)) (dCons (dCall bTuple (dCons (dLc (rng1 (dCons (dVar 1) dNil)) (.nm 6) dYes (dCall d_law_way (dCons (dVar 0) (dCons (dVar 4) (dCons (dVar 3) (dCons (dC (.bl false)) dNil))))) [6]) dNil)) dNil)))))
def d_law_calm : DF := dFn 4 7 b_law_calm
def b_law_ranked : DS := (dSeq (dSet 2 (dLst (dCons (dNeg (dC (.int 3))) (dCons (dC (.int 0)) (dCons (dC (.int 1)) (dCons (dC (.int 2)) (dCons (dC (.int 7)) (dCons (dBin opPow (dC (.int 10)) (dC (.int 18))) dNil)))))))) (dRet (dCall bTuple (dCons (dLc (rng1 (dCons (dVar 1) dNil)) (.nm 3) dYes (dMth mPop (dVar 2) (dCons (dCall d_law_draw (dCons (dVar 0) (dCons (dCall bLen (dCons (dVar 2) dNil)) dNil))) dNil)) [3]) dNil))))
def d_law_ranked : DF := dFn 2 4 b_law_ranked
def b_law_foremost : DS := (dSeq (dSet 4 (dC .non)) (dSeq (dFor (enT (dCons (dVar 3) dNil)) (.tp [(.nm 5), (.nm 6)]) (dIfS (dAnd (dB (dBin (opIsN true) (dVar 6) (dC .non))) (dOr (dB (dBin (opIsN false) (dVar 4) (dC .non))) (dB (dBin opGt (dBin opIx (dVar 2) (dVar 5)) (dBin opIx (dVar 2) (dVar 4)))))) (dSeq (dSet 7 (dBin opIx (dBin opIx (dBin opIx (dVar 1) (dVar 5)) (dVar 6)) (dC (.int 1)))) (dIfS (dOr (dB (dBin (opIsN false) (dVar 7) (dC .non))) (dB (dBin opEq (dCall d_law_bars (dCons (dVar 0) (dCons (dVar 1) (dCons (dVar 3) (dCons (dVar 5) (dCons (dVar 7) dNil)))))) (dLst dNil)))) (dSet 4 (dVar 5)) dSkip)) dSkip)) (dRet (dVar 4))))
def d_law_foremost : DF := dFn 4 8 b_law_foremost
def b_law_no_calm : DS := (dSeq (dAsg (.tp [(.nm 2), (.nm 3)]) (dVar 1)) (dSeq (dAsg (.tp [(.nm 4), (.nm 5)]) (dTup (dCons (dCall d_law_draw (dCons (dVar 0) (dCons (dC (.int 3)) dNil))) (dCons (dCall bLen (dCons (dVar 3) dNil)) dNil)))) (dSeq (dIfS (dB (dBin opEq (dVar 4) (dC (.int 0)))) (dSeq (dSet 6 (dTup (dCons (dC (.str "ahead")) (dCons (dC (.str "kept")) (dCons (dC (.str "first")) (dCons (dC (.str "one")) (dCons (dC (.str "given")) (dCons (dC (.str "back")) (dCons (dC (.str "left")) (dCons (dC (.str "passes")) (dCons (dC (.str "behind")) (dCons (dC (.str "first")) dNil)))))))))))) (dRet (dTup (dCons (dBin opAdd (dSl (dVar 2) dNoPart (dPart (dNeg (dC (.int 1))))) (dTup (dCons (dTup (dCons (dC (.str "store")) (dCons (dVar 6) dNil))) dNil))) (dCons (dVar 3) dNil))))) dSkip) (dSeq (dSet 7 (dTup (dCons (dTup (dCons (dC (.str "try")) (dCons (dC (.int 0)) (dCons (dC (.str "alone")) dNil)))) (dCons (dTup (dCons (dC (.str "out")) (dCons (dC (.int 0)) dNil))) dNil)))) (dSeq (dIfS (dB (dBin opEq (dVar 4) (dC (.int 1)))) (dRet (dTup (dCons (dVar 2) (dCons (dBin opAdd (dSl (dVar 3) dNoPart (dPart (dNeg (dC (.int 1))))) (dTup (dCons (dVar 7) dNil))) dNil)))) dSkip) (dSeq (dSet 8 (dCall bTuple (dCons (dLc (rng1 (dCons (dVar 5) dNil)) (.nm 11) dYes (dCall bTuple (dCons (dLc (rng1 (dCons (dVar 5) dNil)) (.nm 10) (dB (dBin opNe (dVar 10) (dVar 11))) (dVar 10) [10]) dNil)) [11]) dNil))) (dSeq (dSet 9 (dCall bTuple (dCons (dLc (rng1 (dCons (dVar 5) dNil)) (.nm 11) dYes (dCall bTuple (dCons (dLc (rng1 (dCons (dVar 5) dNil)) (.nm 10) dYes (dIf (dB (dBin opEq (dVar 10) (dVar 11))) (dC (.str "-")) (dC (.str "bow"))) [10]) dNil)) [11]) dNil))) (dRet (dTup (dCons (dBin opAdd (dVar 2) (dTup (dCons (dTup (dCons (dC (.str "door")) (dCons (dVar 9) (dCons (dVar 8) dNil)))) dNil))) (dCons (dVar 3) dNil)))))))))))
def d_law_no_calm : DF := dFn 2 12 b_law_no_calm
def b_law_no_ranks : DS := (dSeq (dSet 2 (dLst (dCons (dC .non) (dCons (dCall bList (dCons (dVar 1) dNil)) (dCons (dBin opAdd (dVar 1) (dTup (dCons (dC (.int 77)) dNil))) (dCons (dSl (dVar 1) dNoPart (dPart (dNeg (dC (.int 1))))) (dCons (dBin opAdd (dTup (dCons (dC (.bl true)) dNil)) (dSl (dVar 1) (dPart (dC (.int 1))) dNoPart)) (dCons (dBin opAdd (dTup (dCons (dC (.str "1")) dNil)) (dSl (dVar 1) (dPart (dC (.int 1))) dNoPart)) (dCons (dTup dNil) dNil))))))))) (dRet (dCall d_law_pick (dCons (dVar 0) (dCons (dBin opAdd (dVar 2) (dBin opMul (dLst (dCons (dBin opAdd (dBin opMul (dSl (dVar 1) dNoPart (dPart (dC (.int 1)))) (dC (.int 2))) (dSl (dVar 1) (dPart (dC (.int 2))) dNoPart)) dNil)) (dCall bInt (dCons (dBin opGt (dCall bLen (dCons (dVar 1) dNil)) (dC (.int 1))) dNil)))) dNil)))))
def d_law_no_ranks : DF := dFn 2 3 b_law_no_ranks
def b_law_choice : DS := (dSeq (dSet 3 (dBin opMul (dTup (dCons (dC .non) dNil)) (dCall bLen (dCons (dVar 2) dNil)))) (dSeq (dFor (rng1 (dCons (dCall bLen (dCons (dVar 2) dNil)) dNil)) (.nm 4) (dSeq (dSet 5 (dCall d_law_draw (dCons (dVar 0) (dCons (dCall bLen (dCons (dBin opIx (dVar 2) (dVar 4)) dNil)) dNil)))) (dSeq (dSet 6 (dLc (srcT (dBin opIx (dBin opIx (dBin opIx (dVar 2) (dVar 4)) (dVar 5)) (dC (.int 0)))) (.nm 7) (dB (dBin opNe (dCall d_law_bars (dCons (dVar 1) (dCons (dVar 2) (dCons (dVar 3) (dCons (dVar 4) (dCons (dVar 7) dNil)))))) (dLst dNil))) (dVar 7) [7])) (dIfS (dAnd (dB (dBin opEq (dVar 6) (dLst dNil))) (dB (dBin opGt (dCall d_law_draw (dCons (dVar 0) (dCons (dC (.int 4)) dNil))) (dC (.int 0))))) (dSet 3 (dCall d_law_put (dCons (dVar 2) (dCons (dVar 3) (dCons (dVar 4) (dCons (dVar 5) dNil)))))) dSkip)))) (dRet (dVar 3))))
def d_law_choice : DF := dFn 3 8 b_law_choice
def b_law_error : DS := (dSeq (dIfS (dOr (dNot (dB (dIsI "tuple" (dVar 1)))) (dB (dBin opNe (dCall bLen (dCons (dVar 1) dNil)) (dVar 0)))) (dRet (dC (.str "form"))) dSkip) (dSeq (dFor (srcT (dVar 1)) (.nm 2) (dIfS (dOr (dNot (dB (dIsI "int" (dVar 2)))) (dB (dIsI "bool" (dVar 2)))) (dRet (dC (.str "form"))) dSkip)) (dSeq (dFor (rng1 (dCons (dVar 0) dNil)) (.nm 3) (dFor (rng2 (dCons (dBin opAdd (dVar 3) (dC (.int 1))) (dCons (dVar 0) dNil))) (.nm 4) (dIfS (dB (dBin opEq (dBin opIx (dVar 1) (dVar 3)) (dBin opIx (dVar 1) (dVar 4)))) (dRet (dTup (dCons (dC (.str "same")) (dCons (dVar 3) (dCons (dVar 4) dNil))))) dSkip))) (dRet (dC .non)))))
def d_law_error : DF := dFn 2 5 b_law_error
def b_law_is_refused : DS := (dSeq (dTryR (dIfS (dB (dBin opEq (dVar 3) (dC (.int 0)))) (dDrop (dCall d_ranks_error (dCons (dVar 0) (dCons (dVar 1) dNil)))) (dDrop (dCall d_foremost (dCons (dVar 0) (dCons (dVar 1) (dCons (dVar 2) dNil)))))) "Unfit" true) (dRet (dC (.bl false))))
def d_law_is_refused : DF := dFn 4 4 b_law_is_refused
def b_law : DS := (dSeq (dSet 1 (dCall d_law_deck (dCons (dVar 0) dNil))) (dSeq (dFor (rng1 (dCons (dC (.int 3)) dNil)) (.nm 2) (dSeq (dSet 3 (dCall d_law_pick (dCons (dVar 1) (dCons (dLst (dCons (dC (.int 1)) (dCons (dC (.int 2)) (dCons (dC (.int 3)) (dCons (dC (.int 4)) (dCons (dC (.int 5)) dNil)))))) dNil)))) (dSeq (dSet 4 (dCall d_law_calm (dCons (dVar 1) (dCons (dVar 3) (dCons (dBin opAdd (dC (.int 1)) (dCall d_law_draw (dCons (dVar 1) (dCons (dC (.int 4)) dNil)))) (dCons (dCall d_law_pick (dCons (dVar 1) (dCons (dLst (dCons (dC (.int 2)) (dCons (dC (.int 6)) (dCons (dC (.int 12)) (dCons (dC (.int 24)) dNil))))) dNil))) dNil)))))) (dSeq (dPar [5, 6, 7] (dCons (dCall d_law_plan (dCons (dVar 4) dNil)) (dCons (dCall d_law_ranked (dCons (dVar 1) (dCons (dVar 3) dNil))) (dCons (dCall bRepr (dCons (dVar 4) dNil)) dNil)))) (dSeq (dSet 8 (dCall bList (dCons (dVar 6) dNil))) (dSeq (dIPut (dVar 8) (dCall d_law_draw (dCons (dVar 1) (dCons (dVar 3) dNil))) (dBin opIx (dVar 6) (dCall d_law_draw (dCons (dVar 1) (dCons (dVar 3) dNil))))) (dSeq (dFor (srcT (dTup (dCons (dVar 6) (dCons (dCall bTuple (dCons (dVar 8) dNil)) (dCons (dBin opMul (dTup (dCons (dBin opIx (dVar 6) (dC (.int 0))) dNil)) (dVar 3)) (dCons (dCall d_law_no_ranks (dCons (dVar 1) (dCons (dVar 6) dNil))) (dCons (dCall (d_law_any 5) (dCons (dVar 1) (dCons (dC (.int 3)) dNil))) dNil))))))) (.nm 9) (dSeq (dPar [10, 11] (dCons (dCall d_law_error (dCons (dVar 3) (dCons (dVar 9) dNil))) (dCons (dCall bRepr (dCons (dVar 9) dNil)) dNil))) (dSeq (dSet 12 (dLst (dCons (dCall d_ranks_error (dCons (dVar 4) (dCons (dVar 9) dNil))) (dCons (dCallK d_ranks_error [1, 0] (dCons (dVar 9) (dCons (dVar 4) dNil))) dNil)))) (dIfS (dOr (dB (dBin opNe (dCall bRepr (dCons (dVar 12) dNil)) (dCall bRepr (dCons (dLst (dCons (dVar 10) (dCons (dVar 10) dNil))) dNil)))) (dB (dBin opNe (dCall bRepr (dCons (dVar 9) dNil)) (dVar 11)))) (dRet (dC (.bl false))) dSkip)))) (dSeq (dFor (rng1 (dCons (dC (.int 4)) dNil)) (.nm 13) (dSeq (dSet 14 (dCall d_law_choice (dCons (dVar 1) (dCons (dVar 4) (dCons (dVar 5) dNil))))) (dSeq (dSet 10 (dCall d_law_foremost (dCons (dVar 4) (dCons (dVar 5) (dCons (dVar 6) (dCons (dVar 14) dNil)))))) (dSeq (dSet 12 (dLst (dCons (dCall d_foremost (dCons (dVar 4) (dCons (dVar 6) (dCons (dVar 14) dNil)))) (dCons (dCallK d_foremost [2, 1, 0] (dCons (dVar 14) (dCons (dVar 6) (dCons (dVar 4) dNil)))) dNil)))) (dIfS (dB (dBin opNe (dCall bRepr (dCons (dVar 12) dNil)) (dCall bRepr (dCons (dLst (dCons (dVar 10) (dCons (dVar 10) dNil))) dNil)))) (dRet (dC (.bl false))) dSkip))))) (dSeq (dPar [15, 16] (dCons (dBin opMul (dTup (dCons (dC .non) dNil)) (dVar 3)) (dCons (dCall d_law_no_calm (dCons (dVar 1) (dCons (dVar 4) dNil))) dNil))) (dSeq (dIfS (dOr (dNot (dB (dCall d_law_is_refused (dCons (dVar 16) (dCons (dVar 6) (dCons (dVar 15) (dCons (dC (.int 0)) dNil))))))) (dNot (dB (dCall d_law_is_refused (dCons (dVar 16) (dCons (dVar 6) (dCons (dVar 15) (dCons (dC (.int 1)) dNil)))))))) (dRet (dC (.bl false))) dSkip) (dSeq (dSet 17 (dCall d_law_pick (dCons (dVar 1) (dCons (dLst (dCons (dCall d_law_no_ranks (dCons (dVar 1) (dCons (dVar 6) dNil))) (dCons (dCall d_law_no_ranks (dCons (dVar 1) (dCons (dVar 6) dNil))) dNil))) dNil)))) (dIfS (dOr (dAnd (dB (dBin (opIsN true) (dCall d_law_error (dCons (dVar 3) (dCons (dVar 17) dNil))) (dC .non))) (dNot (dB (dCall d_law_is_refused (dCons (dVar 4) (dCons (dVar 17) (dCons (dVar 15) (dCons (dC (.int 1)) dNil)))))))) (dB (dBin opNe (dCall bRepr (dCons (dVar 4) dNil)) (dVar 7)))) (dRet (dC (.bl false))) dSkip)))))))))))) (dRet (dC (.bl true)))))
def d_law : DF := dFn 1 18 b_law
end Dn
set_option Elab.async false
set_option linter.all false
set_option maxRecDepth 100000
set_option maxHeartbeats 4000000
/-! Ok_k78: each def keeps its denotation, printed by gen.py. -/
namespace Dn
open PySem PySem.Spec PyProof.Rows L2
def top (i : Nat) : Stmt := PySem.Challenge.pw_manylocks_k78_whole_ranks_and_who_is_for.main.body.getD i (.Pass ⟨0, 0, 0, 0⟩)
theorem bt_abs : bootBuiltins "abs" = some (.builtin "abs") := by decide +kernel
theorem bt_all : bootBuiltins "all" = some (.builtin "all") := by decide +kernel
theorem bt_bool : bootBuiltins "bool" = some (.type "bool") := by decide +kernel
theorem bt_enumerate : bootBuiltins "enumerate" = some (.type "enumerate") := by decide +kernel
theorem bt_int : bootBuiltins "int" = some (.type "int") := by decide +kernel
theorem bt_isinstance : bootBuiltins "isinstance" = some (.builtin "isinstance") := by decide +kernel
theorem bt_len : bootBuiltins "len" = some (.builtin "len") := by decide +kernel
theorem bt_list : bootBuiltins "list" = some (.type "list") := by decide +kernel
theorem bt_max : bootBuiltins "max" = some (.builtin "max") := by decide +kernel
theorem bt_range : bootBuiltins "range" = some (.type "range") := by decide +kernel
theorem bt_repr : bootBuiltins "repr" = some (.builtin "repr") := by decide +kernel
theorem bt_tuple : bootBuiltins "tuple" = some (.type "tuple") := by decide +kernel
structure Tx (K : PySem.W.Frag) (mg : Str → Option Value) (cl : Str → Value) : Prop where
  n_abs : mg "abs" = none
  n_all : mg "all" = none
  n_bool : mg "bool" = none
  n_enumerate : mg "enumerate" = none
  n_int : mg "int" = none
  n_isinstance : mg "isinstance" = none
  n_len : mg "len" = none
  n_list : mg "list" = none
  n_max : mg "max" = none
  n_range : mg "range" = none
  n_repr : mg "repr" = none
  n_tuple : mg "tuple" = none
  e_Unfit : Exn K mg cl "Unfit"
abbrev s_is_integer : Stmt := top 1
abbrev n_is_integer : List Str := ["value"]
theorem sc_is_integer : FnScope n_is_integer ["value"] (defScope s_is_integer) := ⟨rfl, rfl, rfl, by decide +kernel, rfl, by decide +kernel, by decide +kernel⟩
abbrev s_held : Stmt := top 6
abbrev n_held : List Str := ["way", "place", "inside", "step"]
theorem sc_held : FnScope n_held ["way", "place"] (defScope s_held) := ⟨rfl, rfl, rfl, by decide +kernel, rfl, by decide +kernel, by decide +kernel⟩
abbrev s_wish : Stmt := top 7
abbrev n_wish : List Str := ["way", "place", "step"]
theorem sc_wish : FnScope n_wish ["way", "place"] (defScope s_wish) := ⟨rfl, rfl, rfl, by decide +kernel, rfl, by decide +kernel, by decide +kernel⟩
abbrev s_is_door : Stmt := top 9
abbrev n_is_door : List Str := ["house", "room"]
theorem sc_is_door : FnScope n_is_door ["house", "room"] (defScope s_is_door) := ⟨rfl, rfl, rfl, by decide +kernel, rfl, by decide +kernel, by decide +kernel⟩
abbrev s_clash : Stmt := top 11
abbrev n_clash : List Str := ["house", "one", "other"]
theorem sc_clash : FnScope n_clash ["house", "one", "other"] (defScope s_clash) := ⟨rfl, rfl, rfl, by decide +kernel, rfl, by decide +kernel, by decide +kernel⟩
abbrev s_is_calm : Stmt := top 13
abbrev n_is_calm : List Str := ["house", "room", "step", "way"]
theorem sc_is_calm : FnScope n_is_calm ["house"] (defScope s_is_calm) := ⟨rfl, rfl, rfl, by decide +kernel, rfl, by decide +kernel, by decide +kernel⟩
abbrev s_calm : Stmt := top 14
abbrev n_calm : List Str := ["house"]
theorem sc_calm : FnScope n_calm ["house"] (defScope s_calm) := ⟨rfl, rfl, rfl, by decide +kernel, rfl, by decide +kernel, by decide +kernel⟩
abbrev s_ranked : Stmt := top 15
abbrev n_ranked : List Str := ["house", "ranks"]
theorem sc_ranked : FnScope n_ranked ["house", "ranks"] (defScope s_ranked) := ⟨rfl, rfl, rfl, by decide +kernel, rfl, by decide +kernel, by decide +kernel⟩
abbrev s_ranks_error : Stmt := top 16
abbrev n_ranks_error : List Str := ["house", "value", "many", "i", "j", "item"]
theorem sc_ranks_error : FnScope n_ranks_error ["house", "value"] (defScope s_ranks_error) := ⟨rfl, rfl, rfl, by decide +kernel, rfl, by decide +kernel, by decide +kernel⟩
abbrev s_things_at : Stmt := top 17
abbrev n_things_at : List Str := ["house", "choice", "hand"]
theorem sc_things_at : FnScope n_things_at ["house", "choice", "hand"] (defScope s_things_at) := ⟨rfl, rfl, rfl, by decide +kernel, rfl, by decide +kernel, by decide +kernel⟩
abbrev s_does_clash : Stmt := top 18
abbrev n_does_clash : List Str := ["house", "thing", "things", "other"]
theorem sc_does_clash : FnScope n_does_clash ["house", "thing", "things"] (defScope s_does_clash) := ⟨rfl, rfl, rfl, by decide +kernel, rfl, by decide +kernel, by decide +kernel⟩
abbrev s_blockers : Stmt := top 19
abbrev n_blockers : List Str := ["house", "choice", "hand", "thing", "others", "other"]
theorem sc_blockers : FnScope n_blockers ["house", "choice", "hand"] (defScope s_blockers) := ⟨rfl, rfl, rfl, by decide +kernel, rfl, by decide +kernel, by decide +kernel⟩
abbrev s_movers_at : Stmt := top 20
abbrev n_movers_at : List Str := ["house", "choice", "active", "hand", "place"]
theorem sc_movers_at : FnScope n_movers_at ["house", "choice"] (defScope s_movers_at) := ⟨rfl, rfl, rfl, by decide +kernel, rfl, by decide +kernel, by decide +kernel⟩
abbrev s_highest : Stmt := top 21
abbrev n_highest : List Str := ["ranks", "hands"]
theorem sc_highest : FnScope n_highest ["ranks", "hands"] (defScope s_highest) := ⟨rfl, rfl, rfl, by decide +kernel, rfl, by decide +kernel, by decide +kernel⟩
abbrev s_foremost : Stmt := top 22
abbrev n_foremost : List Str := ["house", "ranks", "choice"]
theorem sc_foremost : FnScope n_foremost ["house", "ranks", "choice"] (defScope s_foremost) := ⟨rfl, rfl, rfl, by decide +kernel, rfl, by decide +kernel, by decide +kernel⟩
abbrev s_law_deck : Stmt := top 24
abbrev n_law_deck : List Str := ["script", "deck", "cell", "own"]
theorem sc_law_deck : FnScope n_law_deck ["script"] (defScope s_law_deck) := ⟨rfl, rfl, rfl, by decide +kernel, rfl, by decide +kernel, by decide +kernel⟩
abbrev s_law_draw : Stmt := top 25
abbrev n_law_draw : List Str := ["deck", "many", "great", "number"]
theorem sc_law_draw : FnScope n_law_draw ["deck", "many"] (defScope s_law_draw) := ⟨rfl, rfl, rfl, by decide +kernel, rfl, by decide +kernel, by decide +kernel⟩
abbrev s_law_pick : Stmt := top 26
abbrev n_law_pick : List Str := ["deck", "row"]
theorem sc_law_pick : FnScope n_law_pick ["deck", "row"] (defScope s_law_pick) := ⟨rfl, rfl, rfl, by decide +kernel, rfl, by decide +kernel, by decide +kernel⟩
abbrev s_law_any : Stmt := top 27
abbrev n_law_any : List Str := ["deck", "deep", "sort", "items", "turn"]
theorem sc_law_any : FnScope n_law_any ["deck", "deep"] (defScope s_law_any) := ⟨rfl, rfl, rfl, by decide +kernel, rfl, by decide +kernel, by decide +kernel⟩
abbrev s_law_way : Stmt := top 28
abbrev n_law_way : List Str := ["deck", "modes", "most", "is_trying", "way", "inside", "many", "turn", "free", "is_full", "word", "room"]
theorem sc_law_way : FnScope n_law_way ["deck", "modes", "most", "is_trying"] (defScope s_law_way) := ⟨rfl, rfl, rfl, by decide +kernel, rfl, by decide +kernel, by decide +kernel⟩
abbrev s_law_beyond : Stmt := top 29
abbrev n_law_beyond : List Str := ["way", "place", "deep", "spot", "step"]
theorem sc_law_beyond : FnScope n_law_beyond ["way", "place"] (defScope s_law_beyond) := ⟨rfl, rfl, rfl, by decide +kernel, rfl, by decide +kernel, by decide +kernel⟩
abbrev s_law_plan : Stmt := top 30
abbrev n_law_plan : List Str := ["house", "plan", "way", "rows", "held_v", "place", "step"]
theorem sc_law_plan : FnScope n_law_plan ["house"] (defScope s_law_plan) := ⟨rfl, rfl, rfl, by decide +kernel, rfl, by decide +kernel, by decide +kernel⟩
abbrev s_law_meets : Stmt := top 31
abbrev n_law_meets : List Str := ["house", "thing", "held_v", "room", "mode"]
theorem sc_law_meets : FnScope n_law_meets ["house", "thing", "held_v"] (defScope s_law_meets) := ⟨rfl, rfl, rfl, by decide +kernel, rfl, by decide +kernel, by decide +kernel⟩
abbrev s_law_bars : Stmt := top 32
abbrev n_law_bars : List Str := ["house", "plan", "choice", "hand", "thing", "found", "own", "place"]
theorem sc_law_bars : FnScope n_law_bars ["house", "plan", "choice", "hand", "thing"] (defScope s_law_bars) := ⟨rfl, rfl, rfl, by decide +kernel, rfl, by decide +kernel, by decide +kernel⟩
abbrev s_law_put : Stmt := top 33
abbrev n_law_put : List Str := ["plan", "choice", "hand", "place", "spot"]
theorem sc_law_put : FnScope n_law_put ["plan", "choice", "hand", "place"] (defScope s_law_put) := ⟨rfl, rfl, rfl, by decide +kernel, rfl, by decide +kernel, by decide +kernel⟩
abbrev s_law_calm : Stmt := top 34
abbrev n_law_calm : List Str := ["deck", "hands", "rooms", "most", "modes", "room", "hand"]
theorem sc_law_calm : FnScope n_law_calm ["deck", "hands", "rooms", "most"] (defScope s_law_calm) := ⟨rfl, rfl, rfl, by decide +kernel, rfl, by decide +kernel, by decide +kernel⟩
abbrev s_law_ranked : Stmt := top 35
abbrev n_law_ranked : List Str := ["deck", "hands", "left", "hand"]
theorem sc_law_ranked : FnScope n_law_ranked ["deck", "hands"] (defScope s_law_ranked) := ⟨rfl, rfl, rfl, by decide +kernel, rfl, by decide +kernel, by decide +kernel⟩
abbrev s_law_foremost : Stmt := top 36
abbrev n_law_foremost : List Str := ["house", "plan", "ranks", "choice", "found", "hand", "place", "wish_v"]
theorem sc_law_foremost : FnScope n_law_foremost ["house", "plan", "ranks", "choice"] (defScope s_law_foremost) := ⟨rfl, rfl, rfl, by decide +kernel, rfl, by decide +kernel, by decide +kernel⟩
abbrev s_law_no_calm : Stmt := top 37
abbrev n_law_no_calm : List Str := ["deck", "house", "rooms", "ways", "sort", "many", "book", "way", "orders", "table", "other", "hand"]
theorem sc_law_no_calm : FnScope n_law_no_calm ["deck", "house"] (defScope s_law_no_calm) := ⟨rfl, rfl, rfl, by decide +kernel, rfl, by decide +kernel, by decide +kernel⟩
abbrev s_law_no_ranks : Stmt := top 38
abbrev n_law_no_ranks : List Str := ["deck", "ranks", "odd"]
theorem sc_law_no_ranks : FnScope n_law_no_ranks ["deck", "ranks"] (defScope s_law_no_ranks) := ⟨rfl, rfl, rfl, by decide +kernel, rfl, by decide +kernel, by decide +kernel⟩
abbrev s_law_choice : Stmt := top 39
abbrev n_law_choice : List Str := ["deck", "house", "plan", "choice", "hand", "place", "things", "thing"]
theorem sc_law_choice : FnScope n_law_choice ["deck", "house", "plan"] (defScope s_law_choice) := ⟨rfl, rfl, rfl, by decide +kernel, rfl, by decide +kernel, by decide +kernel⟩
abbrev s_law_error : Stmt := top 40
abbrev n_law_error : List Str := ["many", "value", "item", "i", "j"]
theorem sc_law_error : FnScope n_law_error ["many", "value"] (defScope s_law_error) := ⟨rfl, rfl, rfl, by decide +kernel, rfl, by decide +kernel, by decide +kernel⟩
abbrev s_law_is_refused : Stmt := top 41
abbrev n_law_is_refused : List Str := ["house", "ranks", "choice", "way"]
theorem sc_law_is_refused : FnScope n_law_is_refused ["house", "ranks", "choice", "way"] (defScope s_law_is_refused) := ⟨rfl, rfl, rfl, by decide +kernel, rfl, by decide +kernel, by decide +kernel⟩
abbrev s_law : Stmt := top 42
abbrev n_law : List Str := ["script", "deck", "turn", "hands", "house", "plan", "ranks", "kept", "twice", "value", "due", "shown", "told", "again", "choice", "rest", "odd", "wrong"]
theorem sc_law : FnScope n_law ["script"] (defScope s_law) := ⟨rfl, rfl, rfl, by decide +kernel, rfl, by decide +kernel, by decide +kernel⟩
section
variable {P : Program} {w : World} {K : PySem.W.Frag} {mg : Str → Option Value} {base : Heap} {cl : Str → Value}
theorem ok_is_integer (T : Tx K mg cl) {f : Addr} {fd : FuncData} (F : Fun K "is_integer" "is_integer" s_is_integer f fd) : FnOk P w K mg base (L2.CX P w) 1 f fd ["value"] (SpD K cl d_is_integer) := by
  refine fn_ok F sc_is_integer fun cdv A outer s H E hr => ?_
  have scN := sc_is_integer.nd
  have tk := takes_of (X := cxOf (L2.CX P w) P w K mg base n_is_integer "is_integer" (defScope s_is_integer) f cdv A outer s H E) (E := E) rfl rfl rfl rfl
  have hx := passes_call (E := E) tk (fun _ _ _ _ h => h)
  have hpo : PassesOwn (model P w) (cxOf (L2.CX P w) P w K mg base n_is_integer "is_integer" (defScope s_is_integer) f cdv A outer s H E).A (cxOf (L2.CX P w) P w K mg base n_is_integer "is_integer" (defScope s_is_integer) f cdv A outer s H E).env (cxOf (L2.CX P w) P w K mg base n_is_integer "is_integer" (defScope s_is_integer) f cdv A outer s H E).xe := passes_of (X := cxOf (L2.CX P w) P w K mg base n_is_integer "is_integer" (defScope s_is_integer) f cdv A outer s H E) rfl
  exact (sb_one (ss_ret (se_and (se_isi rfl T.n_isinstance bt_isinstance (se_var 0) rfl T.n_int bt_int) (se_one (se_not (se_isi rfl T.n_isinstance bt_isinstance (se_var 0) rfl T.n_bool bt_bool))))))
theorem ok_held (T : Tx K mg cl) {f : Addr} {fd : FuncData} (F : Fun K "held" "held" s_held f fd) : FnOk P w K mg base (L2.CX P w) 1 f fd ["way", "place"] (SpD K cl d_held) := by
  refine fn_ok F sc_held fun cdv A outer s H E hr => ?_
  have scN := sc_held.nd
  have tk := takes_of (X := cxOf (L2.CX P w) P w K mg base n_held "held" (defScope s_held) f cdv A outer s H E) (E := E) rfl rfl rfl rfl
  have hx := passes_call (E := E) tk (fun _ _ _ _ h => h)
  have hpo : PassesOwn (model P w) (cxOf (L2.CX P w) P w K mg base n_held "held" (defScope s_held) f cdv A outer s H E).A (cxOf (L2.CX P w) P w K mg base n_held "held" (defScope s_held) f cdv A outer s H E).env (cxOf (L2.CX P w) P w K mg base n_held "held" (defScope s_held) f cdv A outer s H E).xe := passes_of (X := cxOf (L2.CX P w) P w K mg base n_held "held" (defScope s_held) f cdv A outer s H E) rfl
  exact (sb_cons (ss_set (i := 2) scN rfl (Or.inl rfl) (se_lst sa_nil))
      (sb_cons (ss_for hpo rfl (so_tup (se_sl (se_var 0) so_none (so_some (se_var 1)))) (sg_name (i := 3) scN rfl (Or.inl rfl)) (sb_one (ss_if (st_cmp (od_ne hr.units) (se_ix (se_var 3) se_int) se_str (nomark _)) (sb_one (ss_expr (se_mth PySem.F.slot_list_append PySem.F.type_list_append md_append (se_var 2) (sa_cons (se_tup (sa_cons (se_ix (se_var 3) se_int) (sa_cons (se_ix (se_var 3) se_int) sa_nil))) sa_nil)))) (sb_one (ss_expr (se_mth0 PySem.F.slot_list_pop PySem.F.type_list_pop md_pop (se_var 2)))))))
      (sb_one (ss_ret (se_callTy cd_tuple rfl T.n_tuple bt_tuple (sa_cons (se_var 2) sa_nil))))))
theorem ok_wish (T : Tx K mg cl) {f : Addr} {fd : FuncData} (F : Fun K "wish" "wish" s_wish f fd) : FnOk P w K mg base (L2.CX P w) 1 f fd ["way", "place"] (SpD K cl d_wish) := by
  refine fn_ok F sc_wish fun cdv A outer s H E hr => ?_
  have scN := sc_wish.nd
  have tk := takes_of (X := cxOf (L2.CX P w) P w K mg base n_wish "wish" (defScope s_wish) f cdv A outer s H E) (E := E) rfl rfl rfl rfl
  have hx := passes_call (E := E) tk (fun _ _ _ _ h => h)
  have hpo : PassesOwn (model P w) (cxOf (L2.CX P w) P w K mg base n_wish "wish" (defScope s_wish) f cdv A outer s H E).A (cxOf (L2.CX P w) P w K mg base n_wish "wish" (defScope s_wish) f cdv A outer s H E).env (cxOf (L2.CX P w) P w K mg base n_wish "wish" (defScope s_wish) f cdv A outer s H E).xe := passes_of (X := cxOf (L2.CX P w) P w K mg base n_wish "wish" (defScope s_wish) f cdv A outer s H E) rfl
  exact (sb_cons (ss_set (i := 2) scN rfl (Or.inl rfl) (se_ix (se_var 0) (se_var 1)))
      (sb_one (ss_ret (se_if (st_cmp (od_ne hr.units) (se_ix (se_var 2) se_int) se_str (nomark _)) (se_tup (sa_cons (se_ix (se_var 2) se_int) (sa_cons (se_ix (se_var 2) se_int) sa_nil))) se_non))))
theorem ok_is_door (T : Tx K mg cl) {f : Addr} {fd : FuncData} (F : Fun K "is_door" "is_door" s_is_door f fd) : FnOk P w K mg base (L2.CX P w) 1 f fd ["house", "room"] (SpD K cl d_is_door) := by
  refine fn_ok F sc_is_door fun cdv A outer s H E hr => ?_
  have scN := sc_is_door.nd
  have tk := takes_of (X := cxOf (L2.CX P w) P w K mg base n_is_door "is_door" (defScope s_is_door) f cdv A outer s H E) (E := E) rfl rfl rfl rfl
  have hx := passes_call (E := E) tk (fun _ _ _ _ h => h)
  have hpo : PassesOwn (model P w) (cxOf (L2.CX P w) P w K mg base n_is_door "is_door" (defScope s_is_door) f cdv A outer s H E).A (cxOf (L2.CX P w) P w K mg base n_is_door "is_door" (defScope s_is_door) f cdv A outer s H E).env (cxOf (L2.CX P w) P w K mg base n_is_door "is_door" (defScope s_is_door) f cdv A outer s H E).xe := passes_of (X := cxOf (L2.CX P w) P w K mg base n_is_door "is_door" (defScope s_is_door) f cdv A outer s H E) rfl
  exact (sb_one (ss_ret (se_cmp (od_eq hr.units) (se_ix (se_ix (se_ix (se_var 0) se_int) (se_var 1)) se_int) se_str (nomark _))))
theorem ok_clash (T : Tx K mg cl) {f : Addr} {fd : FuncData} (F : Fun K "clash" "clash" s_clash f fd) (H_is_door : Has P w K mg base cl "is_door" 1 d_is_door) : FnOk P w K mg base (L2.CX P w) 2 f fd ["house", "one", "other"] (SpD K cl d_clash) := by
  refine fn_ok F sc_clash fun cdv A outer s H E hr => ?_
  have scN := sc_clash.nd
  have tk := takes_of (X := cxOf (L2.CX P w) P w K mg base n_clash "clash" (defScope s_clash) f cdv A outer s H E) (E := E) rfl rfl rfl rfl
  have hx := passes_call (E := E) tk (fun _ _ _ _ h => h)
  have hpo : PassesOwn (model P w) (cxOf (L2.CX P w) P w K mg base n_clash "clash" (defScope s_clash) f cdv A outer s H E).A (cxOf (L2.CX P w) P w K mg base n_clash "clash" (defScope s_clash) f cdv A outer s H E).env (cxOf (L2.CX P w) P w K mg base n_clash "clash" (defScope s_clash) f cdv A outer s H E).xe := passes_of (X := cxOf (L2.CX P w) P w K mg base n_clash "clash" (defScope s_clash) f cdv A outer s H E) rfl
  exact (sb_one (ss_ret (se_and (se_cmp (od_eq hr.units) (se_ix (se_var 1) se_int) (se_ix (se_var 2) se_int) (nomark _)) (se_one (se_or (se_call H_is_door (hr.mono (by decide)) rfl hx (sa_cons (se_var 0) (sa_cons (se_ix (se_var 1) se_int) sa_nil))) (se_or (se_cmp (od_eq hr.units) (se_ix (se_var 1) se_int) se_str (nomark _)) (se_one (se_cmp (od_eq hr.units) (se_ix (se_var 2) se_int) se_str (nomark _)))))))))
theorem ok_is_calm (T : Tx K mg cl) {f : Addr} {fd : FuncData} (F : Fun K "is_calm" "is_calm" s_is_calm f fd) : FnOk P w K mg base (L2.CX P w) 1 f fd ["house"] (SpD K cl d_is_calm) := by
  refine fn_ok F sc_is_calm fun cdv A outer s H E hr => ?_
  have scN := sc_is_calm.nd
  have tk := takes_of (X := cxOf (L2.CX P w) P w K mg base n_is_calm "is_calm" (defScope s_is_calm) f cdv A outer s H E) (E := E) rfl rfl rfl rfl
  have hx := passes_call (E := E) tk (fun _ _ _ _ h => h)
  have hpo : PassesOwn (model P w) (cxOf (L2.CX P w) P w K mg base n_is_calm "is_calm" (defScope s_is_calm) f cdv A outer s H E).A (cxOf (L2.CX P w) P w K mg base n_is_calm "is_calm" (defScope s_is_calm) f cdv A outer s H E).env (cxOf (L2.CX P w) P w K mg base n_is_calm "is_calm" (defScope s_is_calm) f cdv A outer s H E).xe := passes_of (X := cxOf (L2.CX P w) P w K mg base n_is_calm "is_calm" (defScope s_is_calm) f cdv A outer s H E) rfl
  exact (sb_cons (ss_if (st_cmp (od_ne hr.units) (se_lc (own := [("room", 1)]) rfl scN (so_tup (se_ix (se_var 0) se_int)) (blkOk_by (own := [("room", 1)]) (N := n_is_calm) (sc := (defScope s_is_calm)) (by decide +kernel)) (by decide) (fun _ _ _ _ _ => (sg_name (i := 1) scN rfl (Or.inl rfl))) (fun _ _ _ _ _ => (pts_one (st_cmp (od_ne hr.units) (se_var 1) (se_tup (sa_cons se_str (sa_cons se_non sa_nil))) (nomark _)))) (fun _ _ _ _ _ => (se_var 1))) (se_lst sa_nil) (nomark _)) (sb_one (ss_ret se_bl)) sb_nil)
      (sb_one (ss_ret (se_cmp (od_eq hr.units) (se_lc (own := [("way", 3)]) rfl scN (so_tup (se_ix (se_var 0) se_int)) (blkOk_by (own := [("way", 3)]) (N := n_is_calm) (sc := (defScope s_is_calm)) (by decide +kernel)) (by decide) (fun _ _ _ _ _ => (sg_name (i := 3) scN rfl (Or.inl rfl))) (fun _ _ _ _ _ => (pts_one (st_cmp (od_in hr.units) se_str (se_lc (own := [("step", 2)]) rfl scN (so_tup (se_var 3)) (blkOk_by (own := [("step", 2)]) (N := n_is_calm) (sc := (relS { kind := .function, names := [(".0", .local), ("way", .local)], isGenerator := false, isCoroutine := false, more := [] : Scope } (defScope s_is_calm))) (by decide +kernel)) (by decide) (fun _ _ _ _ _ => (sg_name (i := 2) scN rfl (Or.inl rfl))) (fun _ _ _ _ _ => pts_yes) (fun _ _ _ _ _ => (se_ix (se_var 2) se_int))) rfl))) (fun _ _ _ _ _ => (se_var 3))) (se_lst sa_nil) (nomark _)))))
theorem ok_calm (T : Tx K mg cl) {f : Addr} {fd : FuncData} (F : Fun K "calm" "calm" s_calm f fd) (H_is_calm : Has P w K mg base cl "is_calm" 1 d_is_calm) : FnOk P w K mg base (L2.CX P w) 2 f fd ["house"] (SpD K cl d_calm) := by
  refine fn_ok F sc_calm fun cdv A outer s H E hr => ?_
  have scN := sc_calm.nd
  have tk := takes_of (X := cxOf (L2.CX P w) P w K mg base n_calm "calm" (defScope s_calm) f cdv A outer s H E) (E := E) rfl rfl rfl rfl
  have hx := passes_call (E := E) tk (fun _ _ _ _ h => h)
  have hpo : PassesOwn (model P w) (cxOf (L2.CX P w) P w K mg base n_calm "calm" (defScope s_calm) f cdv A outer s H E).A (cxOf (L2.CX P w) P w K mg base n_calm "calm" (defScope s_calm) f cdv A outer s H E).env (cxOf (L2.CX P w) P w K mg base n_calm "calm" (defScope s_calm) f cdv A outer s H E).xe := passes_of (X := cxOf (L2.CX P w) P w K mg base n_calm "calm" (defScope s_calm) f cdv A outer s H E) rfl
  exact (sb_one (ss_if (st_not (st_val (se_call H_is_calm (hr.mono (by decide)) rfl hx (sa_cons (se_var 0) sa_nil)))) (sb_one (ss_raise T.e_Unfit rfl tk rfl)) sb_nil))
theorem ok_ranks_error (T : Tx K mg cl) {f : Addr} {fd : FuncData} (F : Fun K "ranks_error" "ranks_error" s_ranks_error f fd) (H_calm : Has P w K mg base cl "calm" 2 d_calm) (H_is_integer : Has P w K mg base cl "is_integer" 1 d_is_integer) : FnOk P w K mg base (L2.CX P w) 3 f fd ["house", "value"] (SpD K cl d_ranks_error) := by
  refine fn_ok F sc_ranks_error fun cdv A outer s H E hr => ?_
  have scN := sc_ranks_error.nd
  have tk := takes_of (X := cxOf (L2.CX P w) P w K mg base n_ranks_error "ranks_error" (defScope s_ranks_error) f cdv A outer s H E) (E := E) rfl rfl rfl rfl
  have hx := passes_call (E := E) tk (fun _ _ _ _ h => h)
  have hpo : PassesOwn (model P w) (cxOf (L2.CX P w) P w K mg base n_ranks_error "ranks_error" (defScope s_ranks_error) f cdv A outer s H E).A (cxOf (L2.CX P w) P w K mg base n_ranks_error "ranks_error" (defScope s_ranks_error) f cdv A outer s H E).env (cxOf (L2.CX P w) P w K mg base n_ranks_error "ranks_error" (defScope s_ranks_error) f cdv A outer s H E).xe := passes_of (X := cxOf (L2.CX P w) P w K mg base n_ranks_error "ranks_error" (defScope s_ranks_error) f cdv A outer s H E) rfl
  exact (sb_cons (ss_expr (se_call H_calm (hr.mono (by decide)) rfl hx (sa_cons (se_var 0) sa_nil)))
      (sb_cons (ss_set (i := 2) scN rfl (Or.inl rfl) (se_callB cd_len rfl T.n_len bt_len (sa_cons (se_ix (se_var 0) se_int) sa_nil)))
      (sb_cons (ss_if (PW.pt (sw_or (st_not (st_val (se_isi rfl T.n_isinstance bt_isinstance (se_var 1) rfl T.n_tuple bt_tuple))) (sw_or (st_cmp (od_ne hr.units) (se_callB cd_len rfl T.n_len bt_len (sa_cons (se_var 1) sa_nil)) (se_var 2) (nomark _)) (sw_or1 (st_not (st_val (se_callB (cd_all rfl) rfl T.n_all bt_all (sa_cons (se_lc (own := [("item", 5)]) rfl scN (so_tup (se_var 1)) (blkOk_by (own := [("item", 5)]) (N := n_ranks_error) (sc := (defScope s_ranks_error)) (by decide +kernel)) (by decide) (fun _ _ _ _ _ => (sg_name (i := 5) scN rfl (Or.inl rfl))) (fun _ _ _ _ _ => pts_yes) (fun _ _ _ _ _ => (se_call H_is_integer (hr.mono (by decide)) rfl passL (sa_cons (se_var 5) sa_nil)))) sa_nil)))))))) (sb_one (ss_ret se_str)) sb_nil)
      (sb_cons (ss_for hpo rfl (so_range1 rfl T.n_range (sa_cons (se_var 2) sa_nil)) (sg_name (i := 3) scN rfl (Or.inl rfl)) (sb_one (ss_for hpo rfl (so_range2 rfl T.n_range (sa_cons (se_bin od_add (se_var 3) se_int) (sa_cons (se_var 2) sa_nil))) (sg_name (i := 4) scN rfl (Or.inl rfl)) (sb_one (ss_if (st_cmp (od_eq hr.units) (se_ix (se_var 1) (se_var 3)) (se_ix (se_var 1) (se_var 4)) (nomark _)) (sb_one (ss_ret (se_tup (sa_cons se_str (sa_cons (se_var 3) (sa_cons (se_var 4) sa_nil)))))) sb_nil)))))
      (sb_one (ss_ret se_non))))))
theorem ok_ranked (T : Tx K mg cl) {f : Addr} {fd : FuncData} (F : Fun K "ranked" "ranked" s_ranked f fd) (H_ranks_error : Has P w K mg base cl "ranks_error" 3 d_ranks_error) : FnOk P w K mg base (L2.CX P w) 4 f fd ["house", "ranks"] (SpD K cl d_ranked) := by
  refine fn_ok F sc_ranked fun cdv A outer s H E hr => ?_
  have scN := sc_ranked.nd
  have tk := takes_of (X := cxOf (L2.CX P w) P w K mg base n_ranked "ranked" (defScope s_ranked) f cdv A outer s H E) (E := E) rfl rfl rfl rfl
  have hx := passes_call (E := E) tk (fun _ _ _ _ h => h)
  have hpo : PassesOwn (model P w) (cxOf (L2.CX P w) P w K mg base n_ranked "ranked" (defScope s_ranked) f cdv A outer s H E).A (cxOf (L2.CX P w) P w K mg base n_ranked "ranked" (defScope s_ranked) f cdv A outer s H E).env (cxOf (L2.CX P w) P w K mg base n_ranked "ranked" (defScope s_ranked) f cdv A outer s H E).xe := passes_of (X := cxOf (L2.CX P w) P w K mg base n_ranked "ranked" (defScope s_ranked) f cdv A outer s H E) rfl
  exact (sb_one (ss_if (st_cmp od_notN (se_call H_ranks_error (hr.mono (by decide)) rfl hx (sa_cons (se_var 0) (sa_cons (se_var 1) sa_nil))) se_non (nomark _)) (sb_one (ss_raise T.e_Unfit rfl tk rfl)) sb_nil))
theorem ok_things_at (T : Tx K mg cl) {f : Addr} {fd : FuncData} (F : Fun K "things_at" "things_at" s_things_at f fd) (H_held : Has P w K mg base cl "held" 1 d_held) : FnOk P w K mg base (L2.CX P w) 2 f fd ["house", "choice", "hand"] (SpD K cl d_things_at) := by
  refine fn_ok F sc_things_at fun cdv A outer s H E hr => ?_
  have scN := sc_things_at.nd
  have tk := takes_of (X := cxOf (L2.CX P w) P w K mg base n_things_at "things_at" (defScope s_things_at) f cdv A outer s H E) (E := E) rfl rfl rfl rfl
  have hx := passes_call (E := E) tk (fun _ _ _ _ h => h)
  have hpo : PassesOwn (model P w) (cxOf (L2.CX P w) P w K mg base n_things_at "things_at" (defScope s_things_at) f cdv A outer s H E).A (cxOf (L2.CX P w) P w K mg base n_things_at "things_at" (defScope s_things_at) f cdv A outer s H E).env (cxOf (L2.CX P w) P w K mg base n_things_at "things_at" (defScope s_things_at) f cdv A outer s H E).xe := passes_of (X := cxOf (L2.CX P w) P w K mg base n_things_at "things_at" (defScope s_things_at) f cdv A outer s H E) rfl
  exact (sb_one (ss_ret (se_if (st_cmp od_isN (se_ix (se_var 1) (se_var 2)) se_non (nomark _)) (se_tup sa_nil) (se_call H_held (hr.mono (by decide)) rfl hx (sa_cons (se_ix (se_ix (se_var 0) se_int) (se_var 2)) (sa_cons (se_ix (se_var 1) (se_var 2)) sa_nil))))))
theorem ok_does_clash (T : Tx K mg cl) {f : Addr} {fd : FuncData} (F : Fun K "does_clash" "does_clash" s_does_clash f fd) (H_clash : Has P w K mg base cl "clash" 2 d_clash) : FnOk P w K mg base (L2.CX P w) 3 f fd ["house", "thing", "things"] (SpD K cl d_does_clash) := by
  refine fn_ok F sc_does_clash fun cdv A outer s H E hr => ?_
  have scN := sc_does_clash.nd
  have tk := takes_of (X := cxOf (L2.CX P w) P w K mg base n_does_clash "does_clash" (defScope s_does_clash) f cdv A outer s H E) (E := E) rfl rfl rfl rfl
  have hx := passes_call (E := E) tk (fun _ _ _ _ h => h)
  have hpo : PassesOwn (model P w) (cxOf (L2.CX P w) P w K mg base n_does_clash "does_clash" (defScope s_does_clash) f cdv A outer s H E).A (cxOf (L2.CX P w) P w K mg base n_does_clash "does_clash" (defScope s_does_clash) f cdv A outer s H E).env (cxOf (L2.CX P w) P w K mg base n_does_clash "does_clash" (defScope s_does_clash) f cdv A outer s H E).xe := passes_of (X := cxOf (L2.CX P w) P w K mg base n_does_clash "does_clash" (defScope s_does_clash) f cdv A outer s H E) rfl
  exact (sb_one (ss_ret (se_cmp (od_ne hr.units) (se_lc (own := [("other", 3)]) rfl scN (so_tup (se_var 2)) (blkOk_by (own := [("other", 3)]) (N := n_does_clash) (sc := (defScope s_does_clash)) (by decide +kernel)) (by decide) (fun _ _ _ _ _ => (sg_name (i := 3) scN rfl (Or.inl rfl))) (fun _ _ _ _ _ => (pts_one (st_val (se_call H_clash (hr.mono (by decide)) rfl passL (sa_cons (se_var 0) (sa_cons (se_var 1) (sa_cons (se_var 3) sa_nil))))))) (fun _ _ _ _ _ => se_int)) (se_lst sa_nil) (nomark _))))
theorem ok_blockers (T : Tx K mg cl) {f : Addr} {fd : FuncData} (F : Fun K "blockers" "blockers" s_blockers f fd) (H_does_clash : Has P w K mg base cl "does_clash" 3 d_does_clash) (H_things_at : Has P w K mg base cl "things_at" 2 d_things_at) (H_wish : Has P w K mg base cl "wish" 1 d_wish) : FnOk P w K mg base (L2.CX P w) 4 f fd ["house", "choice", "hand"] (SpD K cl d_blockers) := by
  refine fn_ok F sc_blockers fun cdv A outer s H E hr => ?_
  have scN := sc_blockers.nd
  have tk := takes_of (X := cxOf (L2.CX P w) P w K mg base n_blockers "blockers" (defScope s_blockers) f cdv A outer s H E) (E := E) rfl rfl rfl rfl
  have hx := passes_call (E := E) tk (fun _ _ _ _ h => h)
  have hpo : PassesOwn (model P w) (cxOf (L2.CX P w) P w K mg base n_blockers "blockers" (defScope s_blockers) f cdv A outer s H E).A (cxOf (L2.CX P w) P w K mg base n_blockers "blockers" (defScope s_blockers) f cdv A outer s H E).env (cxOf (L2.CX P w) P w K mg base n_blockers "blockers" (defScope s_blockers) f cdv A outer s H E).xe := passes_of (X := cxOf (L2.CX P w) P w K mg base n_blockers "blockers" (defScope s_blockers) f cdv A outer s H E) rfl
  exact (sb_cons (ss_set (i := 3) scN rfl (Or.inr rfl) (se_if (st_cmp od_isN (se_ix (se_var 1) (se_var 2)) se_non (nomark _)) se_non (se_call H_wish (hr.mono (by decide)) rfl hx (sa_cons (se_ix (se_ix (se_var 0) se_int) (se_var 2)) (sa_cons (se_ix (se_var 1) (se_var 2)) sa_nil)))))
      (sb_cons (ss_if (st_cmp od_isN (se_var 3) se_non (nomark _)) (sb_one (ss_ret (se_lst sa_nil))) sb_nil)
      (sb_cons (ss_setLc (own := [("other", 5)]) (i := 4) rfl scN rfl rfl (sw_true rfl rfl rfl (by decide +kernel)) (so_range1 rfl T.n_range (sa_cons (se_callB cd_len rfl T.n_len bt_len (sa_cons (se_var 1) sa_nil)) sa_nil)) (blkOk_by (own := [("other", 5)]) (N := n_blockers) (sc := (defScope s_blockers)) (by decide +kernel)) (by decide) (fun _ _ _ _ _ => (sg_name (i := 5) scN rfl (Or.inl rfl))) (fun _ _ _ _ _ => (pts_one (st_cmp (od_ne hr.units) (se_var 5) (se_var 2) (nomark _)))) (fun _ _ _ _ _ => (se_var 5)))
      (sb_one (ss_ret (se_lc (own := [("other", 5)]) rfl scN (so_list (se_var 4)) (blkOk_by (own := [("other", 5)]) (N := n_blockers) (sc := (defScope s_blockers)) (by decide +kernel)) (by decide) (fun _ _ _ _ _ => (sg_name (i := 5) scN rfl (Or.inl rfl))) (fun _ _ _ _ _ => (pts_one (st_val (se_call H_does_clash (hr.mono (by decide)) rfl passL (sa_cons (se_var 0) (sa_cons (se_var 3) (sa_cons (se_call H_things_at (hr.mono (by decide)) rfl passL (sa_cons (se_var 0) (sa_cons (se_var 1) (sa_cons (se_var 5) sa_nil)))) sa_nil))))))) (fun _ _ _ _ _ => (se_var 5))))))))
theorem ok_movers_at (T : Tx K mg cl) {f : Addr} {fd : FuncData} (F : Fun K "movers_at" "movers_at" s_movers_at f fd) (H_blockers : Has P w K mg base cl "blockers" 4 d_blockers) : FnOk P w K mg base (L2.CX P w) 5 f fd ["house", "choice"] (SpD K cl d_movers_at) := by
  refine fn_ok F sc_movers_at fun cdv A outer s H E hr => ?_
  have scN := sc_movers_at.nd
  have tk := takes_of (X := cxOf (L2.CX P w) P w K mg base n_movers_at "movers_at" (defScope s_movers_at) f cdv A outer s H E) (E := E) rfl rfl rfl rfl
  have hx := passes_call (E := E) tk (fun _ _ _ _ h => h)
  have hpo : PassesOwn (model P w) (cxOf (L2.CX P w) P w K mg base n_movers_at "movers_at" (defScope s_movers_at) f cdv A outer s H E).A (cxOf (L2.CX P w) P w K mg base n_movers_at "movers_at" (defScope s_movers_at) f cdv A outer s H E).env (cxOf (L2.CX P w) P w K mg base n_movers_at "movers_at" (defScope s_movers_at) f cdv A outer s H E).xe := passes_of (X := cxOf (L2.CX P w) P w K mg base n_movers_at "movers_at" (defScope s_movers_at) f cdv A outer s H E) rfl
  exact (sb_cons (ss_setLc (own := [("hand", 3), ("place", 4)]) (i := 2) rfl scN rfl rfl (sw_true rfl rfl rfl (by decide +kernel)) (so_enumT rfl T.n_enumerate (sa_cons (se_var 1) sa_nil)) (blkOk_by (own := [("hand", 3), ("place", 4)]) (N := n_movers_at) (sc := (defScope s_movers_at)) (by decide +kernel)) (by decide) (fun _ _ _ _ _ => (sg_tup rfl (sgs_cons (sg_name (i := 3) scN rfl (Or.inl rfl)) (sgs_cons (sg_name (i := 4) scN rfl (Or.inl rfl)) sgs_nil)))) (fun _ _ _ _ _ => (pts_one (st_cmp od_notN (se_var 4) se_non (nomark _)))) (fun _ _ _ _ _ => (se_var 3)))
      (sb_one (ss_ret (se_lc (own := [("hand", 3)]) rfl scN (so_list (se_var 2)) (blkOk_by (own := [("hand", 3)]) (N := n_movers_at) (sc := (defScope s_movers_at)) (by decide +kernel)) (by decide) (fun _ _ _ _ _ => (sg_name (i := 3) scN rfl (Or.inl rfl))) (fun _ _ _ _ _ => (pts_one (st_cmp (od_eq hr.units) (se_call H_blockers (hr.mono (by decide)) rfl passL (sa_cons (se_var 0) (sa_cons (se_var 1) (sa_cons (se_var 3) sa_nil)))) (se_lst sa_nil) (nomark _)))) (fun _ _ _ _ _ => (se_var 3))))))
theorem ok_highest (T : Tx K mg cl) {f : Addr} {fd : FuncData} (F : Fun K "highest" "highest" s_highest f fd) (LF : LamF K base mg "highest" fd) : FnOk P w K mg base (L2.CX P w) 3 f fd ["ranks", "hands"] (SpD K cl d_highest) := by
  refine fn_okL F LF sc_highest fun cdv cdc cdP hcd TB hmT huT A outer s H E hr => ?_
  have scN := sc_highest.nd
  have tk := takes_of (X := cxOf (L2.CX P w) P w K mg base n_highest "highest" (defScope s_highest) f cdv A outer s H E) (E := E) rfl rfl rfl rfl
  have hx := passes_call (E := E) tk (fun _ _ _ _ h => h)
  have hpo : PassesOwn (model P w) (cxOf (L2.CX P w) P w K mg base n_highest "highest" (defScope s_highest) f cdv A outer s H E).A (cxOf (L2.CX P w) P w K mg base n_highest "highest" (defScope s_highest) f cdv A outer s H E).env (cxOf (L2.CX P w) P w K mg base n_highest "highest" (defScope s_highest) f cdv A outer s H E).xe := passes_of (X := cxOf (L2.CX P w) P w K mg base n_highest "highest" (defScope s_highest) f cdv A outer s H E) rfl
  exact (sb_one (ss_ret (se_if (st_cmp (od_ne hr.units) (se_var 1) (se_lst sa_nil) (nomark _)) (se_maxIx (y := "hand") (z := "ranks") (i := 0) (k0 := 0) TB hcd hmT huT (hr.mono (by decide)) (lamS1_by (sc := defScope s_highest) (by decide +kernel)) (show ("hand" : Str) ∉ n_highest by decide +kernel) (by rfl) (fun _ _ _ _ _ _ => rfl) rfl rfl rfl T.n_max bt_max (sa_cons (se_var 1) sa_nil) (by decide) (by decide) (by decide) (by decide) rfl rfl) se_non)))
theorem ok_foremost (T : Tx K mg cl) {f : Addr} {fd : FuncData} (F : Fun K "foremost" "foremost" s_foremost f fd) (H_highest : Has P w K mg base cl "highest" 3 d_highest) (H_movers_at : Has P w K mg base cl "movers_at" 5 d_movers_at) (H_ranked : Has P w K mg base cl "ranked" 4 d_ranked) : FnOk P w K mg base (L2.CX P w) 6 f fd ["house", "ranks", "choice"] (SpD K cl d_foremost) := by
  refine fn_ok F sc_foremost fun cdv A outer s H E hr => ?_
  have scN := sc_foremost.nd
  have tk := takes_of (X := cxOf (L2.CX P w) P w K mg base n_foremost "foremost" (defScope s_foremost) f cdv A outer s H E) (E := E) rfl rfl rfl rfl
  have hx := passes_call (E := E) tk (fun _ _ _ _ h => h)
  have hpo : PassesOwn (model P w) (cxOf (L2.CX P w) P w K mg base n_foremost "foremost" (defScope s_foremost) f cdv A outer s H E).A (cxOf (L2.CX P w) P w K mg base n_foremost "foremost" (defScope s_foremost) f cdv A outer s H E).env (cxOf (L2.CX P w) P w K mg base n_foremost "foremost" (defScope s_foremost) f cdv A outer s H E).xe := passes_of (X := cxOf (L2.CX P w) P w K mg base n_foremost "foremost" (defScope s_foremost) f cdv A outer s H E) rfl
  exact (sb_cons (ss_expr (se_call H_ranked (hr.mono (by decide)) rfl hx (sa_cons (se_var 0) (sa_cons (se_var 1) sa_nil))))
      (sb_one (ss_ret (se_call H_highest (hr.mono (by decide)) rfl hx (sa_cons (se_var 1) (sa_cons (se_call H_movers_at (hr.mono (by decide)) rfl hx (sa_cons (se_var 0) (sa_cons (se_var 2) sa_nil))) sa_nil))))))
theorem ok_law_deck (T : Tx K mg cl) {f : Addr} {fd : FuncData} (F : Fun K "_law_deck" "_law_deck" s_law_deck f fd) : FnOk P w K mg base (L2.CX P w) 1 f fd ["script"] (SpD K cl d_law_deck) := by
  refine fn_ok F sc_law_deck fun cdv A outer s H E hr => ?_
  have scN := sc_law_deck.nd
  have tk := takes_of (X := cxOf (L2.CX P w) P w K mg base n_law_deck "_law_deck" (defScope s_law_deck) f cdv A outer s H E) (E := E) rfl rfl rfl rfl
  have hx := passes_call (E := E) tk (fun _ _ _ _ h => h)
  have hpo : PassesOwn (model P w) (cxOf (L2.CX P w) P w K mg base n_law_deck "_law_deck" (defScope s_law_deck) f cdv A outer s H E).A (cxOf (L2.CX P w) P w K mg base n_law_deck "_law_deck" (defScope s_law_deck) f cdv A outer s H E).env (cxOf (L2.CX P w) P w K mg base n_law_deck "_law_deck" (defScope s_law_deck) f cdv A outer s H E).xe := passes_of (X := cxOf (L2.CX P w) P w K mg base n_law_deck "_law_deck" (defScope s_law_deck) f cdv A outer s H E) rfl
  exact (sb_cons (ss_set (i := 1) scN rfl (Or.inl rfl) (se_disp [("great", (dLst dNil)), ("mixed", (dBin opAdd (dC (.int 1591378)) (dCall bLen (dCons (dSl (dVar 0) dNoPart (dPart (dC (.int 63)))) dNil)))), ("turns", (dC (.int 0)))] (sp_cons (se_lst sa_nil) (sp_cons (se_bin od_add se_int (se_callB cd_len rfl T.n_len bt_len (sa_cons (se_sl (se_var 0) so_none (so_some se_int)) sa_nil))) (sp_cons se_int sp_nil))) rfl rfl (by simp) (by decide)))
      (sb_cons (ss_for hpo rfl (so_list (se_sl (se_var 0) so_none (so_some se_int))) (sg_name (i := 2) scN rfl (Or.inl rfl)) (sb_cons (ss_set (i := 3) scN rfl (Or.inl rfl) (se_bin od_add (se_bin od_mul se_int (se_callB cd_abs rfl T.n_abs bt_abs (sa_cons (se_var 2) sa_nil))) (se_callTy cd_int rfl T.n_int bt_int (sa_cons (se_cmp od_lt (se_var 2) se_int (nomark _)) sa_nil))))
      (sb_cons (ss_if (st_cmp od_ge (se_var 3) (se_bin od_pow se_int se_int) (nomark _)) (sb_one (ss_expr (se_mth PySem.F.slot_list_append PySem.F.type_list_append md_append (se_dget (hu_of hr) (se_var 1) se_str) (sa_cons (se_var 3) sa_nil)))) sb_nil)
      (sb_one (ss_dput (hu_of hr) (se_var 1) (se_bin od_mod (se_callTy cd_int rfl T.n_int bt_int (sa_cons (se_bin od_add (se_bin od_add (se_bin od_mul (se_dget (hu_of hr) (se_var 1) se_str) se_int) (se_var 3)) se_int) sa_nil)) se_int))))))
      (sb_one (ss_ret (se_var 1)))))
theorem ok_law_draw (T : Tx K mg cl) {f : Addr} {fd : FuncData} (F : Fun K "_law_draw" "_law_draw" s_law_draw f fd) : FnOk P w K mg base (L2.CX P w) 1 f fd ["deck", "many"] (SpD K cl d_law_draw) := by
  refine fn_ok F sc_law_draw fun cdv A outer s H E hr => ?_
  have scN := sc_law_draw.nd
  have tk := takes_of (X := cxOf (L2.CX P w) P w K mg base n_law_draw "_law_draw" (defScope s_law_draw) f cdv A outer s H E) (E := E) rfl rfl rfl rfl
  have hx := passes_call (E := E) tk (fun _ _ _ _ h => h)
  have hpo : PassesOwn (model P w) (cxOf (L2.CX P w) P w K mg base n_law_draw "_law_draw" (defScope s_law_draw) f cdv A outer s H E).A (cxOf (L2.CX P w) P w K mg base n_law_draw "_law_draw" (defScope s_law_draw) f cdv A outer s H E).env (cxOf (L2.CX P w) P w K mg base n_law_draw "_law_draw" (defScope s_law_draw) f cdv A outer s H E).xe := passes_of (X := cxOf (L2.CX P w) P w K mg base n_law_draw "_law_draw" (defScope s_law_draw) f cdv A outer s H E) rfl
  exact (sb_cons (ss_if (st_cmp od_lt (se_var 1) se_int (nomark _)) (sb_one (ss_ret se_int)) sb_nil)
      (sb_cons (ss_if (st_cmp (od_ne hr.units) (se_dget (hu_of hr) (se_var 0) se_str) (se_lst sa_nil) (nomark _)) (sb_cons (ss_set (i := 2) scN rfl (Or.inl rfl) (se_mth0 PySem.F.slot_list_pop PySem.F.type_list_pop md_pop (se_dget (hu_of hr) (se_var 0) se_str)))
      (sb_cons (ss_if (st_cmp od_ge (se_var 2) (se_var 1) (nomark _)) (sb_one (ss_expr (se_mth PySem.F.slot_list_append PySem.F.type_list_append md_append (se_dget (hu_of hr) (se_var 0) se_str) (sa_cons (se_bin od_fdiv (se_var 2) (se_var 1)) sa_nil)))) sb_nil)
      (sb_one (ss_ret (se_bin od_mod (se_callTy cd_int rfl T.n_int bt_int (sa_cons (se_var 2) sa_nil)) (se_var 1)))))) sb_nil)
      (sb_cons (ss_dput (hu_of hr) (se_var 0) (se_bin od_add (se_dget (hu_of hr) (se_var 0) se_str) se_int))
      (sb_cons (ss_set (i := 3) scN rfl (Or.inl rfl) (se_bin od_mod (se_callTy cd_int rfl T.n_int bt_int (sa_cons (se_bin od_add (se_dget (hu_of hr) (se_var 0) se_str) (se_bin od_mul se_int (se_dget (hu_of hr) (se_var 0) se_str))) sa_nil)) se_int))
      (sb_cons (ss_set (i := 3) scN rfl (Or.inl rfl) (se_bin od_mod (se_callTy cd_int rfl T.n_int bt_int (sa_cons (se_bin od_add (se_bin od_add (se_bin od_mul (se_var 3) (se_var 3)) (se_bin od_mul se_int (se_dget (hu_of hr) (se_var 0) se_str))) se_int) sa_nil)) se_int))
      (sb_cons (ss_set (i := 3) scN rfl (Or.inl rfl) (se_bin od_mod (se_callTy cd_int rfl T.n_int bt_int (sa_cons (se_bin od_add (se_bin od_mul (se_var 3) (se_var 3)) (se_bin od_mul (se_dget (hu_of hr) (se_var 0) se_str) se_int)) sa_nil)) se_int))
      (sb_one (ss_ret (se_bin od_mod (se_callTy cd_int rfl T.n_int bt_int (sa_cons (se_bin od_fdiv (se_var 3) se_int) sa_nil)) (se_var 1))))))))))
theorem ok_law_pick (T : Tx K mg cl) {f : Addr} {fd : FuncData} (F : Fun K "_law_pick" "_law_pick" s_law_pick f fd) (H_law_draw : Has P w K mg base cl "_law_draw" 1 d_law_draw) : FnOk P w K mg base (L2.CX P w) 2 f fd ["deck", "row"] (SpD K cl d_law_pick) := by
  refine fn_ok F sc_law_pick fun cdv A outer s H E hr => ?_
  have scN := sc_law_pick.nd
  have tk := takes_of (X := cxOf (L2.CX P w) P w K mg base n_law_pick "_law_pick" (defScope s_law_pick) f cdv A outer s H E) (E := E) rfl rfl rfl rfl
  have hx := passes_call (E := E) tk (fun _ _ _ _ h => h)
  have hpo : PassesOwn (model P w) (cxOf (L2.CX P w) P w K mg base n_law_pick "_law_pick" (defScope s_law_pick) f cdv A outer s H E).A (cxOf (L2.CX P w) P w K mg base n_law_pick "_law_pick" (defScope s_law_pick) f cdv A outer s H E).env (cxOf (L2.CX P w) P w K mg base n_law_pick "_law_pick" (defScope s_law_pick) f cdv A outer s H E).xe := passes_of (X := cxOf (L2.CX P w) P w K mg base n_law_pick "_law_pick" (defScope s_law_pick) f cdv A outer s H E) rfl
  exact (sb_one (ss_ret (se_ix (se_var 1) (se_call H_law_draw (hr.mono (by decide)) rfl hx (sa_cons (se_var 0) (sa_cons (se_callB cd_len rfl T.n_len bt_len (sa_cons (se_var 1) sa_nil)) sa_nil))))))
theorem ok_law_any (T : Tx K mg cl) {f : Addr} {fd : FuncData} (F : Fun K "_law_any" "_law_any" s_law_any f fd) (gF : mg "_law_any" = some (.ref f)) (bF : Binds K fd ["deck", "deep"] []) (H_law_draw : Has P w K mg base cl "_law_draw" 1 d_law_draw) (H_law_pick : Has P w K mg base cl "_law_pick" 2 d_law_pick) : ∀ j : Nat, j ≤ 5 → FnOk P w K mg base (L2.CX P w) (3 + j) f fd ["deck", "deep"] (SpD K cl (d_law_any j))
  | 0, _ => ⟨fun _ _ _ _ h => (by obtain ⟨_, _, _, _, _, P⟩ := h; exact P.elim), fun _ _ _ _ _ _ _ _ _ _ _ _ _ h => (by obtain ⟨_, _, _, _, _, P⟩ := h; exact P.elim)⟩
  | j + 1, hj => by
    have H_law_any : Has P w K mg base cl "_law_any" (3 + j) (d_law_any j) := ⟨f, fd, ["deck", "deep"], ok_law_any T F gF bF H_law_draw H_law_pick j (by omega), gF, F.kp, bF⟩
    refine fn_ok (k := 3 + j) F sc_law_any fun cdv A outer s H E hr => ?_
    have scN := sc_law_any.nd
    have tk := takes_of (X := cxOf (L2.CX P w) P w K mg base n_law_any "_law_any" (defScope s_law_any) f cdv A outer s H E) (E := E) rfl rfl rfl rfl
    have hx := passes_call (E := E) tk (fun _ _ _ _ h => h)
    have hpo : PassesOwn (model P w) (cxOf (L2.CX P w) P w K mg base n_law_any "_law_any" (defScope s_law_any) f cdv A outer s H E).A (cxOf (L2.CX P w) P w K mg base n_law_any "_law_any" (defScope s_law_any) f cdv A outer s H E).env (cxOf (L2.CX P w) P w K mg base n_law_any "_law_any" (defScope s_law_any) f cdv A outer s H E).xe := passes_of (X := cxOf (L2.CX P w) P w K mg base n_law_any "_law_any" (defScope s_law_any) f cdv A outer s H E) rfl
    exact (sb_cons (ss_set (i := 2) scN rfl (Or.inl rfl) (se_call H_law_draw (hr.mono (by omega)) rfl hx (sa_cons (se_var 0) (sa_cons (se_if (st_cmp od_gt (se_var 1) se_int (nomark _)) se_int se_int) sa_nil))))
      (sb_cons (ss_if (st_cmp od_lt (se_var 2) se_int (nomark _)) (sb_one (ss_ret (se_ix (se_lst (sa_cons se_non (sa_cons se_bl (sa_cons (se_call H_law_pick (hr.mono (by omega)) rfl hx (sa_cons (se_var 0) (sa_cons (se_lst (sa_cons se_int (sa_cons se_int (sa_cons se_int (sa_cons se_int (sa_cons (se_neg se_int) (sa_cons (se_bin od_pow se_int se_int) sa_nil))))))) sa_nil))) (sa_cons se_str (sa_cons se_str (sa_cons se_str sa_nil))))))) (se_var 2)))) sb_nil)
      (sb_cons (ss_setLc (own := [("turn", 4)]) (i := 3) rfl scN rfl rfl (sw_true rfl rfl rfl (by decide +kernel)) (so_range1 rfl T.n_range (sa_cons (se_call H_law_draw (hr.mono (by omega)) rfl hx (sa_cons (se_var 0) (sa_cons se_int sa_nil))) sa_nil)) (blkOk_by (own := [("turn", 4)]) (N := n_law_any) (sc := (defScope s_law_any)) (by decide +kernel)) (by decide) (fun _ _ _ _ _ => (sg_name (i := 4) scN rfl (Or.inl rfl))) (fun _ _ _ _ _ => pts_yes) (fun _ _ _ _ _ => (se_call H_law_any hr rfl passL (sa_cons (se_var 0) (sa_cons (se_bin od_sub (se_var 1) se_int) sa_nil)))))
      (sb_one (ss_ret (se_if (st_cmp od_lt (se_var 2) se_int (nomark _)) (se_callTy cd_tuple rfl T.n_tuple bt_tuple (sa_cons (se_var 3) sa_nil)) (se_var 3)))))))
theorem ok_law_way (T : Tx K mg cl) {f : Addr} {fd : FuncData} (F : Fun K "_law_way" "_law_way" s_law_way f fd) (H_law_draw : Has P w K mg base cl "_law_draw" 1 d_law_draw) (H_law_pick : Has P w K mg base cl "_law_pick" 2 d_law_pick) : FnOk P w K mg base (L2.CX P w) 3 f fd ["deck", "modes", "most", "is_trying"] (SpD K cl d_law_way) := by
  refine fn_ok F sc_law_way fun cdv A outer s H E hr => ?_
  have scN := sc_law_way.nd
  have tk := takes_of (X := cxOf (L2.CX P w) P w K mg base n_law_way "_law_way" (defScope s_law_way) f cdv A outer s H E) (E := E) rfl rfl rfl rfl
  have hx := passes_call (E := E) tk (fun _ _ _ _ h => h)
  have hpo : PassesOwn (model P w) (cxOf (L2.CX P w) P w K mg base n_law_way "_law_way" (defScope s_law_way) f cdv A outer s H E).A (cxOf (L2.CX P w) P w K mg base n_law_way "_law_way" (defScope s_law_way) f cdv A outer s H E).env (cxOf (L2.CX P w) P w K mg base n_law_way "_law_way" (defScope s_law_way) f cdv A outer s H E).xe := passes_of (X := cxOf (L2.CX P w) P w K mg base n_law_way "_law_way" (defScope s_law_way) f cdv A outer s H E) rfl
  exact (sb_cons (ss_asg (se_tup (sa_cons (se_lst sa_nil) (sa_cons (se_lst sa_nil) (sa_cons (se_bin od_add se_int (se_bin od_mul se_int (se_call H_law_draw (hr.mono (by decide)) rfl hx (sa_cons (se_var 0) (sa_cons (se_bin od_fdiv (se_var 2) se_int) sa_nil))))) sa_nil)))) (sg_tup rfl (sgs_cons (sg_name (i := 4) scN rfl (Or.inl rfl)) (sgs_cons (sg_name (i := 5) scN rfl (Or.inr rfl)) (sgs_cons (sg_name (i := 6) scN rfl (Or.inl rfl)) sgs_nil)))))
      (sb_cons (ss_for hpo rfl (so_range1 rfl T.n_range (sa_cons (se_var 6) sa_nil)) (sg_name (i := 7) scN rfl (Or.inl rfl)) (sb_cons (ss_setLc (own := [("room", 11)]) (i := 8) rfl scN rfl rfl (sw_true rfl rfl rfl (by decide +kernel)) (so_range1 rfl T.n_range (sa_cons (se_callB cd_len rfl T.n_len bt_len (sa_cons (se_var 1) sa_nil)) sa_nil)) (blkOk_by (own := [("room", 11)]) (N := n_law_way) (sc := (defScope s_law_way)) (by decide +kernel)) (by decide) (fun _ _ _ _ _ => (sg_name (i := 11) scN rfl (Or.inl rfl))) (fun _ _ _ _ _ => (pts_one (st_cmp (od_notIn hr.units) (se_var 11) (se_var 5) rfl))) (fun _ _ _ _ _ => (se_var 11)))
      (sb_cons (ss_set (i := 9) scN rfl (Or.inl rfl) (se_or (se_cmp (od_eq hr.units) (se_var 8) (se_lst sa_nil) (nomark _)) (se_one (se_cmp (od_eq hr.units) (se_bin od_sub (se_var 6) (se_var 7)) (se_callB cd_len rfl T.n_len bt_len (sa_cons (se_var 5) sa_nil)) (nomark _)))))
      (sb_one (ss_if (PW.pt (sw_and (st_cmp (od_ne hr.units) (se_var 5) (se_lst sa_nil) (nomark _)) (sw_and1 (PW.pt (sw_or (st_val (se_var 9)) (sw_or1 (st_cmp (od_eq hr.units) (se_call H_law_draw (hr.mono (by decide)) rfl hx (sa_cons (se_var 0) (sa_cons se_int sa_nil))) se_int (nomark _)))))))) (sb_one (ss_expr (se_mth PySem.F.slot_list_append PySem.F.type_list_append md_append (se_var 4) (sa_cons (se_tup (sa_cons se_str (sa_cons (se_mth0 PySem.F.slot_list_pop PySem.F.type_list_pop md_pop (se_var 5)) sa_nil))) sa_nil)))) (sb_cons (ss_set (i := 10) scN rfl (Or.inl rfl) (se_if (PW.pt (sw_and (st_val (se_var 3)) (sw_and1 (st_cmp (od_eq hr.units) (se_call H_law_draw (hr.mono (by decide)) rfl hx (sa_cons (se_var 0) (sa_cons se_int sa_nil))) se_int (nomark _))))) se_str se_str))
      (sb_cons (ss_expr (se_mth PySem.F.slot_list_append PySem.F.type_list_append md_append (se_var 5) (sa_cons (se_call H_law_pick (hr.mono (by decide)) rfl hx (sa_cons (se_var 0) (sa_cons (se_var 8) sa_nil))) sa_nil)))
      (sb_one (ss_expr (se_mth PySem.F.slot_list_append PySem.F.type_list_append md_append (se_var 4) (sa_cons (se_tup (sa_cons (se_var 10) (sa_cons (se_ix (se_var 5) (se_neg se_int)) (sa_cons (se_call H_law_pick (hr.mono (by decide)) rfl hx (sa_cons (se_var 0) (sa_cons (se_ix (se_var 1) (se_ix (se_var 5) (se_neg se_int))) sa_nil))) sa_nil)))) sa_nil)))))))))))
      (sb_one (ss_ret (se_callTy cd_tuple rfl T.n_tuple bt_tuple (sa_cons (se_var 4) sa_nil))))))
theorem ok_law_beyond (T : Tx K mg cl) {f : Addr} {fd : FuncData} (F : Fun K "_law_beyond" "_law_beyond" s_law_beyond f fd) : FnOk P w K mg base (L2.CX P w) 1 f fd ["way", "place"] (SpD K cl d_law_beyond) := by
  refine fn_ok F sc_law_beyond fun cdv A outer s H E hr => ?_
  have scN := sc_law_beyond.nd
  have tk := takes_of (X := cxOf (L2.CX P w) P w K mg base n_law_beyond "_law_beyond" (defScope s_law_beyond) f cdv A outer s H E) (E := E) rfl rfl rfl rfl
  have hx := passes_call (E := E) tk (fun _ _ _ _ h => h)
  have hpo : PassesOwn (model P w) (cxOf (L2.CX P w) P w K mg base n_law_beyond "_law_beyond" (defScope s_law_beyond) f cdv A outer s H E).A (cxOf (L2.CX P w) P w K mg base n_law_beyond "_law_beyond" (defScope s_law_beyond) f cdv A outer s H E).env (cxOf (L2.CX P w) P w K mg base n_law_beyond "_law_beyond" (defScope s_law_beyond) f cdv A outer s H E).xe := passes_of (X := cxOf (L2.CX P w) P w K mg base n_law_beyond "_law_beyond" (defScope s_law_beyond) f cdv A outer s H E) rfl
  exact (sb_cons (ss_par (i := 2) (j := 3) rfl scN rfl rfl (by decide) rfl rfl (sa_cons se_int (sa_cons (se_var 1) sa_nil)) (by rfl))
      (sb_cons (ss_for hpo rfl (so_tup (se_sl (se_var 0) (so_some (se_var 1)) so_none)) (sg_name (i := 4) scN rfl (Or.inl rfl)) (sb_cons (ss_par (i := 2) (j := 3) rfl scN rfl rfl (by decide) rfl rfl (sa_cons (se_bin od_add (se_var 2) (se_if (st_cmp (od_eq hr.units) (se_ix (se_var 4) se_int) se_str (nomark _)) (se_neg se_int) se_int)) (sa_cons (se_bin od_add (se_var 3) se_int) sa_nil)) (by rfl))
      (sb_one (ss_if (st_cmp (od_eq hr.units) (se_var 2) se_int (nomark _)) (sb_one ss_break) sb_nil))))
      (sb_one (ss_ret (se_var 3)))))
theorem ok_law_plan (T : Tx K mg cl) {f : Addr} {fd : FuncData} (F : Fun K "_law_plan" "_law_plan" s_law_plan f fd) (H_law_beyond : Has P w K mg base cl "_law_beyond" 1 d_law_beyond) : FnOk P w K mg base (L2.CX P w) 2 f fd ["house"] (SpD K cl d_law_plan) := by
  refine fn_ok F sc_law_plan fun cdv A outer s H E hr => ?_
  have scN := sc_law_plan.nd
  have tk := takes_of (X := cxOf (L2.CX P w) P w K mg base n_law_plan "_law_plan" (defScope s_law_plan) f cdv A outer s H E) (E := E) rfl rfl rfl rfl
  have hx := passes_call (E := E) tk (fun _ _ _ _ h => h)
  have hpo : PassesOwn (model P w) (cxOf (L2.CX P w) P w K mg base n_law_plan "_law_plan" (defScope s_law_plan) f cdv A outer s H E).A (cxOf (L2.CX P w) P w K mg base n_law_plan "_law_plan" (defScope s_law_plan) f cdv A outer s H E).env (cxOf (L2.CX P w) P w K mg base n_law_plan "_law_plan" (defScope s_law_plan) f cdv A outer s H E).xe := passes_of (X := cxOf (L2.CX P w) P w K mg base n_law_plan "_law_plan" (defScope s_law_plan) f cdv A outer s H E) rfl
  exact (sb_cons (ss_set (i := 1) scN rfl (Or.inl rfl) (se_lst sa_nil))
      (sb_cons (ss_for hpo rfl (so_tup (se_ix (se_var 0) se_int)) (sg_name (i := 2) scN rfl (Or.inl rfl)) (sb_cons (ss_par (i := 3) (j := 4) rfl scN rfl rfl (by decide) rfl rfl (sa_cons (se_lst sa_nil) (sa_cons (se_tup sa_nil) sa_nil)) (by rfl))
      (sb_cons (ss_for hpo rfl (so_enumT rfl T.n_enumerate (sa_cons (se_var 2) sa_nil)) (sg_tup rfl (sgs_cons (sg_name (i := 5) scN rfl (Or.inl rfl)) (sgs_cons (sg_name (i := 6) scN rfl (Or.inl rfl)) sgs_nil))) (sb_one (ss_if (st_cmp (od_eq hr.units) (se_ix (se_var 6) se_int) se_str (nomark _)) (sb_cons (ss_expr (se_mth PySem.F.slot_list_append PySem.F.type_list_append md_append (se_var 3) (sa_cons (se_tup (sa_cons (se_var 4) (sa_cons se_non (sa_cons se_bl (sa_cons se_int sa_nil))))) sa_nil)))
      (sb_one (ss_set (i := 4) scN rfl (Or.inl rfl) (se_sl (se_var 4) so_none (so_some (se_neg se_int)))))) (sb_cons (ss_expr (se_mth PySem.F.slot_list_append PySem.F.type_list_append md_append (se_var 3) (sa_cons (se_tup (sa_cons (se_var 4) (sa_cons (se_sl (se_var 6) (so_some se_int) so_none) (sa_cons (se_cmp (od_eq hr.units) (se_ix (se_var 6) se_int) se_str (nomark _)) (sa_cons (se_call H_law_beyond (hr.mono (by decide)) rfl hx (sa_cons (se_var 2) (sa_cons (se_var 5) sa_nil))) sa_nil))))) sa_nil)))
      (sb_one (ss_set (i := 4) scN rfl (Or.inl rfl) (se_bin od_add (se_var 4) (se_tup (sa_cons (se_sl (se_var 6) (so_some se_int) so_none) sa_nil)))))))))
      (sb_one (ss_expr (se_mth PySem.F.slot_list_append PySem.F.type_list_append md_append (se_var 1) (sa_cons (se_var 3) sa_nil)))))))
      (sb_one (ss_ret (se_var 1)))))
theorem ok_law_meets (T : Tx K mg cl) {f : Addr} {fd : FuncData} (F : Fun K "_law_meets" "_law_meets" s_law_meets f fd) : FnOk P w K mg base (L2.CX P w) 1 f fd ["house", "thing", "held_v"] (SpD K cl d_law_meets) := by
  refine fn_ok F sc_law_meets fun cdv A outer s H E hr => ?_
  have scN := sc_law_meets.nd
  have tk := takes_of (X := cxOf (L2.CX P w) P w K mg base n_law_meets "_law_meets" (defScope s_law_meets) f cdv A outer s H E) (E := E) rfl rfl rfl rfl
  have hx := passes_call (E := E) tk (fun _ _ _ _ h => h)
  have hpo : PassesOwn (model P w) (cxOf (L2.CX P w) P w K mg base n_law_meets "_law_meets" (defScope s_law_meets) f cdv A outer s H E).A (cxOf (L2.CX P w) P w K mg base n_law_meets "_law_meets" (defScope s_law_meets) f cdv A outer s H E).env (cxOf (L2.CX P w) P w K mg base n_law_meets "_law_meets" (defScope s_law_meets) f cdv A outer s H E).xe := passes_of (X := cxOf (L2.CX P w) P w K mg base n_law_meets "_law_meets" (defScope s_law_meets) f cdv A outer s H E) rfl
  exact (sb_cons (ss_for hpo rfl (so_tup (se_var 2)) (sg_tup rfl (sgs_cons (sg_name (i := 3) scN rfl (Or.inl rfl)) (sgs_cons (sg_name (i := 4) scN rfl (Or.inl rfl)) sgs_nil))) (sb_one (ss_if (PW.pt (sw_and (st_cmp (od_eq hr.units) (se_var 3) (se_ix (se_var 1) se_int) (nomark _)) (sw_and1 (PW.pt (sw_or (st_cmp (od_eq hr.units) (se_ix (se_ix (se_ix (se_var 0) se_int) (se_var 3)) se_int) se_str (nomark _)) (sw_or (st_cmp (od_eq hr.units) (se_var 4) se_str (nomark _)) (sw_or1 (st_cmp (od_eq hr.units) (se_ix (se_var 1) se_int) se_str (nomark _))))))))) (sb_one (ss_ret se_bl)) sb_nil)))
      (sb_one (ss_ret se_bl)))
theorem ok_law_bars (T : Tx K mg cl) {f : Addr} {fd : FuncData} (F : Fun K "_law_bars" "_law_bars" s_law_bars f fd) (H_law_meets : Has P w K mg base cl "_law_meets" 1 d_law_meets) : FnOk P w K mg base (L2.CX P w) 2 f fd ["house", "plan", "choice", "hand", "thing"] (SpD K cl d_law_bars) := by
  refine fn_ok F sc_law_bars fun cdv A outer s H E hr => ?_
  have scN := sc_law_bars.nd
  have tk := takes_of (X := cxOf (L2.CX P w) P w K mg base n_law_bars "_law_bars" (defScope s_law_bars) f cdv A outer s H E) (E := E) rfl rfl rfl rfl
  have hx := passes_call (E := E) tk (fun _ _ _ _ h => h)
  have hpo : PassesOwn (model P w) (cxOf (L2.CX P w) P w K mg base n_law_bars "_law_bars" (defScope s_law_bars) f cdv A outer s H E).A (cxOf (L2.CX P w) P w K mg base n_law_bars "_law_bars" (defScope s_law_bars) f cdv A outer s H E).env (cxOf (L2.CX P w) P w K mg base n_law_bars "_law_bars" (defScope s_law_bars) f cdv A outer s H E).xe := passes_of (X := cxOf (L2.CX P w) P w K mg base n_law_bars "_law_bars" (defScope s_law_bars) f cdv A outer s H E) rfl
  exact (sb_cons (ss_set (i := 5) scN rfl (Or.inl rfl) (se_lst sa_nil))
      (sb_cons (ss_for hpo rfl (so_enumT rfl T.n_enumerate (sa_cons (se_var 2) sa_nil)) (sg_tup rfl (sgs_cons (sg_name (i := 6) scN rfl (Or.inl rfl)) (sgs_cons (sg_name (i := 7) scN rfl (Or.inl rfl)) sgs_nil))) (sb_one (ss_if (PW.pt (sw_and (st_cmp (od_ne hr.units) (se_var 6) (se_var 3) (nomark _)) (sw_and (st_cmp od_notN (se_var 7) se_non (nomark _)) (sw_and1 (st_val (se_call H_law_meets (hr.mono (by decide)) rfl hx (sa_cons (se_var 0) (sa_cons (se_var 4) (sa_cons (se_ix (se_ix (se_ix (se_var 1) (se_var 6)) (se_var 7)) se_int) sa_nil))))))))) (sb_one (ss_expr (se_mth PySem.F.slot_list_append PySem.F.type_list_append md_append (se_var 5) (sa_cons (se_var 6) sa_nil)))) sb_nil)))
      (sb_one (ss_ret (se_var 5)))))
theorem ok_law_put (T : Tx K mg cl) {f : Addr} {fd : FuncData} (F : Fun K "_law_put" "_law_put" s_law_put f fd) : FnOk P w K mg base (L2.CX P w) 1 f fd ["plan", "choice", "hand", "place"] (SpD K cl d_law_put) := by
  refine fn_ok F sc_law_put fun cdv A outer s H E hr => ?_
  have scN := sc_law_put.nd
  have tk := takes_of (X := cxOf (L2.CX P w) P w K mg base n_law_put "_law_put" (defScope s_law_put) f cdv A outer s H E) (E := E) rfl rfl rfl rfl
  have hx := passes_call (E := E) tk (fun _ _ _ _ h => h)
  have hpo : PassesOwn (model P w) (cxOf (L2.CX P w) P w K mg base n_law_put "_law_put" (defScope s_law_put) f cdv A outer s H E).A (cxOf (L2.CX P w) P w K mg base n_law_put "_law_put" (defScope s_law_put) f cdv A outer s H E).env (cxOf (L2.CX P w) P w K mg base n_law_put "_law_put" (defScope s_law_put) f cdv A outer s H E).xe := passes_of (X := cxOf (L2.CX P w) P w K mg base n_law_put "_law_put" (defScope s_law_put) f cdv A outer s H E) rfl
  exact (sb_cons (ss_set (i := 4) scN rfl (Or.inl rfl) (se_if (st_cmp (od_eq hr.units) (se_var 3) (se_callB cd_len rfl T.n_len bt_len (sa_cons (se_ix (se_var 0) (se_var 2)) sa_nil)) (nomark _)) se_non (se_var 3)))
      (sb_one (ss_ret (se_bin od_add (se_bin od_add (se_sl (se_var 1) so_none (so_some (se_var 2))) (se_tup (sa_cons (se_var 4) sa_nil))) (se_sl (se_var 1) (so_some (se_bin od_add (se_var 2) se_int)) so_none)))))
theorem ok_law_calm (T : Tx K mg cl) {f : Addr} {fd : FuncData} (F : Fun K "_law_calm" "_law_calm" s_law_calm f fd) (H_law_pick : Has P w K mg base cl "_law_pick" 2 d_law_pick) (H_law_way : Has P w K mg base cl "_law_way" 3 d_law_way) : FnOk P w K mg base (L2.CX P w) 4 f fd ["deck", "hands", "rooms", "most"] (SpD K cl d_law_calm) := by
  refine fn_ok F sc_law_calm fun cdv A outer s H E hr => ?_
  have scN := sc_law_calm.nd
  have tk := takes_of (X := cxOf (L2.CX P w) P w K mg base n_law_calm "_law_calm" (defScope s_law_calm) f cdv A outer s H E) (E := E) rfl rfl rfl rfl
  have hx := passes_call (E := E) tk (fun _ _ _ _ h => h)
  have hpo : PassesOwn (model P w) (cxOf (L2.CX P w) P w K mg base n_law_calm "_law_calm" (defScope s_law_calm) f cdv A outer s H E).A (cxOf (L2.CX P w) P w K mg base n_law_calm "_law_calm" (defScope s_law_calm) f cdv A outer s H E).env (cxOf (L2.CX P w) P w K mg base n_law_calm "_law_calm" (defScope s_law_calm) f cdv A outer s H E).xe := passes_of (X := cxOf (L2.CX P w) P w K mg base n_law_calm "_law_calm" (defScope s_law_calm) f cdv A outer s H E) rfl
  exact (sb_cons (ss_set (i := 4) scN rfl (Or.inr rfl) (se_lc (own := [("room", 5)]) rfl scN (so_range1 rfl T.n_range (sa_cons (se_var 2) sa_nil)) (blkOk_by (own := [("room", 5)]) (N := n_law_calm) (sc := (defScope s_law_calm)) (by decide +kernel)) (by decide) (fun _ _ _ _ _ => (sg_name (i := 5) scN rfl (Or.inl rfl))) (fun _ _ _ _ _ => pts_yes) (fun _ _ _ _ _ => (se_call H_law_pick (hr.mono (by decide)) rfl passL (sa_cons (se_var 0) (sa_cons (se_lst (sa_cons (se_lst (sa_cons se_str sa_nil)) (sa_cons (se_lst (sa_cons se_str (sa_cons se_str sa_nil))) sa_nil))) sa_nil))))))
      (sb_one (ss_ret (se_tup (sa_cons (se_bin od_mul (se_tup (sa_cons (se_tup (sa_cons se_str (sa_cons se_non sa_nil))) sa_nil)) (se_var 2)) (sa_cons (se_callTy cd_tuple rfl T.n_tuple bt_tuple (sa_cons (se_lc (own := [("hand", 6)]) rfl scN (so_range1 rfl T.n_range (sa_cons (se_var 1) sa_nil)) (blkOk_by (own := [("hand", 6)]) (N := n_law_calm) (sc := (defScope s_law_calm)) (by decide +kernel)) (by decide) (fun _ _ _ _ _ => (sg_name (i := 6) scN rfl (Or.inl rfl))) (fun _ _ _ _ _ => pts_yes) (fun _ _ _ _ _ => (se_call H_law_way (hr.mono (by decide)) rfl passL (sa_cons (se_var 0) (sa_cons (se_var 4) (sa_cons (se_var 3) (sa_cons se_bl sa_nil))))))) sa_nil)) sa_nil))))))
theorem ok_law_ranked (T : Tx K mg cl) {f : Addr} {fd : FuncData} (F : Fun K "_law_ranked" "_law_ranked" s_law_ranked f fd) (H_law_draw : Has P w K mg base cl "_law_draw" 1 d_law_draw) : FnOk P w K mg base (L2.CX P w) 2 f fd ["deck", "hands"] (SpD K cl d_law_ranked) := by
  refine fn_ok F sc_law_ranked fun cdv A outer s H E hr => ?_
  have scN := sc_law_ranked.nd
  have tk := takes_of (X := cxOf (L2.CX P w) P w K mg base n_law_ranked "_law_ranked" (defScope s_law_ranked) f cdv A outer s H E) (E := E) rfl rfl rfl rfl
  have hx := passes_call (E := E) tk (fun _ _ _ _ h => h)
  have hpo : PassesOwn (model P w) (cxOf (L2.CX P w) P w K mg base n_law_ranked "_law_ranked" (defScope s_law_ranked) f cdv A outer s H E).A (cxOf (L2.CX P w) P w K mg base n_law_ranked "_law_ranked" (defScope s_law_ranked) f cdv A outer s H E).env (cxOf (L2.CX P w) P w K mg base n_law_ranked "_law_ranked" (defScope s_law_ranked) f cdv A outer s H E).xe := passes_of (X := cxOf (L2.CX P w) P w K mg base n_law_ranked "_law_ranked" (defScope s_law_ranked) f cdv A outer s H E) rfl
  exact (sb_cons (ss_set (i := 2) scN rfl (Or.inr rfl) (se_lst (sa_cons (se_neg se_int) (sa_cons se_int (sa_cons se_int (sa_cons se_int (sa_cons se_int (sa_cons (se_bin od_pow se_int se_int) sa_nil))))))))
      (sb_one (ss_ret (se_callTy cd_tuple rfl T.n_tuple bt_tuple (sa_cons (se_lc (own := [("hand", 3)]) rfl scN (so_range1 rfl T.n_range (sa_cons (se_var 1) sa_nil)) (blkOk_by (own := [("hand", 3)]) (N := n_law_ranked) (sc := (defScope s_law_ranked)) (by decide +kernel)) (by decide) (fun _ _ _ _ _ => (sg_name (i := 3) scN rfl (Or.inl rfl))) (fun _ _ _ _ _ => pts_yes) (fun _ _ _ _ _ => (se_mth PySem.F.slot_list_pop PySem.F.type_list_pop md_pop (se_var 2) (sa_cons (se_call H_law_draw (hr.mono (by decide)) rfl passL (sa_cons (se_var 0) (sa_cons (se_callB cd_len rfl T.n_len bt_len (sa_cons (se_var 2) sa_nil)) sa_nil))) sa_nil)))) sa_nil)))))
theorem ok_law_foremost (T : Tx K mg cl) {f : Addr} {fd : FuncData} (F : Fun K "_law_foremost" "_law_foremost" s_law_foremost f fd) (H_law_bars : Has P w K mg base cl "_law_bars" 2 d_law_bars) : FnOk P w K mg base (L2.CX P w) 3 f fd ["house", "plan", "ranks", "choice"] (SpD K cl d_law_foremost) := by
  refine fn_ok F sc_law_foremost fun cdv A outer s H E hr => ?_
  have scN := sc_law_foremost.nd
  have tk := takes_of (X := cxOf (L2.CX P w) P w K mg base n_law_foremost "_law_foremost" (defScope s_law_foremost) f cdv A outer s H E) (E := E) rfl rfl rfl rfl
  have hx := passes_call (E := E) tk (fun _ _ _ _ h => h)
  have hpo : PassesOwn (model P w) (cxOf (L2.CX P w) P w K mg base n_law_foremost "_law_foremost" (defScope s_law_foremost) f cdv A outer s H E).A (cxOf (L2.CX P w) P w K mg base n_law_foremost "_law_foremost" (defScope s_law_foremost) f cdv A outer s H E).env (cxOf (L2.CX P w) P w K mg base n_law_foremost "_law_foremost" (defScope s_law_foremost) f cdv A outer s H E).xe := passes_of (X := cxOf (L2.CX P w) P w K mg base n_law_foremost "_law_foremost" (defScope s_law_foremost) f cdv A outer s H E) rfl
  exact (sb_cons (ss_set (i := 4) scN rfl (Or.inl rfl) se_non)
      (sb_cons (ss_for hpo rfl (so_enumT rfl T.n_enumerate (sa_cons (se_var 3) sa_nil)) (sg_tup rfl (sgs_cons (sg_name (i := 5) scN rfl (Or.inl rfl)) (sgs_cons (sg_name (i := 6) scN rfl (Or.inl rfl)) sgs_nil))) (sb_one (ss_if (PW.pt (sw_and (st_cmp od_notN (se_var 6) se_non (nomark _)) (sw_and1 (PW.pt (sw_or (st_cmp od_isN (se_var 4) se_non (nomark _)) (sw_or1 (st_cmp od_gt (se_ix (se_var 2) (se_var 5)) (se_ix (se_var 2) (se_var 4)) (nomark _)))))))) (sb_cons (ss_set (i := 7) scN rfl (Or.inl rfl) (se_ix (se_ix (se_ix (se_var 1) (se_var 5)) (se_var 6)) se_int))
      (sb_one (ss_if (PW.pt (sw_or (st_cmp od_isN (se_var 7) se_non (nomark _)) (sw_or1 (st_cmp (od_eq hr.units) (se_call H_law_bars (hr.mono (by decide)) rfl hx (sa_cons (se_var 0) (sa_cons (se_var 1) (sa_cons (se_var 3) (sa_cons (se_var 5) (sa_cons (se_var 7) sa_nil)))))) (se_lst sa_nil) (nomark _))))) (sb_one (ss_set (i := 4) scN rfl (Or.inl rfl) (se_var 5))) sb_nil))) sb_nil)))
      (sb_one (ss_ret (se_var 4)))))
theorem ok_law_no_calm (T : Tx K mg cl) {f : Addr} {fd : FuncData} (F : Fun K "_law_no_calm" "_law_no_calm" s_law_no_calm f fd) (H_law_draw : Has P w K mg base cl "_law_draw" 1 d_law_draw) : FnOk P w K mg base (L2.CX P w) 2 f fd ["deck", "house"] (SpD K cl d_law_no_calm) := by
  refine fn_ok F sc_law_no_calm fun cdv A outer s H E hr => ?_
  have scN := sc_law_no_calm.nd
  have tk := takes_of (X := cxOf (L2.CX P w) P w K mg base n_law_no_calm "_law_no_calm" (defScope s_law_no_calm) f cdv A outer s H E) (E := E) rfl rfl rfl rfl
  have hx := passes_call (E := E) tk (fun _ _ _ _ h => h)
  have hpo : PassesOwn (model P w) (cxOf (L2.CX P w) P w K mg base n_law_no_calm "_law_no_calm" (defScope s_law_no_calm) f cdv A outer s H E).A (cxOf (L2.CX P w) P w K mg base n_law_no_calm "_law_no_calm" (defScope s_law_no_calm) f cdv A outer s H E).env (cxOf (L2.CX P w) P w K mg base n_law_no_calm "_law_no_calm" (defScope s_law_no_calm) f cdv A outer s H E).xe := passes_of (X := cxOf (L2.CX P w) P w K mg base n_law_no_calm "_law_no_calm" (defScope s_law_no_calm) f cdv A outer s H E) rfl
  exact (sb_cons (ss_asg (se_var 1) (sg_tup rfl (sgs_cons (sg_name (i := 2) scN rfl (Or.inl rfl)) (sgs_cons (sg_name (i := 3) scN rfl (Or.inl rfl)) sgs_nil))))
      (sb_cons (ss_asg (se_tup (sa_cons (se_call H_law_draw (hr.mono (by decide)) rfl hx (sa_cons (se_var 0) (sa_cons se_int sa_nil))) (sa_cons (se_callB cd_len rfl T.n_len bt_len (sa_cons (se_var 3) sa_nil)) sa_nil))) (sg_tup rfl (sgs_cons (sg_name (i := 4) scN rfl (Or.inl rfl)) (sgs_cons (sg_name (i := 5) scN rfl (Or.inr rfl)) sgs_nil))))
      (sb_cons (ss_if (st_cmp (od_eq hr.units) (se_var 4) se_int (nomark _)) (sb_cons (ss_set (i := 6) scN rfl (Or.inl rfl) (se_tup (sa_cons se_str (sa_cons se_str (sa_cons se_str (sa_cons se_str (sa_cons se_str (sa_cons se_str (sa_cons se_str (sa_cons se_str (sa_cons se_str (sa_cons se_str sa_nil))))))))))))
      (sb_one (ss_ret (se_tup (sa_cons (se_bin od_add (se_sl (se_var 2) so_none (so_some (se_neg se_int))) (se_tup (sa_cons (se_tup (sa_cons se_str (sa_cons (se_var 6) sa_nil))) sa_nil))) (sa_cons (se_var 3) sa_nil)))))) sb_nil)
      (sb_cons (ss_set (i := 7) scN rfl (Or.inl rfl) (se_tup (sa_cons (se_tup (sa_cons se_str (sa_cons se_int (sa_cons se_str sa_nil)))) (sa_cons (se_tup (sa_cons se_str (sa_cons se_int sa_nil))) sa_nil))))
      (sb_cons (ss_if (st_cmp (od_eq hr.units) (se_var 4) se_int (nomark _)) (sb_one (ss_ret (se_tup (sa_cons (se_var 2) (sa_cons (se_bin od_add (se_sl (se_var 3) so_none (so_some (se_neg se_int))) (se_tup (sa_cons (se_var 7) sa_nil))) sa_nil))))) sb_nil)
      (sb_cons (ss_set (i := 8) scN rfl (Or.inl rfl) (se_callTy cd_tuple rfl T.n_tuple bt_tuple (sa_cons (se_lc (own := [("hand", 11)]) rfl scN (so_range1 rfl T.n_range (sa_cons (se_var 5) sa_nil)) (blkOk_by (own := [("hand", 11)]) (N := n_law_no_calm) (sc := (defScope s_law_no_calm)) (by decide +kernel)) (by decide) (fun _ _ _ _ _ => (sg_name (i := 11) scN rfl (Or.inr rfl))) (fun _ _ _ _ _ => pts_yes) (fun _ _ _ _ _ => (se_callTy cd_tuple rfl T.n_tuple bt_tuple (sa_cons (se_lc (own := [("other", 10)]) rfl scN (so_range1 rfl T.n_range (sa_cons (se_var 5) sa_nil)) (blkOk_by (own := [("other", 10)]) (N := n_law_no_calm) (sc := (relS { kind := .function, names := [(".0", .local), ("hand", .cell), ("tuple", .globalImplicit), ("range", .globalImplicit), ("many", .free)], isGenerator := false, isCoroutine := false, more := [] : Scope } (defScope s_law_no_calm))) (by decide +kernel)) (by decide) (fun _ _ _ _ _ => (sg_name (i := 10) scN rfl (Or.inl rfl))) (fun _ _ _ _ _ => (pts_one (st_cmp (od_ne hr.units) (se_var 10) (se_var 11) (nomark _)))) (fun _ _ _ _ _ => (se_var 10))) sa_nil)))) sa_nil)))
      (sb_cons (ss_set (i := 9) scN rfl (Or.inl rfl) (se_callTy cd_tuple rfl T.n_tuple bt_tuple (sa_cons (se_lc (own := [("hand", 11)]) rfl scN (so_range1 rfl T.n_range (sa_cons (se_var 5) sa_nil)) (blkOk_by (own := [("hand", 11)]) (N := n_law_no_calm) (sc := (defScope s_law_no_calm)) (by decide +kernel)) (by decide) (fun _ _ _ _ _ => (sg_name (i := 11) scN rfl (Or.inr rfl))) (fun _ _ _ _ _ => pts_yes) (fun _ _ _ _ _ => (se_callTy cd_tuple rfl T.n_tuple bt_tuple (sa_cons (se_lc (own := [("other", 10)]) rfl scN (so_range1 rfl T.n_range (sa_cons (se_var 5) sa_nil)) (blkOk_by (own := [("other", 10)]) (N := n_law_no_calm) (sc := (relS { kind := .function, names := [(".0", .local), ("hand", .cell), ("tuple", .globalImplicit), ("range", .globalImplicit), ("many", .free)], isGenerator := false, isCoroutine := false, more := [] : Scope } (defScope s_law_no_calm))) (by decide +kernel)) (by decide) (fun _ _ _ _ _ => (sg_name (i := 10) scN rfl (Or.inl rfl))) (fun _ _ _ _ _ => pts_yes) (fun _ _ _ _ _ => (se_if (st_cmp (od_eq hr.units) (se_var 10) (se_var 11) (nomark _)) se_str se_str))) sa_nil)))) sa_nil)))
      (sb_one (ss_ret (se_tup (sa_cons (se_bin od_add (se_var 2) (se_tup (sa_cons (se_tup (sa_cons se_str (sa_cons (se_var 9) (sa_cons (se_var 8) sa_nil)))) sa_nil))) (sa_cons (se_var 3) sa_nil))))))))))))
theorem ok_law_no_ranks (T : Tx K mg cl) {f : Addr} {fd : FuncData} (F : Fun K "_law_no_ranks" "_law_no_ranks" s_law_no_ranks f fd) (H_law_pick : Has P w K mg base cl "_law_pick" 2 d_law_pick) : FnOk P w K mg base (L2.CX P w) 3 f fd ["deck", "ranks"] (SpD K cl d_law_no_ranks) := by
  refine fn_ok F sc_law_no_ranks fun cdv A outer s H E hr => ?_
  have scN := sc_law_no_ranks.nd
  have tk := takes_of (X := cxOf (L2.CX P w) P w K mg base n_law_no_ranks "_law_no_ranks" (defScope s_law_no_ranks) f cdv A outer s H E) (E := E) rfl rfl rfl rfl
  have hx := passes_call (E := E) tk (fun _ _ _ _ h => h)
  have hpo : PassesOwn (model P w) (cxOf (L2.CX P w) P w K mg base n_law_no_ranks "_law_no_ranks" (defScope s_law_no_ranks) f cdv A outer s H E).A (cxOf (L2.CX P w) P w K mg base n_law_no_ranks "_law_no_ranks" (defScope s_law_no_ranks) f cdv A outer s H E).env (cxOf (L2.CX P w) P w K mg base n_law_no_ranks "_law_no_ranks" (defScope s_law_no_ranks) f cdv A outer s H E).xe := passes_of (X := cxOf (L2.CX P w) P w K mg base n_law_no_ranks "_law_no_ranks" (defScope s_law_no_ranks) f cdv A outer s H E) rfl
  exact (sb_cons (ss_set (i := 2) scN rfl (Or.inl rfl) (se_lst (sa_cons se_non (sa_cons (se_callTy cd_list rfl T.n_list bt_list (sa_cons (se_var 1) sa_nil)) (sa_cons (se_bin od_add (se_var 1) (se_tup (sa_cons se_int sa_nil))) (sa_cons (se_sl (se_var 1) so_none (so_some (se_neg se_int))) (sa_cons (se_bin od_add (se_tup (sa_cons se_bl sa_nil)) (se_sl (se_var 1) (so_some se_int) so_none)) (sa_cons (se_bin od_add (se_tup (sa_cons se_str sa_nil)) (se_sl (se_var 1) (so_some se_int) so_none)) (sa_cons (se_tup sa_nil) sa_nil)))))))))
      (sb_one (ss_ret (se_call H_law_pick (hr.mono (by decide)) rfl hx (sa_cons (se_var 0) (sa_cons (se_bin od_add (se_var 2) (se_bin od_mul (se_lst (sa_cons (se_bin od_add (se_bin od_mul (se_sl (se_var 1) so_none (so_some se_int)) se_int) (se_sl (se_var 1) (so_some se_int) so_none)) sa_nil)) (se_callTy cd_int rfl T.n_int bt_int (sa_cons (se_cmp od_gt (se_callB cd_len rfl T.n_len bt_len (sa_cons (se_var 1) sa_nil)) se_int (nomark _)) sa_nil)))) sa_nil))))))
theorem ok_law_choice (T : Tx K mg cl) {f : Addr} {fd : FuncData} (F : Fun K "_law_choice" "_law_choice" s_law_choice f fd) (H_law_bars : Has P w K mg base cl "_law_bars" 2 d_law_bars) (H_law_draw : Has P w K mg base cl "_law_draw" 1 d_law_draw) (H_law_put : Has P w K mg base cl "_law_put" 1 d_law_put) : FnOk P w K mg base (L2.CX P w) 3 f fd ["deck", "house", "plan"] (SpD K cl d_law_choice) := by
  refine fn_ok F sc_law_choice fun cdv A outer s H E hr => ?_
  have scN := sc_law_choice.nd
  have tk := takes_of (X := cxOf (L2.CX P w) P w K mg base n_law_choice "_law_choice" (defScope s_law_choice) f cdv A outer s H E) (E := E) rfl rfl rfl rfl
  have hx := passes_call (E := E) tk (fun _ _ _ _ h => h)
  have hpo : PassesOwn (model P w) (cxOf (L2.CX P w) P w K mg base n_law_choice "_law_choice" (defScope s_law_choice) f cdv A outer s H E).A (cxOf (L2.CX P w) P w K mg base n_law_choice "_law_choice" (defScope s_law_choice) f cdv A outer s H E).env (cxOf (L2.CX P w) P w K mg base n_law_choice "_law_choice" (defScope s_law_choice) f cdv A outer s H E).xe := passes_of (X := cxOf (L2.CX P w) P w K mg base n_law_choice "_law_choice" (defScope s_law_choice) f cdv A outer s H E) rfl
  exact (sb_cons (ss_set (i := 3) scN rfl (Or.inr rfl) (se_bin od_mul (se_tup (sa_cons se_non sa_nil)) (se_callB cd_len rfl T.n_len bt_len (sa_cons (se_var 2) sa_nil))))
      (sb_cons (ss_for hpo rfl (so_range1 rfl T.n_range (sa_cons (se_callB cd_len rfl T.n_len bt_len (sa_cons (se_var 2) sa_nil)) sa_nil)) (sg_name (i := 4) scN rfl (Or.inr rfl)) (sb_cons (ss_set (i := 5) scN rfl (Or.inl rfl) (se_call H_law_draw (hr.mono (by decide)) rfl hx (sa_cons (se_var 0) (sa_cons (se_callB cd_len rfl T.n_len bt_len (sa_cons (se_ix (se_var 2) (se_var 4)) sa_nil)) sa_nil))))
      (sb_cons (ss_setLc (own := [("thing", 7)]) (i := 6) rfl scN rfl rfl (sw_true rfl rfl rfl (by decide +kernel)) (so_tup (se_ix (se_ix (se_ix (se_var 2) (se_var 4)) (se_var 5)) se_int)) (blkOk_by (own := [("thing", 7)]) (N := n_law_choice) (sc := (defScope s_law_choice)) (by decide +kernel)) (by decide) (fun _ _ _ _ _ => (sg_name (i := 7) scN rfl (Or.inl rfl))) (fun _ _ _ _ _ => (pts_one (st_cmp (od_ne hr.units) (se_call H_law_bars (hr.mono (by decide)) rfl passL (sa_cons (se_var 1) (sa_cons (se_var 2) (sa_cons (se_var 3) (sa_cons (se_var 4) (sa_cons (se_var 7) sa_nil)))))) (se_lst sa_nil) (nomark _)))) (fun _ _ _ _ _ => (se_var 7)))
      (sb_one (ss_if (PW.pt (sw_and (st_cmp (od_eq hr.units) (se_var 6) (se_lst sa_nil) (nomark _)) (sw_and1 (st_cmp od_gt (se_call H_law_draw (hr.mono (by decide)) rfl hx (sa_cons (se_var 0) (sa_cons se_int sa_nil))) se_int (nomark _))))) (sb_one (ss_set (i := 3) scN rfl (Or.inr rfl) (se_call H_law_put (hr.mono (by decide)) rfl hx (sa_cons (se_var 2) (sa_cons (se_var 3) (sa_cons (se_var 4) (sa_cons (se_var 5) sa_nil))))))) sb_nil)))))
      (sb_one (ss_ret (se_var 3)))))
theorem ok_law_error (T : Tx K mg cl) {f : Addr} {fd : FuncData} (F : Fun K "_law_error" "_law_error" s_law_error f fd) : FnOk P w K mg base (L2.CX P w) 1 f fd ["many", "value"] (SpD K cl d_law_error) := by
  refine fn_ok F sc_law_error fun cdv A outer s H E hr => ?_
  have scN := sc_law_error.nd
  have tk := takes_of (X := cxOf (L2.CX P w) P w K mg base n_law_error "_law_error" (defScope s_law_error) f cdv A outer s H E) (E := E) rfl rfl rfl rfl
  have hx := passes_call (E := E) tk (fun _ _ _ _ h => h)
  have hpo : PassesOwn (model P w) (cxOf (L2.CX P w) P w K mg base n_law_error "_law_error" (defScope s_law_error) f cdv A outer s H E).A (cxOf (L2.CX P w) P w K mg base n_law_error "_law_error" (defScope s_law_error) f cdv A outer s H E).env (cxOf (L2.CX P w) P w K mg base n_law_error "_law_error" (defScope s_law_error) f cdv A outer s H E).xe := passes_of (X := cxOf (L2.CX P w) P w K mg base n_law_error "_law_error" (defScope s_law_error) f cdv A outer s H E) rfl
  exact (sb_cons (ss_if (PW.pt (sw_or (st_not (st_val (se_isi rfl T.n_isinstance bt_isinstance (se_var 1) rfl T.n_tuple bt_tuple))) (sw_or1 (st_cmp (od_ne hr.units) (se_callB cd_len rfl T.n_len bt_len (sa_cons (se_var 1) sa_nil)) (se_var 0) (nomark _))))) (sb_one (ss_ret se_str)) sb_nil)
      (sb_cons (ss_for hpo rfl (so_tup (se_var 1)) (sg_name (i := 2) scN rfl (Or.inl rfl)) (sb_one (ss_if (PW.pt (sw_or (st_not (st_val (se_isi rfl T.n_isinstance bt_isinstance (se_var 2) rfl T.n_int bt_int))) (sw_or1 (st_val (se_isi rfl T.n_isinstance bt_isinstance (se_var 2) rfl T.n_bool bt_bool))))) (sb_one (ss_ret se_str)) sb_nil)))
      (sb_cons (ss_for hpo rfl (so_range1 rfl T.n_range (sa_cons (se_var 0) sa_nil)) (sg_name (i := 3) scN rfl (Or.inl rfl)) (sb_one (ss_for hpo rfl (so_range2 rfl T.n_range (sa_cons (se_bin od_add (se_var 3) se_int) (sa_cons (se_var 0) sa_nil))) (sg_name (i := 4) scN rfl (Or.inl rfl)) (sb_one (ss_if (st_cmp (od_eq hr.units) (se_ix (se_var 1) (se_var 3)) (se_ix (se_var 1) (se_var 4)) (nomark _)) (sb_one (ss_ret (se_tup (sa_cons se_str (sa_cons (se_var 3) (sa_cons (se_var 4) sa_nil)))))) sb_nil)))))
      (sb_one (ss_ret se_non)))))
theorem ok_law_is_refused (T : Tx K mg cl) {f : Addr} {fd : FuncData} (F : Fun K "_law_is_refused" "_law_is_refused" s_law_is_refused f fd) (H_foremost : Has P w K mg base cl "foremost" 6 d_foremost) (H_ranks_error : Has P w K mg base cl "ranks_error" 3 d_ranks_error) : FnOk P w K mg base (L2.CX P w) 7 f fd ["house", "ranks", "choice", "way"] (SpD K cl d_law_is_refused) := by
  refine fn_ok F sc_law_is_refused fun cdv A outer s H E hr => ?_
  have scN := sc_law_is_refused.nd
  have tk := takes_of (X := cxOf (L2.CX P w) P w K mg base n_law_is_refused "_law_is_refused" (defScope s_law_is_refused) f cdv A outer s H E) (E := E) rfl rfl rfl rfl
  have hx := passes_call (E := E) tk (fun _ _ _ _ h => h)
  have hpo : PassesOwn (model P w) (cxOf (L2.CX P w) P w K mg base n_law_is_refused "_law_is_refused" (defScope s_law_is_refused) f cdv A outer s H E).A (cxOf (L2.CX P w) P w K mg base n_law_is_refused "_law_is_refused" (defScope s_law_is_refused) f cdv A outer s H E).env (cxOf (L2.CX P w) P w K mg base n_law_is_refused "_law_is_refused" (defScope s_law_is_refused) f cdv A outer s H E).xe := passes_of (X := cxOf (L2.CX P w) P w K mg base n_law_is_refused "_law_is_refused" (defScope s_law_is_refused) f cdv A outer s H E) rfl
  exact (sb_cons (ss_try T.e_Unfit rfl rfl rfl (by decide) tk (fun W pn xe tk hpo => by
      have hx := passes_call (E := fun cls d H => ∀ σ, W cls d σ H) tk (fun cls d σ H h => h σ)
      exact (sb_one (ss_if (st_cmp (od_eq hr.units) (se_var 3) se_int (nomark _)) (sb_one (ss_expr (se_call H_ranks_error (hr.mono (by decide)) rfl hx (sa_cons (se_var 0) (sa_cons (se_var 1) sa_nil))))) (sb_one (ss_expr (se_call H_foremost (hr.mono (by decide)) rfl hx (sa_cons (se_var 0) (sa_cons (se_var 1) (sa_cons (se_var 2) sa_nil))))))))))
      (sb_one (ss_ret se_bl)))
theorem ok_law (T : Tx K mg cl) {f : Addr} {fd : FuncData} (F : Fun K "law" "law" s_law f fd) (H_law_any : Has P w K mg base cl "_law_any" 8 (d_law_any 5)) (H_law_calm : Has P w K mg base cl "_law_calm" 4 d_law_calm) (H_law_choice : Has P w K mg base cl "_law_choice" 3 d_law_choice) (H_law_deck : Has P w K mg base cl "_law_deck" 1 d_law_deck) (H_law_draw : Has P w K mg base cl "_law_draw" 1 d_law_draw) (H_law_error : Has P w K mg base cl "_law_error" 1 d_law_error) (H_law_foremost : Has P w K mg base cl "_law_foremost" 3 d_law_foremost) (H_law_is_refused : Has P w K mg base cl "_law_is_refused" 7 d_law_is_refused) (H_law_no_calm : Has P w K mg base cl "_law_no_calm" 2 d_law_no_calm) (H_law_no_ranks : Has P w K mg base cl "_law_no_ranks" 3 d_law_no_ranks) (H_law_pick : Has P w K mg base cl "_law_pick" 2 d_law_pick) (H_law_plan : Has P w K mg base cl "_law_plan" 2 d_law_plan) (H_law_ranked : Has P w K mg base cl "_law_ranked" 2 d_law_ranked) (H_foremost : Has P w K mg base cl "foremost" 6 d_foremost) (H_ranks_error : Has P w K mg base cl "ranks_error" 3 d_ranks_error) (HK_ranks_error : HasK P w K mg base cl "ranks_error" 3 ["value", "house"] [1, 0] d_ranks_error) (HK_foremost : HasK P w K mg base cl "foremost" 6 ["choice", "ranks", "house"] [2, 1, 0] d_foremost) : RunG P w K mg base cl 9 f fd ["script"] d_law := by
  refine fn_okG F sc_law fun cdv A outer s H E hr hgd => ?_
  have scN := sc_law.nd
  have tk := takes_of (X := cxOf (L2.CX P w) P w K mg base n_law "law" (defScope s_law) f cdv A outer s H E) (E := E) rfl rfl rfl rfl
  have hx := passes_call (E := E) tk (fun _ _ _ _ h => h)
  have hpo : PassesOwn (model P w) (cxOf (L2.CX P w) P w K mg base n_law "law" (defScope s_law) f cdv A outer s H E).A (cxOf (L2.CX P w) P w K mg base n_law "law" (defScope s_law) f cdv A outer s H E).env (cxOf (L2.CX P w) P w K mg base n_law "law" (defScope s_law) f cdv A outer s H E).xe := passes_of (X := cxOf (L2.CX P w) P w K mg base n_law "law" (defScope s_law) f cdv A outer s H E) rfl
  exact (sb_cons (ss_set (i := 1) scN rfl (Or.inl rfl) (se_call H_law_deck (hr.mono (by decide)) rfl hx (sa_cons (se_var 0) sa_nil)))
      (sb_cons (ss_for hpo rfl (so_range1 rfl T.n_range (sa_cons se_int sa_nil)) (sg_name (i := 2) scN rfl (Or.inl rfl)) (sb_cons (ss_set (i := 3) scN rfl (Or.inl rfl) (se_call H_law_pick (hr.mono (by decide)) rfl hx (sa_cons (se_var 1) (sa_cons (se_lst (sa_cons se_int (sa_cons se_int (sa_cons se_int (sa_cons se_int (sa_cons se_int sa_nil)))))) sa_nil))))
      (sb_cons (ss_set (i := 4) scN rfl (Or.inl rfl) (se_call H_law_calm (hr.mono (by decide)) rfl hx (sa_cons (se_var 1) (sa_cons (se_var 3) (sa_cons (se_bin od_add se_int (se_call H_law_draw (hr.mono (by decide)) rfl hx (sa_cons (se_var 1) (sa_cons se_int sa_nil)))) (sa_cons (se_call H_law_pick (hr.mono (by decide)) rfl hx (sa_cons (se_var 1) (sa_cons (se_lst (sa_cons se_int (sa_cons se_int (sa_cons se_int (sa_cons se_int sa_nil))))) sa_nil))) sa_nil))))))
      (sb_cons (ss_par3 (i := 5) (j := 6) (l := 7) rfl scN rfl rfl rfl (by decide) (by decide) (by decide) rfl rfl rfl (sa_cons (se_call H_law_plan (hr.mono (by decide)) rfl hx (sa_cons (se_var 4) sa_nil)) (sa_cons (se_call H_law_ranked (hr.mono (by decide)) rfl hx (sa_cons (se_var 1) (sa_cons (se_var 3) sa_nil))) (sa_cons (se_callB (cd_repr hgd hr.units) rfl T.n_repr bt_repr (sa_cons (se_var 4) sa_nil)) sa_nil))) (by rfl))
      (sb_cons (ss_set (i := 8) scN rfl (Or.inl rfl) (se_callTy cd_list rfl T.n_list bt_list (sa_cons (se_var 6) sa_nil)))
      (sb_cons (ss_iput hr.units (se_var 8) (se_call H_law_draw (hr.mono (by decide)) rfl hx (sa_cons (se_var 1) (sa_cons (se_var 3) sa_nil))) (se_ix (se_var 6) (se_call H_law_draw (hr.mono (by decide)) rfl hx (sa_cons (se_var 1) (sa_cons (se_var 3) sa_nil)))))
      (sb_cons (ss_for hpo rfl (so_tup (se_tup (sa_cons (se_var 6) (sa_cons (se_callTy cd_tuple rfl T.n_tuple bt_tuple (sa_cons (se_var 8) sa_nil)) (sa_cons (se_bin od_mul (se_tup (sa_cons (se_ix (se_var 6) se_int) sa_nil)) (se_var 3)) (sa_cons (se_call H_law_no_ranks (hr.mono (by decide)) rfl hx (sa_cons (se_var 1) (sa_cons (se_var 6) sa_nil))) (sa_cons (se_call H_law_any (hr.mono (by decide)) rfl hx (sa_cons (se_var 1) (sa_cons se_int sa_nil))) sa_nil))))))) (sg_name (i := 9) scN rfl (Or.inl rfl)) (sb_cons (ss_par (i := 10) (j := 11) rfl scN rfl rfl (by decide) rfl rfl (sa_cons (se_call H_law_error (hr.mono (by decide)) rfl hx (sa_cons (se_var 3) (sa_cons (se_var 9) sa_nil))) (sa_cons (se_callB (cd_repr hgd hr.units) rfl T.n_repr bt_repr (sa_cons (se_var 9) sa_nil)) sa_nil)) (by rfl))
      (sb_cons (ss_set (i := 12) scN rfl (Or.inl rfl) (se_lst (sa_cons (se_call H_ranks_error (hr.mono (by decide)) rfl hx (sa_cons (se_var 4) (sa_cons (se_var 9) sa_nil))) (sa_cons (se_callK HK_ranks_error (hr.mono (by decide)) rfl hx (sk_cons (se_var 9) (sk_cons (se_var 4) sk_nil))) sa_nil))))
      (sb_one (ss_if (PW.pt (sw_or (st_cmp (od_ne hr.units) (se_callB (cd_repr hgd hr.units) rfl T.n_repr bt_repr (sa_cons (se_var 12) sa_nil)) (se_callB (cd_repr hgd hr.units) rfl T.n_repr bt_repr (sa_cons (se_lst (sa_cons (se_var 10) (sa_cons (se_var 10) sa_nil))) sa_nil)) (nomark _)) (sw_or1 (st_cmp (od_ne hr.units) (se_callB (cd_repr hgd hr.units) rfl T.n_repr bt_repr (sa_cons (se_var 9) sa_nil)) (se_var 11) (nomark _))))) (sb_one (ss_ret se_bl)) sb_nil)))))
      (sb_cons (ss_for hpo rfl (so_range1 rfl T.n_range (sa_cons se_int sa_nil)) (sg_name (i := 13) scN rfl (Or.inl rfl)) (sb_cons (ss_set (i := 14) scN rfl (Or.inl rfl) (se_call H_law_choice (hr.mono (by decide)) rfl hx (sa_cons (se_var 1) (sa_cons (se_var 4) (sa_cons (se_var 5) sa_nil)))))
      (sb_cons (ss_set (i := 10) scN rfl (Or.inl rfl) (se_call H_law_foremost (hr.mono (by decide)) rfl hx (sa_cons (se_var 4) (sa_cons (se_var 5) (sa_cons (se_var 6) (sa_cons (se_var 14) sa_nil))))))
      (sb_cons (ss_set (i := 12) scN rfl (Or.inl rfl) (se_lst (sa_cons (se_call H_foremost (hr.mono (by decide)) rfl hx (sa_cons (se_var 4) (sa_cons (se_var 6) (sa_cons (se_var 14) sa_nil)))) (sa_cons (se_callK HK_foremost (hr.mono (by decide)) rfl hx (sk_cons (se_var 14) (sk_cons (se_var 6) (sk_cons (se_var 4) sk_nil)))) sa_nil))))
      (sb_one (ss_if (st_cmp (od_ne hr.units) (se_callB (cd_repr hgd hr.units) rfl T.n_repr bt_repr (sa_cons (se_var 12) sa_nil)) (se_callB (cd_repr hgd hr.units) rfl T.n_repr bt_repr (sa_cons (se_lst (sa_cons (se_var 10) (sa_cons (se_var 10) sa_nil))) sa_nil)) (nomark _)) (sb_one (ss_ret se_bl)) sb_nil))))))
      (sb_cons (ss_par (i := 15) (j := 16) rfl scN rfl rfl (by decide) rfl rfl (sa_cons (se_bin od_mul (se_tup (sa_cons se_non sa_nil)) (se_var 3)) (sa_cons (se_call H_law_no_calm (hr.mono (by decide)) rfl hx (sa_cons (se_var 1) (sa_cons (se_var 4) sa_nil))) sa_nil)) (by rfl))
      (sb_cons (ss_if (PW.pt (sw_or (st_not (st_val (se_call H_law_is_refused (hr.mono (by decide)) rfl hx (sa_cons (se_var 16) (sa_cons (se_var 6) (sa_cons (se_var 15) (sa_cons se_int sa_nil))))))) (sw_or1 (st_not (st_val (se_call H_law_is_refused (hr.mono (by decide)) rfl hx (sa_cons (se_var 16) (sa_cons (se_var 6) (sa_cons (se_var 15) (sa_cons se_int sa_nil)))))))))) (sb_one (ss_ret se_bl)) sb_nil)
      (sb_cons (ss_set (i := 17) scN rfl (Or.inl rfl) (se_call H_law_pick (hr.mono (by decide)) rfl hx (sa_cons (se_var 1) (sa_cons (se_lst (sa_cons (se_call H_law_no_ranks (hr.mono (by decide)) rfl hx (sa_cons (se_var 1) (sa_cons (se_var 6) sa_nil))) (sa_cons (se_call H_law_no_ranks (hr.mono (by decide)) rfl hx (sa_cons (se_var 1) (sa_cons (se_var 6) sa_nil))) sa_nil))) sa_nil))))
      (sb_one (ss_if (PW.pt (sw_or (PW.pt (sw_and (st_cmp od_notN (se_call H_law_error (hr.mono (by decide)) rfl hx (sa_cons (se_var 3) (sa_cons (se_var 17) sa_nil))) se_non (nomark _)) (sw_and1 (st_not (st_val (se_call H_law_is_refused (hr.mono (by decide)) rfl hx (sa_cons (se_var 4) (sa_cons (se_var 17) (sa_cons (se_var 15) (sa_cons se_int sa_nil)))))))))) (sw_or1 (st_cmp (od_ne hr.units) (se_callB (cd_repr hgd hr.units) rfl T.n_repr bt_repr (sa_cons (se_var 4) sa_nil)) (se_var 7) (nomark _))))) (sb_one (ss_ret se_bl)) sb_nil)))))))))))))
      (sb_one (ss_ret se_bl))))
end
end Dn
set_option Elab.async false
set_option linter.all false
set_option maxRecDepth 100000
set_option maxHeartbeats 0
/-! Hd_k78: the head, printed by head.py. -/
namespace Dn
open PySem PySem.Spec PyProof.Rows L2
def fnD (x : Str) (st : Stmt) : He.FnD := ⟨(x, none), x, x, defArgs st, defBody st, defScope st⟩
def fnL_0 : List He.FnD := [fnD "is_integer" s_is_integer, fnD "held" s_held, fnD "wish" s_wish, fnD "is_door" s_is_door, fnD "clash" s_clash, fnD "is_calm" s_is_calm, fnD "calm" s_calm, fnD "ranks_error" s_ranks_error, fnD "ranked" s_ranked, fnD "things_at" s_things_at, fnD "does_clash" s_does_clash, fnD "blockers" s_blockers, fnD "movers_at" s_movers_at, fnD "highest" s_highest, fnD "foremost" s_foremost, fnD "_law_deck" s_law_deck, fnD "_law_draw" s_law_draw, fnD "_law_pick" s_law_pick, fnD "_law_any" s_law_any, fnD "_law_way" s_law_way, fnD "_law_beyond" s_law_beyond, fnD "_law_plan" s_law_plan, fnD "_law_meets" s_law_meets, fnD "_law_bars" s_law_bars, fnD "_law_put" s_law_put, fnD "_law_calm" s_law_calm, fnD "_law_ranked" s_law_ranked, fnD "_law_foremost" s_law_foremost, fnD "_law_no_calm" s_law_no_calm, fnD "_law_no_ranks" s_law_no_ranks]
def fnL_1 : List He.FnD := [fnD "_law_choice" s_law_choice, fnD "_law_error" s_law_error, fnD "_law_is_refused" s_law_is_refused, fnD "law" s_law]
def fnL : List He.FnD := fnL_0 ++ fnL_1

def faL_0 : List He.Fa := [.free "abs", .free "all", .free "bool", .free "enumerate", .free "int", .free "isinstance", .free "len", .free "list", .free "max", .free "range", .free "repr", .free "tuple", .glo "Unfit", .exc "Unfit", .exm "Unfit" "Unfit" true, .glo "is_integer", .keep "is_integer", .glo "held", .keep "held", .glo "wish", .keep "wish", .glo "is_door", .keep "is_door", .glo "clash", .keep "clash", .glo "is_calm", .keep "is_calm", .glo "calm", .keep "calm", .glo "ranks_error"]
def faL_1 : List He.Fa := [.keep "ranks_error", .glo "ranked", .keep "ranked", .glo "things_at", .keep "things_at", .glo "does_clash", .keep "does_clash", .glo "blockers", .keep "blockers", .glo "movers_at", .keep "movers_at", .glo "highest", .keep "highest", .glo "foremost", .keep "foremost", .glo "_law_deck", .keep "_law_deck", .glo "_law_draw", .keep "_law_draw", .glo "_law_pick", .keep "_law_pick", .glo "_law_any", .keep "_law_any", .glo "_law_way", .keep "_law_way", .glo "_law_beyond", .keep "_law_beyond", .glo "_law_plan", .keep "_law_plan", .glo "_law_meets"]
def faL_2 : List He.Fa := [.keep "_law_meets", .glo "_law_bars", .keep "_law_bars", .glo "_law_put", .keep "_law_put", .glo "_law_calm", .keep "_law_calm", .glo "_law_ranked", .keep "_law_ranked", .glo "_law_foremost", .keep "_law_foremost", .glo "_law_no_calm", .keep "_law_no_calm", .glo "_law_no_ranks", .keep "_law_no_ranks", .glo "_law_choice", .keep "_law_choice", .glo "_law_error", .keep "_law_error", .glo "_law_is_refused", .keep "_law_is_refused", .glo "law", .keep "law"]
def faL : List He.Fa := faL_0 ++ faL_1 ++ faL_2

def exB (K : PySem.W.Frag) : Bool := (lamL.all fun x => (PySem.W.tabIn K x).isSome)
abbrev Rr : PySem.W.OpenRow := PySem.W.OpenLaw.row PySem.Challenge.rw_manylocks_k78_whole_ranks_and_who_is_for
abbrev hk : PySem.W.Hook := hookM 5 faL fnL exB
def ob (s : PySem.W.SharedT) : AlM := obsM 5 faL fnL exB (HandSHeadRun.getT s)
theorem ob_eq (s : PySem.W.SharedT) : ob s = hk.obs s.abs := obsM_eq (HandSHeadRun.getT_eq s)
def looseL_0 : List Str := ["is_integer", "LockError", "Unfit", "held", "wish", "is_door", "clash", "is_calm", "calm", "ranked", "ranks_error", "things_at", "does_clash", "blockers", "movers_at", "foremost", "_law_deck", "_law_draw", "_law_pick", "_law_any", "_law_way", "_law_beyond", "_law_plan", "_law_meets", "_law_bars", "_law_put", "_law_calm", "_law_ranked", "_law_foremost", "_law_no_calm"]
def looseL_1 : List Str := ["_law_no_ranks", "_law_choice", "_law_error", "_law_is_refused"]
def looseL : List Str := looseL_0 ++ looseL_1

theorem run (w : World) : HandSHeadRun.RunEq Rr (PySem.W.view Rr.prog [21, 42]) hk ob 4000 looseL w := by
  intro os
  kernel_rfl
theorem lamF_one {K : PySem.W.Frag} {base : Heap} {mg : Str → Option Value} {x : Str} {fd : FuncData} {c P : Addr} (hl : lamL = [x]) (tq : PySem.W.tabIn K x = some (c, P)) (hc : fd.code = .ref c) (TB : ∀ p ∈ csOf K, LamX.TabB base mg p.1 p.2) : LamF K base mg x fd := by
  have e : TTof K = [(P, lamQ x)] := by
    unfold TTof
    rw [hl, List.filterMap_cons, tq]
    rfl
  refine ⟨c, P, hc, TB _ (cs_mem (by rw [hl]; exact List.mem_singleton.mpr rfl) tq), by rw [e]; exact List.mem_singleton.mpr rfl, fun p hp _ => ?_⟩
  rw [e] at hp
  rw [List.mem_singleton.mp hp]
theorem facts {P : Program} {w : World} {K : PySem.W.Frag} {h : Heap} {mg : Str → Option Value} {f : Addr} (X : K.In h) (G : h.Ns mainGlobals mg) (hfa : mg ("law" : Str) = some (.ref f)) (c : SaysM faL fnL exB K) :
    ∃ (fd : FuncData) (cl : Str → Value), (∀ (s : Shared) (u : Value), BindsTo s fd ⟨[u], []⟩ [("script", u)]) ∧ ∀ base : Heap, K.In base → base.Ns mainGlobals mg → (∀ p ∈ csOf K, LamX.TabB base mg p.1 p.2) → RunG P w K mg base cl 9 f fd ["script"] d_law := by
  have T : Tx K mg (clG K) := ⟨He.free_ok X G (c.e.fact 0 (f := .free "abs") rfl),
    He.free_ok X G (c.e.fact 1 (f := .free "all") rfl),
    He.free_ok X G (c.e.fact 2 (f := .free "bool") rfl),
    He.free_ok X G (c.e.fact 3 (f := .free "enumerate") rfl),
    He.free_ok X G (c.e.fact 4 (f := .free "int") rfl),
    He.free_ok X G (c.e.fact 5 (f := .free "isinstance") rfl),
    He.free_ok X G (c.e.fact 6 (f := .free "len") rfl),
    He.free_ok X G (c.e.fact 7 (f := .free "list") rfl),
    He.free_ok X G (c.e.fact 8 (f := .free "max") rfl),
    He.free_ok X G (c.e.fact 9 (f := .free "range") rfl),
    He.free_ok X G (c.e.fact 10 (f := .free "repr") rfl),
    He.free_ok X G (c.e.fact 11 (f := .free "tuple") rfl),
    exn_ok X G (c.e.fact 12 (f := .glo "Unfit") rfl) (c.e.fact 13 (f := .exc "Unfit") rfl) (c.e.fact 14 (f := .exm "Unfit" "Unfit" true) rfl)⟩
  obtain ⟨_, _, _, _, _, _, _, cdv_is_integer, _, lk_is_integer, cd_is_integer⟩ := c.e.def_ 0 (d := fnD "is_integer" s_is_integer) rfl
  have F_is_integer := fun_mk (st := s_is_integer) lk_is_integer cd_is_integer (He.keep_ok (c.e.fact 16 (f := .keep "is_integer") rfl))
  have g_is_integer : mg "is_integer" = some (.ref (He.ga K "is_integer")) := He.glo_ok X G (c.e.fact 15 (f := .glo "is_integer") rfl)
  have b_is_integer := F_is_integer.binds (ps := ["value"]) fun _ _ _ _ _ _ us hl => match us, hl with | [_], _ => rfl
  obtain ⟨_, _, _, _, _, _, _, cdv_held, _, lk_held, cd_held⟩ := c.e.def_ 1 (d := fnD "held" s_held) rfl
  have F_held := fun_mk (st := s_held) lk_held cd_held (He.keep_ok (c.e.fact 18 (f := .keep "held") rfl))
  have g_held : mg "held" = some (.ref (He.ga K "held")) := He.glo_ok X G (c.e.fact 17 (f := .glo "held") rfl)
  have b_held := F_held.binds (ps := ["way", "place"]) fun _ _ _ _ _ _ us hl => match us, hl with | [_, _], _ => rfl
  obtain ⟨_, _, _, _, _, _, _, cdv_wish, _, lk_wish, cd_wish⟩ := c.e.def_ 2 (d := fnD "wish" s_wish) rfl
  have F_wish := fun_mk (st := s_wish) lk_wish cd_wish (He.keep_ok (c.e.fact 20 (f := .keep "wish") rfl))
  have g_wish : mg "wish" = some (.ref (He.ga K "wish")) := He.glo_ok X G (c.e.fact 19 (f := .glo "wish") rfl)
  have b_wish := F_wish.binds (ps := ["way", "place"]) fun _ _ _ _ _ _ us hl => match us, hl with | [_, _], _ => rfl
  obtain ⟨_, _, _, _, _, _, _, cdv_is_door, _, lk_is_door, cd_is_door⟩ := c.e.def_ 3 (d := fnD "is_door" s_is_door) rfl
  have F_is_door := fun_mk (st := s_is_door) lk_is_door cd_is_door (He.keep_ok (c.e.fact 22 (f := .keep "is_door") rfl))
  have g_is_door : mg "is_door" = some (.ref (He.ga K "is_door")) := He.glo_ok X G (c.e.fact 21 (f := .glo "is_door") rfl)
  have b_is_door := F_is_door.binds (ps := ["house", "room"]) fun _ _ _ _ _ _ us hl => match us, hl with | [_, _], _ => rfl
  obtain ⟨_, _, _, _, _, _, _, cdv_clash, _, lk_clash, cd_clash⟩ := c.e.def_ 4 (d := fnD "clash" s_clash) rfl
  have F_clash := fun_mk (st := s_clash) lk_clash cd_clash (He.keep_ok (c.e.fact 24 (f := .keep "clash") rfl))
  have g_clash : mg "clash" = some (.ref (He.ga K "clash")) := He.glo_ok X G (c.e.fact 23 (f := .glo "clash") rfl)
  have b_clash := F_clash.binds (ps := ["house", "one", "other"]) fun _ _ _ _ _ _ us hl => match us, hl with | [_, _, _], _ => rfl
  obtain ⟨_, _, _, _, _, _, _, cdv_is_calm, _, lk_is_calm, cd_is_calm⟩ := c.e.def_ 5 (d := fnD "is_calm" s_is_calm) rfl
  have F_is_calm := fun_mk (st := s_is_calm) lk_is_calm cd_is_calm (He.keep_ok (c.e.fact 26 (f := .keep "is_calm") rfl))
  have g_is_calm : mg "is_calm" = some (.ref (He.ga K "is_calm")) := He.glo_ok X G (c.e.fact 25 (f := .glo "is_calm") rfl)
  have b_is_calm := F_is_calm.binds (ps := ["house"]) fun _ _ _ _ _ _ us hl => match us, hl with | [_], _ => rfl
  obtain ⟨_, _, _, _, _, _, _, cdv_calm, _, lk_calm, cd_calm⟩ := c.e.def_ 6 (d := fnD "calm" s_calm) rfl
  have F_calm := fun_mk (st := s_calm) lk_calm cd_calm (He.keep_ok (c.e.fact 28 (f := .keep "calm") rfl))
  have g_calm : mg "calm" = some (.ref (He.ga K "calm")) := He.glo_ok X G (c.e.fact 27 (f := .glo "calm") rfl)
  have b_calm := F_calm.binds (ps := ["house"]) fun _ _ _ _ _ _ us hl => match us, hl with | [_], _ => rfl
  obtain ⟨_, _, _, _, _, _, _, cdv_ranks_error, _, lk_ranks_error, cd_ranks_error⟩ := c.e.def_ 7 (d := fnD "ranks_error" s_ranks_error) rfl
  have F_ranks_error := fun_mk (st := s_ranks_error) lk_ranks_error cd_ranks_error (He.keep_ok (c.e.fact 30 (f := .keep "ranks_error") rfl))
  have g_ranks_error : mg "ranks_error" = some (.ref (He.ga K "ranks_error")) := He.glo_ok X G (c.e.fact 29 (f := .glo "ranks_error") rfl)
  have b_ranks_error := F_ranks_error.binds (ps := ["house", "value"]) fun _ _ _ _ _ _ us hl => match us, hl with | [_, _], _ => rfl
  obtain ⟨_, _, _, _, _, _, _, cdv_ranked, _, lk_ranked, cd_ranked⟩ := c.e.def_ 8 (d := fnD "ranked" s_ranked) rfl
  have F_ranked := fun_mk (st := s_ranked) lk_ranked cd_ranked (He.keep_ok (c.e.fact 32 (f := .keep "ranked") rfl))
  have g_ranked : mg "ranked" = some (.ref (He.ga K "ranked")) := He.glo_ok X G (c.e.fact 31 (f := .glo "ranked") rfl)
  have b_ranked := F_ranked.binds (ps := ["house", "ranks"]) fun _ _ _ _ _ _ us hl => match us, hl with | [_, _], _ => rfl
  obtain ⟨_, _, _, _, _, _, _, cdv_things_at, _, lk_things_at, cd_things_at⟩ := c.e.def_ 9 (d := fnD "things_at" s_things_at) rfl
  have F_things_at := fun_mk (st := s_things_at) lk_things_at cd_things_at (He.keep_ok (c.e.fact 34 (f := .keep "things_at") rfl))
  have g_things_at : mg "things_at" = some (.ref (He.ga K "things_at")) := He.glo_ok X G (c.e.fact 33 (f := .glo "things_at") rfl)
  have b_things_at := F_things_at.binds (ps := ["house", "choice", "hand"]) fun _ _ _ _ _ _ us hl => match us, hl with | [_, _, _], _ => rfl
  obtain ⟨_, _, _, _, _, _, _, cdv_does_clash, _, lk_does_clash, cd_does_clash⟩ := c.e.def_ 10 (d := fnD "does_clash" s_does_clash) rfl
  have F_does_clash := fun_mk (st := s_does_clash) lk_does_clash cd_does_clash (He.keep_ok (c.e.fact 36 (f := .keep "does_clash") rfl))
  have g_does_clash : mg "does_clash" = some (.ref (He.ga K "does_clash")) := He.glo_ok X G (c.e.fact 35 (f := .glo "does_clash") rfl)
  have b_does_clash := F_does_clash.binds (ps := ["house", "thing", "things"]) fun _ _ _ _ _ _ us hl => match us, hl with | [_, _, _], _ => rfl
  obtain ⟨_, _, _, _, _, _, _, cdv_blockers, _, lk_blockers, cd_blockers⟩ := c.e.def_ 11 (d := fnD "blockers" s_blockers) rfl
  have F_blockers := fun_mk (st := s_blockers) lk_blockers cd_blockers (He.keep_ok (c.e.fact 38 (f := .keep "blockers") rfl))
  have g_blockers : mg "blockers" = some (.ref (He.ga K "blockers")) := He.glo_ok X G (c.e.fact 37 (f := .glo "blockers") rfl)
  have b_blockers := F_blockers.binds (ps := ["house", "choice", "hand"]) fun _ _ _ _ _ _ us hl => match us, hl with | [_, _, _], _ => rfl
  obtain ⟨_, _, _, _, _, _, _, cdv_movers_at, _, lk_movers_at, cd_movers_at⟩ := c.e.def_ 12 (d := fnD "movers_at" s_movers_at) rfl
  have F_movers_at := fun_mk (st := s_movers_at) lk_movers_at cd_movers_at (He.keep_ok (c.e.fact 40 (f := .keep "movers_at") rfl))
  have g_movers_at : mg "movers_at" = some (.ref (He.ga K "movers_at")) := He.glo_ok X G (c.e.fact 39 (f := .glo "movers_at") rfl)
  have b_movers_at := F_movers_at.binds (ps := ["house", "choice"]) fun _ _ _ _ _ _ us hl => match us, hl with | [_, _], _ => rfl
  obtain ⟨_, _, _, _, _, _, _, cdv_highest, _, lk_highest, cd_highest⟩ := c.e.def_ 13 (d := fnD "highest" s_highest) rfl
  have F_highest := fun_mk (st := s_highest) lk_highest cd_highest (He.keep_ok (c.e.fact 42 (f := .keep "highest") rfl))
  have g_highest : mg "highest" = some (.ref (He.ga K "highest")) := He.glo_ok X G (c.e.fact 41 (f := .glo "highest") rfl)
  have b_highest := F_highest.binds (ps := ["ranks", "hands"]) fun _ _ _ _ _ _ us hl => match us, hl with | [_, _], _ => rfl
  obtain ⟨_, _, _, _, _, _, _, cdv_foremost, _, lk_foremost, cd_foremost⟩ := c.e.def_ 14 (d := fnD "foremost" s_foremost) rfl
  have F_foremost := fun_mk (st := s_foremost) lk_foremost cd_foremost (He.keep_ok (c.e.fact 44 (f := .keep "foremost") rfl))
  have g_foremost : mg "foremost" = some (.ref (He.ga K "foremost")) := He.glo_ok X G (c.e.fact 43 (f := .glo "foremost") rfl)
  have b_foremost := F_foremost.binds (ps := ["house", "ranks", "choice"]) fun _ _ _ _ _ _ us hl => match us, hl with | [_, _, _], _ => rfl
  obtain ⟨_, _, _, _, _, _, _, cdv_law_deck, _, lk_law_deck, cd_law_deck⟩ := c.e.def_ 15 (d := fnD "_law_deck" s_law_deck) rfl
  have F_law_deck := fun_mk (st := s_law_deck) lk_law_deck cd_law_deck (He.keep_ok (c.e.fact 46 (f := .keep "_law_deck") rfl))
  have g_law_deck : mg "_law_deck" = some (.ref (He.ga K "_law_deck")) := He.glo_ok X G (c.e.fact 45 (f := .glo "_law_deck") rfl)
  have b_law_deck := F_law_deck.binds (ps := ["script"]) fun _ _ _ _ _ _ us hl => match us, hl with | [_], _ => rfl
  obtain ⟨_, _, _, _, _, _, _, cdv_law_draw, _, lk_law_draw, cd_law_draw⟩ := c.e.def_ 16 (d := fnD "_law_draw" s_law_draw) rfl
  have F_law_draw := fun_mk (st := s_law_draw) lk_law_draw cd_law_draw (He.keep_ok (c.e.fact 48 (f := .keep "_law_draw") rfl))
  have g_law_draw : mg "_law_draw" = some (.ref (He.ga K "_law_draw")) := He.glo_ok X G (c.e.fact 47 (f := .glo "_law_draw") rfl)
  have b_law_draw := F_law_draw.binds (ps := ["deck", "many"]) fun _ _ _ _ _ _ us hl => match us, hl with | [_, _], _ => rfl
  obtain ⟨_, _, _, _, _, _, _, cdv_law_pick, _, lk_law_pick, cd_law_pick⟩ := c.e.def_ 17 (d := fnD "_law_pick" s_law_pick) rfl
  have F_law_pick := fun_mk (st := s_law_pick) lk_law_pick cd_law_pick (He.keep_ok (c.e.fact 50 (f := .keep "_law_pick") rfl))
  have g_law_pick : mg "_law_pick" = some (.ref (He.ga K "_law_pick")) := He.glo_ok X G (c.e.fact 49 (f := .glo "_law_pick") rfl)
  have b_law_pick := F_law_pick.binds (ps := ["deck", "row"]) fun _ _ _ _ _ _ us hl => match us, hl with | [_, _], _ => rfl
  obtain ⟨_, _, _, _, _, _, _, cdv_law_any, _, lk_law_any, cd_law_any⟩ := c.e.def_ 18 (d := fnD "_law_any" s_law_any) rfl
  have F_law_any := fun_mk (st := s_law_any) lk_law_any cd_law_any (He.keep_ok (c.e.fact 52 (f := .keep "_law_any") rfl))
  have g_law_any : mg "_law_any" = some (.ref (He.ga K "_law_any")) := He.glo_ok X G (c.e.fact 51 (f := .glo "_law_any") rfl)
  have b_law_any := F_law_any.binds (ps := ["deck", "deep"]) fun _ _ _ _ _ _ us hl => match us, hl with | [_, _], _ => rfl
  obtain ⟨_, _, _, _, _, _, _, cdv_law_way, _, lk_law_way, cd_law_way⟩ := c.e.def_ 19 (d := fnD "_law_way" s_law_way) rfl
  have F_law_way := fun_mk (st := s_law_way) lk_law_way cd_law_way (He.keep_ok (c.e.fact 54 (f := .keep "_law_way") rfl))
  have g_law_way : mg "_law_way" = some (.ref (He.ga K "_law_way")) := He.glo_ok X G (c.e.fact 53 (f := .glo "_law_way") rfl)
  have b_law_way := F_law_way.binds (ps := ["deck", "modes", "most", "is_trying"]) fun _ _ _ _ _ _ us hl => match us, hl with | [_, _, _, _], _ => rfl
  obtain ⟨_, _, _, _, _, _, _, cdv_law_beyond, _, lk_law_beyond, cd_law_beyond⟩ := c.e.def_ 20 (d := fnD "_law_beyond" s_law_beyond) rfl
  have F_law_beyond := fun_mk (st := s_law_beyond) lk_law_beyond cd_law_beyond (He.keep_ok (c.e.fact 56 (f := .keep "_law_beyond") rfl))
  have g_law_beyond : mg "_law_beyond" = some (.ref (He.ga K "_law_beyond")) := He.glo_ok X G (c.e.fact 55 (f := .glo "_law_beyond") rfl)
  have b_law_beyond := F_law_beyond.binds (ps := ["way", "place"]) fun _ _ _ _ _ _ us hl => match us, hl with | [_, _], _ => rfl
  obtain ⟨_, _, _, _, _, _, _, cdv_law_plan, _, lk_law_plan, cd_law_plan⟩ := c.e.def_ 21 (d := fnD "_law_plan" s_law_plan) rfl
  have F_law_plan := fun_mk (st := s_law_plan) lk_law_plan cd_law_plan (He.keep_ok (c.e.fact 58 (f := .keep "_law_plan") rfl))
  have g_law_plan : mg "_law_plan" = some (.ref (He.ga K "_law_plan")) := He.glo_ok X G (c.e.fact 57 (f := .glo "_law_plan") rfl)
  have b_law_plan := F_law_plan.binds (ps := ["house"]) fun _ _ _ _ _ _ us hl => match us, hl with | [_], _ => rfl
  obtain ⟨_, _, _, _, _, _, _, cdv_law_meets, _, lk_law_meets, cd_law_meets⟩ := c.e.def_ 22 (d := fnD "_law_meets" s_law_meets) rfl
  have F_law_meets := fun_mk (st := s_law_meets) lk_law_meets cd_law_meets (He.keep_ok (c.e.fact 60 (f := .keep "_law_meets") rfl))
  have g_law_meets : mg "_law_meets" = some (.ref (He.ga K "_law_meets")) := He.glo_ok X G (c.e.fact 59 (f := .glo "_law_meets") rfl)
  have b_law_meets := F_law_meets.binds (ps := ["house", "thing", "held_v"]) fun _ _ _ _ _ _ us hl => match us, hl with | [_, _, _], _ => rfl
  obtain ⟨_, _, _, _, _, _, _, cdv_law_bars, _, lk_law_bars, cd_law_bars⟩ := c.e.def_ 23 (d := fnD "_law_bars" s_law_bars) rfl
  have F_law_bars := fun_mk (st := s_law_bars) lk_law_bars cd_law_bars (He.keep_ok (c.e.fact 62 (f := .keep "_law_bars") rfl))
  have g_law_bars : mg "_law_bars" = some (.ref (He.ga K "_law_bars")) := He.glo_ok X G (c.e.fact 61 (f := .glo "_law_bars") rfl)
  have b_law_bars := F_law_bars.binds (ps := ["house", "plan", "choice", "hand", "thing"]) fun _ _ _ _ _ _ us hl => match us, hl with | [_, _, _, _, _], _ => rfl
  obtain ⟨_, _, _, _, _, _, _, cdv_law_put, _, lk_law_put, cd_law_put⟩ := c.e.def_ 24 (d := fnD "_law_put" s_law_put) rfl
  have F_law_put := fun_mk (st := s_law_put) lk_law_put cd_law_put (He.keep_ok (c.e.fact 64 (f := .keep "_law_put") rfl))
  have g_law_put : mg "_law_put" = some (.ref (He.ga K "_law_put")) := He.glo_ok X G (c.e.fact 63 (f := .glo "_law_put") rfl)
  have b_law_put := F_law_put.binds (ps := ["plan", "choice", "hand", "place"]) fun _ _ _ _ _ _ us hl => match us, hl with | [_, _, _, _], _ => rfl
  obtain ⟨_, _, _, _, _, _, _, cdv_law_calm, _, lk_law_calm, cd_law_calm⟩ := c.e.def_ 25 (d := fnD "_law_calm" s_law_calm) rfl
  have F_law_calm := fun_mk (st := s_law_calm) lk_law_calm cd_law_calm (He.keep_ok (c.e.fact 66 (f := .keep "_law_calm") rfl))
  have g_law_calm : mg "_law_calm" = some (.ref (He.ga K "_law_calm")) := He.glo_ok X G (c.e.fact 65 (f := .glo "_law_calm") rfl)
  have b_law_calm := F_law_calm.binds (ps := ["deck", "hands", "rooms", "most"]) fun _ _ _ _ _ _ us hl => match us, hl with | [_, _, _, _], _ => rfl
  obtain ⟨_, _, _, _, _, _, _, cdv_law_ranked, _, lk_law_ranked, cd_law_ranked⟩ := c.e.def_ 26 (d := fnD "_law_ranked" s_law_ranked) rfl
  have F_law_ranked := fun_mk (st := s_law_ranked) lk_law_ranked cd_law_ranked (He.keep_ok (c.e.fact 68 (f := .keep "_law_ranked") rfl))
  have g_law_ranked : mg "_law_ranked" = some (.ref (He.ga K "_law_ranked")) := He.glo_ok X G (c.e.fact 67 (f := .glo "_law_ranked") rfl)
  have b_law_ranked := F_law_ranked.binds (ps := ["deck", "hands"]) fun _ _ _ _ _ _ us hl => match us, hl with | [_, _], _ => rfl
  obtain ⟨_, _, _, _, _, _, _, cdv_law_foremost, _, lk_law_foremost, cd_law_foremost⟩ := c.e.def_ 27 (d := fnD "_law_foremost" s_law_foremost) rfl
  have F_law_foremost := fun_mk (st := s_law_foremost) lk_law_foremost cd_law_foremost (He.keep_ok (c.e.fact 70 (f := .keep "_law_foremost") rfl))
  have g_law_foremost : mg "_law_foremost" = some (.ref (He.ga K "_law_foremost")) := He.glo_ok X G (c.e.fact 69 (f := .glo "_law_foremost") rfl)
  have b_law_foremost := F_law_foremost.binds (ps := ["house", "plan", "ranks", "choice"]) fun _ _ _ _ _ _ us hl => match us, hl with | [_, _, _, _], _ => rfl
  obtain ⟨_, _, _, _, _, _, _, cdv_law_no_calm, _, lk_law_no_calm, cd_law_no_calm⟩ := c.e.def_ 28 (d := fnD "_law_no_calm" s_law_no_calm) rfl
  have F_law_no_calm := fun_mk (st := s_law_no_calm) lk_law_no_calm cd_law_no_calm (He.keep_ok (c.e.fact 72 (f := .keep "_law_no_calm") rfl))
  have g_law_no_calm : mg "_law_no_calm" = some (.ref (He.ga K "_law_no_calm")) := He.glo_ok X G (c.e.fact 71 (f := .glo "_law_no_calm") rfl)
  have b_law_no_calm := F_law_no_calm.binds (ps := ["deck", "house"]) fun _ _ _ _ _ _ us hl => match us, hl with | [_, _], _ => rfl
  obtain ⟨_, _, _, _, _, _, _, cdv_law_no_ranks, _, lk_law_no_ranks, cd_law_no_ranks⟩ := c.e.def_ 29 (d := fnD "_law_no_ranks" s_law_no_ranks) rfl
  have F_law_no_ranks := fun_mk (st := s_law_no_ranks) lk_law_no_ranks cd_law_no_ranks (He.keep_ok (c.e.fact 74 (f := .keep "_law_no_ranks") rfl))
  have g_law_no_ranks : mg "_law_no_ranks" = some (.ref (He.ga K "_law_no_ranks")) := He.glo_ok X G (c.e.fact 73 (f := .glo "_law_no_ranks") rfl)
  have b_law_no_ranks := F_law_no_ranks.binds (ps := ["deck", "ranks"]) fun _ _ _ _ _ _ us hl => match us, hl with | [_, _], _ => rfl
  obtain ⟨_, _, _, _, _, _, _, cdv_law_choice, _, lk_law_choice, cd_law_choice⟩ := c.e.def_ 30 (d := fnD "_law_choice" s_law_choice) rfl
  have F_law_choice := fun_mk (st := s_law_choice) lk_law_choice cd_law_choice (He.keep_ok (c.e.fact 76 (f := .keep "_law_choice") rfl))
  have g_law_choice : mg "_law_choice" = some (.ref (He.ga K "_law_choice")) := He.glo_ok X G (c.e.fact 75 (f := .glo "_law_choice") rfl)
  have b_law_choice := F_law_choice.binds (ps := ["deck", "house", "plan"]) fun _ _ _ _ _ _ us hl => match us, hl with | [_, _, _], _ => rfl
  obtain ⟨_, _, _, _, _, _, _, cdv_law_error, _, lk_law_error, cd_law_error⟩ := c.e.def_ 31 (d := fnD "_law_error" s_law_error) rfl
  have F_law_error := fun_mk (st := s_law_error) lk_law_error cd_law_error (He.keep_ok (c.e.fact 78 (f := .keep "_law_error") rfl))
  have g_law_error : mg "_law_error" = some (.ref (He.ga K "_law_error")) := He.glo_ok X G (c.e.fact 77 (f := .glo "_law_error") rfl)
  have b_law_error := F_law_error.binds (ps := ["many", "value"]) fun _ _ _ _ _ _ us hl => match us, hl with | [_, _], _ => rfl
  obtain ⟨_, _, _, _, _, _, _, cdv_law_is_refused, _, lk_law_is_refused, cd_law_is_refused⟩ := c.e.def_ 32 (d := fnD "_law_is_refused" s_law_is_refused) rfl
  have F_law_is_refused := fun_mk (st := s_law_is_refused) lk_law_is_refused cd_law_is_refused (He.keep_ok (c.e.fact 80 (f := .keep "_law_is_refused") rfl))
  have g_law_is_refused : mg "_law_is_refused" = some (.ref (He.ga K "_law_is_refused")) := He.glo_ok X G (c.e.fact 79 (f := .glo "_law_is_refused") rfl)
  have b_law_is_refused := F_law_is_refused.binds (ps := ["house", "ranks", "choice", "way"]) fun _ _ _ _ _ _ us hl => match us, hl with | [_, _, _, _], _ => rfl
  obtain ⟨_, _, _, kVl, dcl, pml, anl, cdv_law, ctl, lk_law, cd_law⟩ := c.e.def_ 33 (d := fnD "law" s_law) rfl
  have F_law := fun_mk (st := s_law) lk_law cd_law (He.keep_ok (c.e.fact 82 (f := .keep "law") rfl))
  have g_law : mg "law" = some (.ref (He.ga K "law")) := He.glo_ok X G (c.e.fact 81 (f := .glo "law") rfl)
  have e := hfa.symm.trans g_law
  cases e
  refine ⟨PySem.W.fnOf "law" "law" (defArgs s_law) (defBody s_law) (defScope s_law) .none kVl dcl pml anl cdv_law ctl, clG K, fun s v => .of_eq rfl, fun base B1 B2 TBs => ?_⟩
  obtain ⟨⟨cc_highest, cP_highest⟩, tq_highest⟩ := Option.isSome_iff_exists.mp (List.all_eq_true.mp (c.x) "highest" (by decide))
  have LF_highest := lamF_one (base := base) rfl tq_highest (PySem.W.law_code X G tq_highest g_highest (X _ _ lk_highest) rfl) TBs
  have O_is_integer := ok_is_integer (P := P) (w := w) (base := base) T F_is_integer
  have H_is_integer : Has P w K mg base (clG K) "is_integer" 1 d_is_integer := ⟨⟨He.ga K "is_integer", _, ["value"], O_is_integer, g_is_integer, F_is_integer.kp, b_is_integer⟩⟩
  have O_held := ok_held (P := P) (w := w) (base := base) T F_held
  have H_held : Has P w K mg base (clG K) "held" 1 d_held := ⟨⟨He.ga K "held", _, ["way", "place"], O_held, g_held, F_held.kp, b_held⟩⟩
  have O_wish := ok_wish (P := P) (w := w) (base := base) T F_wish
  have H_wish : Has P w K mg base (clG K) "wish" 1 d_wish := ⟨⟨He.ga K "wish", _, ["way", "place"], O_wish, g_wish, F_wish.kp, b_wish⟩⟩
  have O_is_door := ok_is_door (P := P) (w := w) (base := base) T F_is_door
  have H_is_door : Has P w K mg base (clG K) "is_door" 1 d_is_door := ⟨⟨He.ga K "is_door", _, ["house", "room"], O_is_door, g_is_door, F_is_door.kp, b_is_door⟩⟩
  have O_clash := ok_clash (P := P) (w := w) (base := base) T F_clash H_is_door
  have H_clash : Has P w K mg base (clG K) "clash" 2 d_clash := ⟨⟨He.ga K "clash", _, ["house", "one", "other"], O_clash, g_clash, F_clash.kp, b_clash⟩⟩
  have O_is_calm := ok_is_calm (P := P) (w := w) (base := base) T F_is_calm
  have H_is_calm : Has P w K mg base (clG K) "is_calm" 1 d_is_calm := ⟨⟨He.ga K "is_calm", _, ["house"], O_is_calm, g_is_calm, F_is_calm.kp, b_is_calm⟩⟩
  have O_calm := ok_calm (P := P) (w := w) (base := base) T F_calm H_is_calm
  have H_calm : Has P w K mg base (clG K) "calm" 2 d_calm := ⟨⟨He.ga K "calm", _, ["house"], O_calm, g_calm, F_calm.kp, b_calm⟩⟩
  have O_ranks_error := ok_ranks_error (P := P) (w := w) (base := base) T F_ranks_error H_calm H_is_integer
  have H_ranks_error : Has P w K mg base (clG K) "ranks_error" 3 d_ranks_error := ⟨⟨He.ga K "ranks_error", _, ["house", "value"], O_ranks_error, g_ranks_error, F_ranks_error.kp, b_ranks_error⟩⟩
  have HK_ranks_error : HasK P w K mg base (clG K) "ranks_error" 3 ["value", "house"] [1, 0] d_ranks_error := ⟨⟨He.ga K "ranks_error", _, ["house", "value"], O_ranks_error, g_ranks_error, F_ranks_error.kp, fun s ws _ hl => match ws, hl with | [_, _], _ => .of_eq rfl⟩⟩
  have O_ranked := ok_ranked (P := P) (w := w) (base := base) T F_ranked H_ranks_error
  have H_ranked : Has P w K mg base (clG K) "ranked" 4 d_ranked := ⟨⟨He.ga K "ranked", _, ["house", "ranks"], O_ranked, g_ranked, F_ranked.kp, b_ranked⟩⟩
  have O_things_at := ok_things_at (P := P) (w := w) (base := base) T F_things_at H_held
  have H_things_at : Has P w K mg base (clG K) "things_at" 2 d_things_at := ⟨⟨He.ga K "things_at", _, ["house", "choice", "hand"], O_things_at, g_things_at, F_things_at.kp, b_things_at⟩⟩
  have O_does_clash := ok_does_clash (P := P) (w := w) (base := base) T F_does_clash H_clash
  have H_does_clash : Has P w K mg base (clG K) "does_clash" 3 d_does_clash := ⟨⟨He.ga K "does_clash", _, ["house", "thing", "things"], O_does_clash, g_does_clash, F_does_clash.kp, b_does_clash⟩⟩
  have O_blockers := ok_blockers (P := P) (w := w) (base := base) T F_blockers H_does_clash H_things_at H_wish
  have H_blockers : Has P w K mg base (clG K) "blockers" 4 d_blockers := ⟨⟨He.ga K "blockers", _, ["house", "choice", "hand"], O_blockers, g_blockers, F_blockers.kp, b_blockers⟩⟩
  have O_movers_at := ok_movers_at (P := P) (w := w) (base := base) T F_movers_at H_blockers
  have H_movers_at : Has P w K mg base (clG K) "movers_at" 5 d_movers_at := ⟨⟨He.ga K "movers_at", _, ["house", "choice"], O_movers_at, g_movers_at, F_movers_at.kp, b_movers_at⟩⟩
  have O_highest := ok_highest (P := P) (w := w) (base := base) T F_highest LF_highest
  have H_highest : Has P w K mg base (clG K) "highest" 3 d_highest := ⟨⟨He.ga K "highest", _, ["ranks", "hands"], O_highest, g_highest, F_highest.kp, b_highest⟩⟩
  have O_foremost := ok_foremost (P := P) (w := w) (base := base) T F_foremost H_highest H_movers_at H_ranked
  have H_foremost : Has P w K mg base (clG K) "foremost" 6 d_foremost := ⟨⟨He.ga K "foremost", _, ["house", "ranks", "choice"], O_foremost, g_foremost, F_foremost.kp, b_foremost⟩⟩
  have HK_foremost : HasK P w K mg base (clG K) "foremost" 6 ["choice", "ranks", "house"] [2, 1, 0] d_foremost := ⟨⟨He.ga K "foremost", _, ["house", "ranks", "choice"], O_foremost, g_foremost, F_foremost.kp, fun s ws _ hl => match ws, hl with | [_, _, _], _ => .of_eq rfl⟩⟩
  have O_law_deck := ok_law_deck (P := P) (w := w) (base := base) T F_law_deck
  have H_law_deck : Has P w K mg base (clG K) "_law_deck" 1 d_law_deck := ⟨⟨He.ga K "_law_deck", _, ["script"], O_law_deck, g_law_deck, F_law_deck.kp, b_law_deck⟩⟩
  have O_law_draw := ok_law_draw (P := P) (w := w) (base := base) T F_law_draw
  have H_law_draw : Has P w K mg base (clG K) "_law_draw" 1 d_law_draw := ⟨⟨He.ga K "_law_draw", _, ["deck", "many"], O_law_draw, g_law_draw, F_law_draw.kp, b_law_draw⟩⟩
  have O_law_pick := ok_law_pick (P := P) (w := w) (base := base) T F_law_pick H_law_draw
  have H_law_pick : Has P w K mg base (clG K) "_law_pick" 2 d_law_pick := ⟨⟨He.ga K "_law_pick", _, ["deck", "row"], O_law_pick, g_law_pick, F_law_pick.kp, b_law_pick⟩⟩
  have H_law_any : Has P w K mg base (clG K) "_law_any" 8 (d_law_any 5) := ⟨⟨He.ga K "_law_any", _, ["deck", "deep"], ok_law_any T F_law_any g_law_any b_law_any H_law_draw H_law_pick 5 (Nat.le_refl _), g_law_any, F_law_any.kp, b_law_any⟩⟩
  have O_law_way := ok_law_way (P := P) (w := w) (base := base) T F_law_way H_law_draw H_law_pick
  have H_law_way : Has P w K mg base (clG K) "_law_way" 3 d_law_way := ⟨⟨He.ga K "_law_way", _, ["deck", "modes", "most", "is_trying"], O_law_way, g_law_way, F_law_way.kp, b_law_way⟩⟩
  have O_law_beyond := ok_law_beyond (P := P) (w := w) (base := base) T F_law_beyond
  have H_law_beyond : Has P w K mg base (clG K) "_law_beyond" 1 d_law_beyond := ⟨⟨He.ga K "_law_beyond", _, ["way", "place"], O_law_beyond, g_law_beyond, F_law_beyond.kp, b_law_beyond⟩⟩
  have O_law_plan := ok_law_plan (P := P) (w := w) (base := base) T F_law_plan H_law_beyond
  have H_law_plan : Has P w K mg base (clG K) "_law_plan" 2 d_law_plan := ⟨⟨He.ga K "_law_plan", _, ["house"], O_law_plan, g_law_plan, F_law_plan.kp, b_law_plan⟩⟩
  have O_law_meets := ok_law_meets (P := P) (w := w) (base := base) T F_law_meets
  have H_law_meets : Has P w K mg base (clG K) "_law_meets" 1 d_law_meets := ⟨⟨He.ga K "_law_meets", _, ["house", "thing", "held_v"], O_law_meets, g_law_meets, F_law_meets.kp, b_law_meets⟩⟩
  have O_law_bars := ok_law_bars (P := P) (w := w) (base := base) T F_law_bars H_law_meets
  have H_law_bars : Has P w K mg base (clG K) "_law_bars" 2 d_law_bars := ⟨⟨He.ga K "_law_bars", _, ["house", "plan", "choice", "hand", "thing"], O_law_bars, g_law_bars, F_law_bars.kp, b_law_bars⟩⟩
  have O_law_put := ok_law_put (P := P) (w := w) (base := base) T F_law_put
  have H_law_put : Has P w K mg base (clG K) "_law_put" 1 d_law_put := ⟨⟨He.ga K "_law_put", _, ["plan", "choice", "hand", "place"], O_law_put, g_law_put, F_law_put.kp, b_law_put⟩⟩
  have O_law_calm := ok_law_calm (P := P) (w := w) (base := base) T F_law_calm H_law_pick H_law_way
  have H_law_calm : Has P w K mg base (clG K) "_law_calm" 4 d_law_calm := ⟨⟨He.ga K "_law_calm", _, ["deck", "hands", "rooms", "most"], O_law_calm, g_law_calm, F_law_calm.kp, b_law_calm⟩⟩
  have O_law_ranked := ok_law_ranked (P := P) (w := w) (base := base) T F_law_ranked H_law_draw
  have H_law_ranked : Has P w K mg base (clG K) "_law_ranked" 2 d_law_ranked := ⟨⟨He.ga K "_law_ranked", _, ["deck", "hands"], O_law_ranked, g_law_ranked, F_law_ranked.kp, b_law_ranked⟩⟩
  have O_law_foremost := ok_law_foremost (P := P) (w := w) (base := base) T F_law_foremost H_law_bars
  have H_law_foremost : Has P w K mg base (clG K) "_law_foremost" 3 d_law_foremost := ⟨⟨He.ga K "_law_foremost", _, ["house", "plan", "ranks", "choice"], O_law_foremost, g_law_foremost, F_law_foremost.kp, b_law_foremost⟩⟩
  have O_law_no_calm := ok_law_no_calm (P := P) (w := w) (base := base) T F_law_no_calm H_law_draw
  have H_law_no_calm : Has P w K mg base (clG K) "_law_no_calm" 2 d_law_no_calm := ⟨⟨He.ga K "_law_no_calm", _, ["deck", "house"], O_law_no_calm, g_law_no_calm, F_law_no_calm.kp, b_law_no_calm⟩⟩
  have O_law_no_ranks := ok_law_no_ranks (P := P) (w := w) (base := base) T F_law_no_ranks H_law_pick
  have H_law_no_ranks : Has P w K mg base (clG K) "_law_no_ranks" 3 d_law_no_ranks := ⟨⟨He.ga K "_law_no_ranks", _, ["deck", "ranks"], O_law_no_ranks, g_law_no_ranks, F_law_no_ranks.kp, b_law_no_ranks⟩⟩
  have O_law_choice := ok_law_choice (P := P) (w := w) (base := base) T F_law_choice H_law_bars H_law_draw H_law_put
  have H_law_choice : Has P w K mg base (clG K) "_law_choice" 3 d_law_choice := ⟨⟨He.ga K "_law_choice", _, ["deck", "house", "plan"], O_law_choice, g_law_choice, F_law_choice.kp, b_law_choice⟩⟩
  have O_law_error := ok_law_error (P := P) (w := w) (base := base) T F_law_error
  have H_law_error : Has P w K mg base (clG K) "_law_error" 1 d_law_error := ⟨⟨He.ga K "_law_error", _, ["many", "value"], O_law_error, g_law_error, F_law_error.kp, b_law_error⟩⟩
  have O_law_is_refused := ok_law_is_refused (P := P) (w := w) (base := base) T F_law_is_refused H_foremost H_ranks_error
  have H_law_is_refused : Has P w K mg base (clG K) "_law_is_refused" 7 d_law_is_refused := ⟨⟨He.ga K "_law_is_refused", _, ["house", "ranks", "choice", "way"], O_law_is_refused, g_law_is_refused, F_law_is_refused.kp, b_law_is_refused⟩⟩
  exact ok_law T F_law H_law_any H_law_calm H_law_choice H_law_deck H_law_draw H_law_error H_law_foremost H_law_is_refused H_law_no_calm H_law_no_ranks H_law_pick H_law_plan H_law_ranked H_foremost H_ranks_error HK_ranks_error HK_foremost
end Dn
set_option Elab.async false
set_option linter.all false
set_option maxRecDepth 100000
set_option maxHeartbeats 1000000
/-! Lk0: plain readings of the denotations: results that end well. -/
noncomputable section
namespace Dn
open PySem L2

def Ok {α : Type} (r : Res α) (P : α → Sto → Prop) : Prop := match r with
  | .ok a S => P a S
  | _ => False
section
variable {α β : Type} {r : Res α} {P Q : α → Sto → Prop}
@[simp] theorem Ok_ok {a : α} {S : Sto} : Ok (.ok a S) P = P a S := rfl
@[simp] theorem Ok_bad : Ok (.bad : Res α) P = False := rfl
@[simp] theorem Ok_exc {c : Str} {S : Sto} : Ok (.exc c S : Res α) P = False := rfl
@[simp] theorem Ok_bnd {f : α → Sto → Res β} {P : β → Sto → Prop} : Ok (r.bnd f) P = Ok r fun a S => Ok (f a S) P := by cases r <;> rfl
theorem Ok.imp (h : Ok r P) (i : ∀ a S, P a S → Q a S) : Ok r Q := by
  cases r with
  | ok a S => exact i a S h
  | exc c S => exact h
  | bad => exact h
theorem Ok.ex (h : Ok r P) : ∃ a S, r = .ok a S ∧ P a S := by
  cases r with
  | ok a S => exact ⟨a, S, rfl, h⟩
  | exc c S => exact h.elim
  | bad => exact h.elim
end
structure Po where
  nx : En → Sto → Prop
  rt : D → Sto → Prop
  bk : En → Sto → Prop
  ct : En → Sto → Prop
def OkS (o : Out) (Q : Po) : Prop := match o with
  | .nx δ S => Q.nx δ S
  | .rt d S => Q.rt d S
  | .bk δ S => Q.bk δ S
  | .ct δ S => Q.ct δ S
  | _ => False
def noE : En → Sto → Prop := fun _ _ => False
section
variable {δ : En} {S : Sto} {P : D → Sto → Prop} {Q : Po} {a b c : DE} {ta tb : DT} {as : DA}
theorem OkS.imp {o : Out} {Q' : Po} (h : OkS o Q) (h1 : ∀ δ S, Q.nx δ S → Q'.nx δ S) (h2 : ∀ d S, Q.rt d S → Q'.rt d S) (h3 : ∀ δ S, Q.bk δ S → Q'.bk δ S) (h4 : ∀ δ S, Q.ct δ S → Q'.ct δ S) : OkS o Q' := by
  cases o with
  | nx δ S => exact h1 δ S h
  | rt δ S => exact h2 δ S h
  | bk δ S => exact h3 δ S h
  | ct δ S => exact h4 δ S h
  | exc c S => exact h
  | bad => exact h
@[simp] theorem OkS_then {α : Type} {r : Res α} {k : α → Sto → Out} : OkS (thenS r k) Q = Ok r fun a S => OkS (k a S) Q := by cases r <;> rfl
@[simp] theorem OkS_andThen {o : Out} {k : DS} : OkS (andThen o k) Q = OkS o ⟨fun δ S => OkS (k δ S) Q, Q.rt, Q.bk, Q.ct⟩ := by cases o <;> rfl
@[simp] theorem Ok_endF {o : Out} : Ok (endF o) P = OkS o ⟨fun _ S => P .non S, P, noE, noE⟩ := by cases o <;> rfl
@[simp] theorem OkS_nx : OkS (.nx δ S) Q = Q.nx δ S := rfl
@[simp] theorem OkS_rt {d : D} : OkS (.rt d S) Q = Q.rt d S := rfl
@[simp] theorem OkS_bk : OkS (.bk δ S) Q = Q.bk δ S := rfl
@[simp] theorem OkS_ct : OkS (.ct δ S) Q = Q.ct δ S := rfl
@[simp] theorem OkS_bad : OkS .bad Q = False := rfl
@[simp] theorem o_fn {n N : Nat} {body : DS} {ds : List D} : Ok (dFn n N body ds S) P = (ds.length = n ∧ OkS (body (startD N ds) S) ⟨fun _ S => P .non S, P, noE, noE⟩) := by
  unfold dFn
  split
  · rename_i h
    simp [h]
  · rename_i h
    simp [h]
@[simp] theorem o_seq {x y : DS} : OkS (dSeq x y δ S) Q = OkS (x δ S) ⟨fun δ S => OkS (y δ S) Q, Q.rt, Q.bk, Q.ct⟩ := OkS_andThen
@[simp] theorem o_skip : OkS (dSkip δ S) Q = Q.nx δ S := rfl
@[simp] theorem o_brk : OkS (dBrk δ S) Q = Q.bk δ S := rfl
@[simp] theorem o_cont : OkS (dCont δ S) Q = Q.ct δ S := rfl
@[simp] theorem o_retN : OkS (dRetN δ S) Q = Q.rt .non S := rfl
@[simp] theorem o_ret : OkS (dRet a δ S) Q = Ok (a δ S) fun d S => Q.rt d S := OkS_then
@[simp] theorem o_drop : OkS (dDrop a δ S) Q = Ok (a δ S) fun _ S => Q.nx δ S := OkS_then
@[simp] theorem o_set {i : Nat} : OkS (dSet i a δ S) Q = Ok (a δ S) fun d S => Q.nx (δ.set i (some d)) S := OkS_then
@[simp] theorem o_ifS {x y : DS} : OkS (dIfS ta x y δ S) Q = Ok (ta δ S) fun k S1 => if k = true then OkS (x δ S1) Q else OkS (y δ S1) Q := by
  unfold dIfS
  rw [OkS_then]
  congr
  funext k S1
  cases k <;> rfl
@[simp] theorem o_asg {g : Tg} : OkS (dAsg g a δ S) Q = Ok (a δ S) fun d S => ∃ δ', g.set d δ = some δ' ∧ Q.nx δ' S := by
  unfold dAsg
  rw [OkS_then]
  congr
  funext d S
  cases g.set d δ <;> simp
@[simp] theorem o_par {is : List Nat} : OkS (dPar is as δ S) Q = Ok (as δ S) fun ds S => ∃ δ', Tg.setAll (is.map .nm) ds δ = some δ' ∧ Q.nx δ' S := by
  unfold dPar
  rw [OkS_then]
  congr
  funext d S
  cases Tg.setAll (is.map .nm) d δ <;> simp
@[simp] theorem o_var {i : Nat} : Ok (dVar i δ S) P = ∃ d, δ[i]? = some (some d) ∧ P d S := by
  unfold dVar
  cases δ[i]? with
  | none => simp
  | some o => cases o <;> simp
@[simp] theorem o_c {d : D} : Ok (dC d δ S) P = P d S := rfl
@[simp] theorem o_bin {op : D → D → Sto → Res D} : Ok (dBin op a b δ S) P = Ok (a δ S) fun x S => Ok (b δ S) fun y S => Ok (op x y S) P := by
  unfold dBin
  rw [Ok_bnd]
  congr
  funext x S
  rw [Ok_bnd]
theorem o_asB {r : Res D} {P : Bool → Sto → Prop} : Ok (asB r) P = Ok r fun d S => ∃ k, d = .bl k ∧ P k S := by
  unfold asB
  rw [Ok_bnd]
  congr
  funext d S
  cases d <;> simp
@[simp] theorem o_B {P : Bool → Sto → Prop} : Ok (dB a δ S) P = Ok (a δ S) fun d S => ∃ k, d = .bl k ∧ P k S := o_asB
@[simp] theorem o_and {P : Bool → Sto → Prop} : Ok (dAnd ta tb δ S) P = Ok (ta δ S) fun x S1 => if x = true then Ok (tb δ S1) P else P false S1 := by
  unfold dAnd
  rw [Ok_bnd]
  congr
  funext x S
  cases x <;> rfl
@[simp] theorem o_or {P : Bool → Sto → Prop} : Ok (dOr ta tb δ S) P = Ok (ta δ S) fun x S1 => if x = true then P true S1 else Ok (tb δ S1) P := by
  unfold dOr
  rw [Ok_bnd]
  congr
  funext x S
  cases x <;> rfl
@[simp] theorem o_not {P : Bool → Sto → Prop} : Ok (dNot ta δ S) P = Ok (ta δ S) fun x S1 => P (!x) S1 := by
  unfold dNot
  rw [Ok_bnd]
  rfl
@[simp] theorem o_andV : Ok (dAndV a b δ S) P = Ok (a δ S) fun d S1 => ∃ x, d = .bl x ∧ if x = true then Ok (b δ S1) P else P (.bl false) S1 := by
  unfold dAndV
  rw [Ok_bnd, o_asB]
  congr
  funext d S
  congr
  funext x
  cases x <;> simp
@[simp] theorem o_orV : Ok (dOrV a b δ S) P = Ok (a δ S) fun d S1 => ∃ x, d = .bl x ∧ if x = true then P (.bl true) S1 else Ok (b δ S1) P := by
  unfold dOrV
  rw [Ok_bnd, o_asB]
  congr
  funext d S
  congr
  funext x
  cases x <;> simp
@[simp] theorem o_notV : Ok (dNotV a δ S) P = Ok (a δ S) fun d S1 => ∃ x, d = .bl x ∧ P (.bl (!x)) S1 := by
  unfold dNotV
  rw [Ok_bnd, o_asB]
  rfl
@[simp] theorem o_if : Ok (dIf ta a b δ S) P = Ok (ta δ S) fun x S1 => if x = true then Ok (a δ S1) P else Ok (b δ S1) P := by
  unfold dIf
  rw [Ok_bnd]
  congr
  funext x S
  cases x <;> rfl
@[simp] theorem o_chain {op op' : D → D → Sto → Res D} : Ok (dChain op op' a b c δ S) P = Ok (a δ S) fun x S1 => Ok (b δ S1) fun y S2 => Ok (op x y S2) fun d S3 => ∃ k, d = .bl k ∧ if k = true then Ok (c δ S3) fun z S4 => Ok (op' y z S4) P else P (.bl false) S3 := by
  unfold dChain
  rw [Ok_bnd]
  congr
  funext x S
  rw [Ok_bnd]
  congr
  funext y S
  rw [Ok_bnd, o_asB]
  congr
  funext d S
  congr
  funext k
  cases k <;> simp
@[simp] theorem o_nil {P : List D → Sto → Prop} : Ok (dNil δ S) P = P [] S := rfl
@[simp] theorem o_cons {P : List D → Sto → Prop} : Ok (dCons a as δ S) P = Ok (a δ S) fun x S1 => Ok (as δ S1) fun xs S2 => P (x :: xs) S2 := by
  unfold dCons
  rw [Ok_bnd]
  congr
  funext x S
  rw [Ok_bnd]
  rfl
@[simp] theorem o_mkT {xs : List D} : Ok (mkTup xs S) P = (xs.length ≤ lim ∧ P (.tup xs) S) := by
  unfold mkTup
  split <;> simp [*]
@[simp] theorem o_mkL {xs : List D} : Ok (mkLst xs S) P = (xs.length ≤ lim ∧ P (.cell S.length) (S ++ [.lst xs])) := by
  unfold mkLst
  split <;> simp [*]
@[simp] theorem o_tup : Ok (dTup as δ S) P = Ok (as δ S) fun xs S => xs.length ≤ lim ∧ P (.tup xs) S := by
  unfold dTup
  rw [Ok_bnd]
  congr
  funext xs S
  exact o_mkT
@[simp] theorem o_lst : Ok (dLst as δ S) P = Ok (as δ S) fun xs S => xs.length ≤ lim ∧ P (.cell S.length) (S ++ [.lst xs]) := by
  unfold dLst
  rw [Ok_bnd]
  congr
  funext xs S
  exact o_mkL
@[simp] theorem o_call {f : DF} : Ok (dCall f as δ S) P = Ok (as δ S) fun ds S => Ok (f ds S) P := Ok_bnd
@[simp] theorem o_callK {f : DF} {is : List Nat} : Ok (dCallK f is as δ S) P = Ok (as δ S) fun ds S => ds.length = is.length ∧ Ok (f (permD is ds) S) P := by
  unfold dCallK
  rw [Ok_bnd]
  congr
  funext xs S
  split <;> simp [*]
@[simp] theorem o_noPart {P : Option Int → Sto → Prop} : Ok (dNoPart δ S) P = P none S := rfl
@[simp] theorem o_part {P : Option Int → Sto → Prop} : Ok (dPart a δ S) P = Ok (a δ S) fun d S => ∃ i, d = .int i ∧ P (some i) S := by
  unfold dPart
  rw [Ok_bnd]
  congr
  funext d S
  cases d <;> simp
@[simp] theorem o_sl {lo hi : DO} : Ok (dSl a lo hi δ S) P = Ok (a δ S) fun x S1 => Ok (lo δ S1) fun l S2 => Ok (hi δ S2) fun h S3 => Ok (opSl x l h S3) P := by
  unfold dSl
  rw [Ok_bnd]
  congr
  funext x S
  rw [Ok_bnd]
  congr
  funext l S
  rw [Ok_bnd]
@[simp] theorem o_slT {xs : List D} {lo hi : Option Int} : Ok (opSl (.tup xs) lo hi S) P = P (.tup (cutD xs lo hi)) S := rfl
@[simp] theorem o_neg : Ok (dNeg a δ S) P = Ok (a δ S) fun d S => ∃ i, d = .int i ∧ P (.int (-i)) S := by
  unfold dNeg
  rw [Ok_bnd]
  congr
  funext d S
  cases d <;> simp
@[simp] theorem o_dic0 : Ok (dDic0 δ S) P = P (.cell S.length) (S ++ [.dic []]) := rfl
@[simp] theorem o_ixC {ys : List Str} : Ok (dIxC ys a δ S) P = Ok (a δ S) fun d S => ∃ z j, d = .str z ∧ ixStr ys z = some j ∧ P (.int (j : Nat)) S := by
  unfold dIxC
  rw [Ok_bnd]
  congr
  funext d S
  cases d with
  | str z => cases h : ixStr ys z <;> simp [h]
  | _ => simp
@[simp] theorem o_mth {f : D → List D → Sto → Res D} : Ok (dMth f a as δ S) P = Ok (a δ S) fun x S1 => isL S1 x = true ∧ Ok (as δ S1) fun xs S2 => Ok (f x xs S2) P := by
  unfold dMth
  rw [Ok_bnd]
  congr
  funext x S
  split <;> simp [*]
@[simp] theorem o_yes {P : Bool → Sto → Prop} : Ok (dYes δ S) P = P true S := rfl
@[simp] theorem o_srcT {P : Src → Sto → Prop} : Ok (srcT a δ S) P = Ok (a δ S) fun d S => isT d = true ∧ P (.seq d) S := by
  unfold srcT
  rw [Ok_bnd]
  congr
  funext d S
  split <;> simp [*]
@[simp] theorem o_srcL {P : Src → Sto → Prop} : Ok (srcL a δ S) P = Ok (a δ S) fun d S => isL S d = true ∧ P (.seq d) S := by
  unfold srcL
  rw [Ok_bnd]
  congr
  funext d S
  split <;> simp [*]
@[simp] theorem o_enT {P : Src → Sto → Prop} : Ok (enT as δ S) P = Ok (as δ S) fun ds S => ∃ d, ds = [d] ∧ isT d = true ∧ P (.en d) S := by
  unfold enT
  rw [Ok_bnd]
  congr
  funext d S
  rcases d with _ | ⟨d, _ | ⟨e, r⟩⟩
  · simp
  · simp only []
    split <;> simp [*]
  · simp
@[simp] theorem o_enL {P : Src → Sto → Prop} : Ok (enL as δ S) P = Ok (as δ S) fun ds S => ∃ d, ds = [d] ∧ isL S d = true ∧ P (.en d) S := by
  unfold enL
  rw [Ok_bnd]
  congr
  funext d S
  rcases d with _ | ⟨d, _ | ⟨e, r⟩⟩
  · simp
  · simp only []
    split <;> simp [*]
  · simp
@[simp] theorem o_rng1 {P : Src → Sto → Prop} : Ok (rng1 as δ S) P = Ok (as δ S) fun ds S => ∃ j, ds = [.int j] ∧ inRng j = true ∧ P (.rng 0 j) S := by
  unfold rng1
  rw [Ok_bnd]
  congr
  funext d S
  split
  · rename_i j
    split <;> simp [*]
  · rename_i h
    simp
    intro j e
    exact absurd e (h j)
@[simp] theorem o_rng2 {P : Src → Sto → Prop} : Ok (rng2 as δ S) P = Ok (as δ S) fun ds S => ∃ i j, ds = [.int i, .int j] ∧ inRng i = true ∧ inRng j = true ∧ P (.rng i j) S := by
  unfold rng2
  rw [Ok_bnd]
  congr
  funext d S
  apply propext
  constructor
  · intro h
    split at h
    · rename_i i j
      split at h
      · rename_i h2
        rw [Bool.and_eq_true] at h2
        exact ⟨i, j, rfl, h2.1, h2.2, h⟩
      · exact h.elim
    · exact h.elim
  · rintro ⟨i, j, rfl, h1, h2, h⟩
    simp only [h1, h2, Bool.and_self, if_true]
    exact h
/-! ### operators on known values -/
@[simp] theorem p_add {i j : Int} : opAdd (.int i) (.int j) S = .ok (.int (i + j)) S := rfl
@[simp] theorem p_addT {xs ys : List D} : opAdd (.tup xs) (.tup ys) S = mkTup (xs ++ ys) S := rfl
theorem p_addL {m n : Nat} {xs ys : List D} (h1 : S[m]? = some (.lst xs)) (h2 : S[n]? = some (.lst ys)) : opAdd (.cell m) (.cell n) S = mkLst (xs ++ ys) S := by
  unfold opAdd
  simp only [h1, h2]
@[simp] theorem p_sub {i j : Int} : opSub (.int i) (.int j) S = .ok (.int (i - j)) S := rfl
@[simp] theorem p_lt {i j : Int} : opLt (.int i) (.int j) S = .ok (.bl (decide (i < j))) S := rfl
@[simp] theorem p_le {i j : Int} : opLe (.int i) (.int j) S = .ok (.bl (decide (i ≤ j))) S := rfl
@[simp] theorem p_gt {i j : Int} : opGt (.int i) (.int j) S = .ok (.bl (decide (j < i))) S := rfl
@[simp] theorem p_ge {i j : Int} : opGe (.int i) (.int j) S = .ok (.bl (decide (j ≤ i))) S := rfl
@[simp] theorem p_isN {x : D} : opIsN false x .non S = .ok (.bl (isNon x)) S := rfl
@[simp] theorem p_notN {x : D} : opIsN true x .non S = .ok (.bl (!isNon x)) S := rfl
@[simp] theorem isNon_non : isNon .non = true := rfl
@[simp] theorem isNon_int {i : Int} : isNon (.int i) = false := rfl
@[simp] theorem isNon_str {i : Str} : isNon (.str i) = false := rfl
@[simp] theorem isNon_tup {i : List D} : isNon (.tup i) = false := rfl
@[simp] theorem p_eqI {i j : Int} : opEq (.int i) (.int j) S = .ok (.bl (decide (i = j))) S := rfl
@[simp] theorem p_neI {i j : Int} : opNe (.int i) (.int j) S = .ok (.bl (!decide (i = j))) S := rfl
@[simp] theorem p_eqS {i j : Str} : opEq (.str i) (.str j) S = .ok (.bl (decide (i = j))) S := rfl
@[simp] theorem p_neS {i j : Str} : opNe (.str i) (.str j) S = .ok (.bl (!decide (i = j))) S := rfl
theorem p_mod {i j : Int} (h : j ≠ 0) : opMod (.int i) (.int j) S = .ok (.int (i.fmod j)) S := by
  unfold opMod opI
  simp [h]
theorem p_fdiv {i j : Int} (h : j ≠ 0) (h2 : j.natAbs < 1073741824) : opFdiv (.int i) (.int j) S = .ok (.int (i.fdiv j)) S := by
  unfold opFdiv opI
  have h3 : decide (j ≠ 0 ∧ j.natAbs < N30) = true := decide_eq_true (by rw [N30_eq]; exact ⟨h, h2⟩)
  simp only [h3, if_true]
theorem p_mul {i j : Int} (h : (-(2 ^ 64) < i ∧ i < 2 ^ 64) ∨ (-(2 ^ 64) < j ∧ j < 2 ^ 64)) : opMul (.int i) (.int j) S = .ok (.int (i * j)) S := by
  unfold opMul
  have h3 : decide ((-M64 < i ∧ i < M64) ∨ (-M64 < j ∧ j < M64)) = true := decide_eq_true (by rw [M64_eq]; exact h)
  simp only [h3, if_true]
theorem p_pow {i j : Int} (h : 0 ≤ j ∧ j ≤ 1000000 ∧ i.natAbs < 2 ^ 64) : opPow (.int i) (.int j) S = .ok (.int (i ^ j.toNat)) S := by
  unfold opPow opI
  have h3 : decide (0 ≤ j ∧ j ≤ M6 ∧ i.natAbs < N64) = true := decide_eq_true (by rw [M6_eq, N64_eq]; exact h)
  simp only [h3, if_true]
/-- subscripts -/
theorem p_ix {x d : D} {xs : List D} {n : Nat} {i : Int} (h : items S x = some xs) (h2 : xs[n]? = some d) (hi : i = (n : Nat)) : opIx x (.int i) S = .ok d S := by
  subst hi
  unfold opIx
  have hn : n < xs.length := (List.getElem?_eq_some_iff.mp h2).1
  have e : atI xs (n : Int) = some d := by
    unfold atI ixN
    rw [if_pos (by omega), if_pos (by omega)]
    simpa using h2
  simp only [h, e]
@[simp] theorem p_ixT0 {a : D} {r : List D} : opIx (.tup (a :: r)) (.int 0) S = .ok a S := p_ix (n := 0) rfl rfl rfl
@[simp] theorem p_ixT1 {a b : D} {r : List D} : opIx (.tup (a :: b :: r)) (.int 1) S = .ok b S := p_ix (n := 1) rfl rfl rfl
@[simp] theorem p_ixT2 {a b c : D} {r : List D} : opIx (.tup (a :: b :: c :: r)) (.int 2) S = .ok c S := p_ix (n := 2) rfl rfl rfl
@[simp] theorem p_ixT3 {a b c d : D} {r : List D} : opIx (.tup (a :: b :: c :: d :: r)) (.int 3) S = .ok d S := p_ix (n := 3) rfl rfl rfl
theorem p_ixT {xs : List D} {d : D} {n : Nat} (h2 : xs[n]? = some d) : opIx (.tup xs) (.int (n : Nat)) S = .ok d S := p_ix rfl h2 rfl
theorem p_ixL {c : Nat} {xs : List D} {d : D} {n : Nat} (h : S[c]? = some (.lst xs)) (h2 : xs[n]? = some d) : opIx (.cell c) (.int (n : Nat)) S = .ok d S := p_ix (by simp only [items, h]) h2 rfl
theorem p_ixLast {c : Nat} {xs : List D} {d : D} (h : S[c]? = some (.lst (xs ++ [d]))) : opIx (.cell c) (.int (-1)) S = .ok d S := by
  unfold opIx
  have e : atI (xs ++ [d]) (-1) = some d := by
    unfold atI ixN
    rw [if_neg (by omega), if_pos (by simp; omega)]
    have e2 : (-1 + ((xs ++ [d]).length : Int)).toNat = xs.length := by simp; omega
    simp only [Option.bind_some, e2]
    simp
  simp only [items, h, e]
/-! ### built-ins on known values -/
@[simp] theorem b_lenT {xs : List D} : bLen [.tup xs] S = .ok (.int xs.length) S := rfl
theorem b_lenL {c : Nat} {xs : List D} (h : S[c]? = some (.lst xs)) : bLen [.cell c] S = .ok (.int xs.length) S := by
  unfold bLen
  simp only [items, h]
@[simp] theorem b_lenRo {xs : List D} : bLen [.ro xs] S = .ok (.int xs.length) S := rfl
@[simp] theorem b_tupT {xs : List D} : bTuple [.tup xs] S = .ok (.tup xs) S := rfl
theorem b_tupL {c : Nat} {xs : List D} (h : S[c]? = some (.lst xs)) : bTuple [.cell c] S = .ok (.tup xs) S := by
  unfold bTuple
  simp only [items, h]
@[simp] theorem b_lstT {xs : List D} : bList [.tup xs] S = .ok (.cell S.length) (S ++ [.lst xs]) := rfl
theorem b_lstL {c : Nat} {xs : List D} (h : S[c]? = some (.lst xs)) : bList [.cell c] S = .ok (.cell S.length) (S ++ [.lst xs]) := by
  unfold bList
  simp only [items, h]
@[simp] theorem b_intI {i : Int} : bInt [.int i] S = .ok (.int i) S := rfl
@[simp] theorem b_intB {k : Bool} : bInt [.bl k] S = .ok (.int (if k then 1 else 0)) S := rfl
@[simp] theorem b_absI {i : Int} : bAbs [.int i] S = .ok (.int (if i < 0 then -i else i)) S := rfl
@[simp] theorem b_max2 {i j : Int} : bMax [.int i, .int j] S = .ok (.int (if j > i then j else i)) S := rfl
theorem intsOf_map : ∀ l : List Int, intsOf (l.map D.int) = some l
  | [] => rfl
  | i :: l => by simp [intsOf, intsOf_map l]
theorem blsOf_map : ∀ l : List Bool, blsOf (l.map D.bl) = some l
  | [] => rfl
  | i :: l => by simp [blsOf, blsOf_map l]
theorem b_maxL {c : Nat} {n : Int} {l : List Int} (h : S[c]? = some (.lst ((n :: l).map D.int))) : bMax [.cell c] S = .ok (.int (maxI (n :: l))) S := by
  unfold bMax
  simp only [isL, items, h, if_true, Option.bind_some, intsOf_map]
theorem b_allL {c : Nat} {l : List Bool} (h : S[c]? = some (.lst (l.map D.bl))) : bAll [.cell c] S = .ok (.bl (l.all id)) S := by
  unfold bAll
  simp only [isL, items, h, if_true, Option.bind_some, blsOf_map]
@[simp] theorem isT_tup {xs : List D} : isT (.tup xs) = true := rfl
theorem isL_cell {c : Nat} {xs : List D} (h : S[c]? = some (.lst xs)) : isL S (.cell c) = true := by
  simp only [isL, h]
@[simp] theorem it_tup {xs : List D} : items S (.tup xs) = some xs := rfl
@[simp] theorem it_ro {xs : List D} : items S (.ro xs) = some xs := rfl
theorem it_cell {c : Nat} {xs : List D} (h : S[c]? = some (.lst xs)) : items S (.cell c) = some xs := by
  simp only [items, h]
theorem m_app {c : Nat} {xs : List D} {d : D} (h : S[c]? = some (.lst xs)) (hl : xs.length < lim) : mAppend (.cell c) [d] S = .ok .non (S.set c (.lst (xs ++ [d]))) := by
  unfold mAppend
  simp only [h, hl, if_true]
theorem m_pop {c : Nat} {xs : List D} {d : D} (h : S[c]? = some (.lst (xs ++ [d]))) : mPop (.cell c) [] S = .ok d (S.set c (.lst xs)) := by
  unfold mPop
  simp [h]
/-! ### isinstance -/
def isI : D → Bool
  | .int _ => true
  | _ => false
def isB : D → Bool
  | .bl _ => true
  | _ => false
theorem ty_cell (S : Sto) (n : Nat) : tyD S (.cell n) = "dict" ∨ tyD S (.cell n) = "list" := by
  cases h : S[n]? with
  | none => exact .inr (by simp only [tyD, h])
  | some c => cases c with
    | dic kvs => exact .inl (by simp only [tyD, h])
    | dik kvs => exact .inl (by simp only [tyD, h])
    | lst kvs => exact .inr (by simp only [tyD, h])
def isRg : D → Bool
  | .rng _ _ => true
  | _ => false
@[simp] theorem isRg_non : isRg .non = false := rfl
@[simp] theorem isRg_bl {b : Bool} : isRg (.bl b) = false := rfl
@[simp] theorem isRg_int {b : Int} : isRg (.int b) = false := rfl
@[simp] theorem isRg_str {b : Str} : isRg (.str b) = false := rfl
@[simp] theorem isRg_tup {b : List D} : isRg (.tup b) = false := rfl
@[simp] theorem isRg_ro {b : List D} : isRg (.ro b) = false := rfl
@[simp] theorem isRg_cell {b : Nat} : isRg (.cell b) = false := rfl
theorem k_int {d : D} (hd : isRg d = false) : kitB (tyD S d) "int" = some (isI d || isB d) := by
  cases d with
  | cell n => rcases ty_cell S n with e | e <;> rw [e] <;> rfl
  | rng => cases hd
  | _ => rfl
theorem k_int_rg {d : D} (hd : isRg d = true) : kitB (tyD S d) "int" = none := by
  cases d with
  | rng => exact kitB_none (by decide)
  | _ => cases hd
theorem k_bool {d : D} (hd : isRg d = false) : kitB (tyD S d) "bool" = some (isB d) := by
  cases d with
  | cell n => rcases ty_cell S n with e | e <;> rw [e] <;> rfl
  | rng => cases hd
  | _ => rfl
theorem k_bool_rg {d : D} (hd : isRg d = true) : kitB (tyD S d) "bool" = none := by
  cases d with
  | rng => exact kitB_none (by decide)
  | _ => cases hd
theorem k_tuple {d : D} (hd : isRg d = false) : kitB (tyD S d) "tuple" = some (isT d) := by
  cases d with
  | cell n => rcases ty_cell S n with e | e <;> rw [e] <;> rfl
  | rng => cases hd
  | _ => rfl
theorem k_tuple_rg {d : D} (hd : isRg d = true) : kitB (tyD S d) "tuple" = none := by
  cases d with
  | rng => exact kitB_none (by decide)
  | _ => cases hd
@[simp] theorem o_isiI : Ok (dIsI "int" a δ S) P = Ok (a δ S) fun d S => isRg d = false ∧ P (.bl (isI d || isB d)) S := by
  unfold dIsI
  rw [Ok_bnd]
  congr
  funext d S
  cases hd : isRg d with
  | false =>
    rw [k_int hd]
    simp
  | true =>
    rw [k_int_rg hd]
    simp
@[simp] theorem o_isiB : Ok (dIsI "bool" a δ S) P = Ok (a δ S) fun d S => isRg d = false ∧ P (.bl (isB d)) S := by
  unfold dIsI
  rw [Ok_bnd]
  congr
  funext d S
  cases hd : isRg d with
  | false =>
    rw [k_bool hd]
    simp
  | true =>
    rw [k_bool_rg hd]
    simp
@[simp] theorem o_isiT : Ok (dIsI "tuple" a δ S) P = Ok (a δ S) fun d S => isRg d = false ∧ P (.bl (isT d)) S := by
  unfold dIsI
  rw [Ok_bnd]
  congr
  funext d S
  cases hd : isRg d with
  | false =>
    rw [k_tuple hd]
    simp
  | true =>
    rw [k_tuple_rg hd]
    simp
end
/-! ### what stays -/
/-- all cells but those of K stay -/
structure Kp (K : List Nat) (S S' : Sto) : Prop where
  le : S.length ≤ S'.length
  get : ∀ n c, n ∉ K → S[n]? = some c → S'[n]? = some c
theorem Kp.refl (K : List Nat) (S : Sto) : Kp K S S := ⟨Nat.le_refl _, fun _ _ _ h => h⟩
theorem Kp.trans {K : List Nat} {S S1 S2 : Sto} (a : Kp K S S1) (b : Kp K S1 S2) : Kp K S S2 := ⟨Nat.le_trans a.le b.le, fun n c hn h => b.get n c hn (a.get n c hn h)⟩
theorem Kp.of {K : List Nat} {S S1 : Sto} (a : Kp [] S S1) : Kp K S S1 := ⟨a.le, fun n c _ h => a.get n c (by simp) h⟩
theorem Kp.app (K : List Nat) (S T : Sto) : Kp K S (S ++ T) := ⟨by simp, fun n c _ h => by
  rw [List.getElem?_append_left (List.getElem?_eq_some_iff.mp h).1]
  exact h⟩
theorem Kp.push {K : List Nat} {S S1 : Sto} (a : Kp K S S1) (T : Sto) : Kp K S (S1 ++ T) := a.trans (Kp.app K S1 T)
/-- a fresh cell, one of K, is changed -/
theorem Kp.set {K : List Nat} {S S1 : Sto} (a : Kp K S S1) {n : Nat} (hn : S.length ≤ n ∨ n ∈ K) (c : C) : Kp K S (S1.set n c) := ⟨by simpa using a.le, fun m c' hm h => by
  have hl := (List.getElem?_eq_some_iff.mp h).1
  have hne : n ≠ m := by
    rcases hn with hn | hn
    · omega
    · exact fun z => hm (z ▸ hn)
  rw [List.getElem?_set_ne hne]
  exact a.get m c' hm h⟩
theorem get_push (S : Sto) (c : C) : (S ++ [c])[S.length]? = some c := by simp
theorem get_set {S : Sto} {n : Nat} {c c' : C} (h : S[n]? = some c) : (S.set n c')[n]? = some c' := List.getElem?_set_self (List.getElem?_eq_some_iff.mp h).1
theorem lt_of_get {S : Sto} {n : Nat} {c : C} (h : S[n]? = some c) : n < S.length := (List.getElem?_eq_some_iff.mp h).1
/-! ### loops -/
section
variable {δ : En} {S : Sto} {Q : Po} {src : DSrc} {g : Tg} {body : DS}
theorem okl {s : Src} {N : Nat} {item : Nat → D} (I : Nat → En → Sto → Prop) (hlen : ∀ i δ S, I i δ S → s.len S = some N) (hit : ∀ i δ S, i < N → I i δ S → s.item S i = some (item i))
    (step : ∀ i δ S, i < N → I i δ S → ∃ δ', g.set (item i) δ = some δ' ∧ OkS (body δ' S) ⟨I (i + 1), Q.rt, Q.nx, I (i + 1)⟩) (done : ∀ δ S, I N δ S → Q.nx δ S) :
    ∀ (f i : Nat) (δ : En) (S : Sto), N ≤ i + f → i ≤ N → I i δ S → OkS (dLoop g body s f i δ S) Q
  | 0, i, δ, S, h1, h2, h => by
    have e : i = N := by omega
    subst e
    unfold dLoop
    simp only [hlen _ _ _ h, Nat.le_refl, if_true]
    exact done δ S h
  | f + 1, i, δ, S, h1, h2, h => by
    unfold dLoop
    simp only [hlen _ _ _ h]
    by_cases hi : N ≤ i
    · have e : i = N := by omega
      subst e
      simp only [Nat.le_refl, if_true]
      exact done δ S h
    · simp only [hi, if_false]
      have hlt : i < N := by omega
      obtain ⟨δ', h3, h4⟩ := step i δ S hlt h
      simp only [hit i δ S hlt h, h3]
      have ih := okl I hlen hit step done f (i + 1)
      cases q : body δ' S with
      | nx δ1 S1 =>
        rw [q] at h4
        exact ih δ1 S1 (by omega) hlt h4
      | ct δ1 S1 =>
        rw [q] at h4
        exact ih δ1 S1 (by omega) hlt h4
      | bk δ1 S1 =>
        rw [q] at h4
        exact h4
      | rt d S1 =>
        rw [q] at h4
        exact h4
      | exc c S1 =>
        rw [q] at h4
        exact h4.elim
      | bad =>
        rw [q] at h4
        exact h4.elim
theorem ok_for {s0 : Src} {N : Nat} {item : Nat → D} (I : Nat → En → Sto → Prop) (hs : Ok (src δ S) fun s S1 => s = s0 ∧ I 0 δ S1) (hlen : ∀ i δ S, I i δ S → s0.len S = some N) (hit : ∀ i δ S, i < N → I i δ S → s0.item S i = some (item i))
    (step : ∀ i δ S, i < N → I i δ S → ∃ δ', g.set (item i) δ = some δ' ∧ OkS (body δ' S) ⟨I (i + 1), Q.rt, Q.nx, I (i + 1)⟩) (done : ∀ δ S, I N δ S → Q.nx δ S) : OkS (dFor src g body δ S) Q := by
  unfold dFor
  rw [OkS_then]
  refine Ok.imp hs fun s S1 ⟨e, h⟩ => ?_
  subst e
  simp only [hlen _ _ _ h]
  exact okl I hlen hit step done N 0 δ S1 (by omega) (by omega) h
/-- over a tuple's items -/
theorem ok_forT {xs : List D} (I : Nat → En → Sto → Prop) {a : DE} (hs : Ok (a δ S) fun d S1 => d = .tup xs ∧ I 0 δ S1)
    (step : ∀ i δ S x, xs[i]? = some x → I i δ S → ∃ δ', g.set x δ = some δ' ∧ OkS (body δ' S) ⟨I (i + 1), Q.rt, Q.nx, I (i + 1)⟩) (done : ∀ δ S, I xs.length δ S → Q.nx δ S) : OkS (dFor (srcT a) g body δ S) Q := by
  refine ok_for (s0 := .seq (.tup xs)) (N := xs.length) (item := fun i => xs[i]?.getD .non) I ?_ (fun _ _ _ _ => rfl) (fun i δ S hi _ => ?_) (fun i δ S hi h => ?_) done
  · rw [o_srcT]
    refine Ok.imp hs fun d S1 ⟨e, h⟩ => ?_
    subst e
    exact ⟨rfl, rfl, h⟩
  · simp [Src.item, hi]
  · have e : xs[i]? = some xs[i] := List.getElem?_eq_getElem hi
    have := step i δ S xs[i] e h
    simpa [e] using this
theorem ok_forET {xs : List D} (I : Nat → En → Sto → Prop) {a : DA} (hs : Ok (a δ S) fun d S1 => d = [.tup xs] ∧ I 0 δ S1)
    (step : ∀ i δ S x, xs[i]? = some x → I i δ S → ∃ δ', g.set (.tup [.int i, x]) δ = some δ' ∧ OkS (body δ' S) ⟨I (i + 1), Q.rt, Q.nx, I (i + 1)⟩) (done : ∀ δ S, I xs.length δ S → Q.nx δ S) : OkS (dFor (enT a) g body δ S) Q := by
  refine ok_for (s0 := .en (.tup xs)) (N := xs.length) (item := fun i => .tup [.int i, xs[i]?.getD .non]) I ?_ (fun _ _ _ _ => rfl) (fun i δ S hi _ => ?_) (fun i δ S hi h => ?_) done
  · rw [o_enT]
    refine Ok.imp hs fun d S1 ⟨e, h⟩ => ?_
    subst e
    exact ⟨_, rfl, rfl, rfl, h⟩
  · simp [Src.item, hi]
  · have e : xs[i]? = some xs[i] := List.getElem?_eq_getElem hi
    have := step i δ S xs[i] e h
    simpa [e] using this
/-- over a list's items, the list at c stays -/
theorem ok_forL {xs : List D} {c : Nat} (I : Nat → En → Sto → Prop) {a : DE} (hs : Ok (a δ S) fun d S1 => d = .cell c ∧ I 0 δ S1) (hc : ∀ i δ S, I i δ S → S[c]? = some (.lst xs))
    (step : ∀ i δ S x, xs[i]? = some x → I i δ S → ∃ δ', g.set x δ = some δ' ∧ OkS (body δ' S) ⟨I (i + 1), Q.rt, Q.nx, I (i + 1)⟩) (done : ∀ δ S, I xs.length δ S → Q.nx δ S) : OkS (dFor (srcL a) g body δ S) Q := by
  refine ok_for (s0 := .seq (.cell c)) (N := xs.length) (item := fun i => xs[i]?.getD .non) I ?_ (fun i δ S h => ?_) (fun i δ S hi h => ?_) (fun i δ S hi h => ?_) done
  · rw [o_srcL]
    refine Ok.imp hs fun d S1 ⟨e, h⟩ => ?_
    subst e
    exact ⟨isL_cell (hc _ _ _ h), rfl, h⟩
  · simp [Src.len, it_cell (hc _ _ _ h)]
  · simp [Src.item, it_cell (hc _ _ _ h), hi]
  · have e : xs[i]? = some xs[i] := List.getElem?_eq_getElem hi
    have := step i δ S xs[i] e h
    simpa [e] using this
theorem ok_forEL {xs : List D} {c : Nat} (I : Nat → En → Sto → Prop) {a : DA} (hs : Ok (a δ S) fun d S1 => d = [.cell c] ∧ I 0 δ S1) (hc : ∀ i δ S, I i δ S → S[c]? = some (.lst xs))
    (step : ∀ i δ S x, xs[i]? = some x → I i δ S → ∃ δ', g.set (.tup [.int i, x]) δ = some δ' ∧ OkS (body δ' S) ⟨I (i + 1), Q.rt, Q.nx, I (i + 1)⟩) (done : ∀ δ S, I xs.length δ S → Q.nx δ S) : OkS (dFor (enL a) g body δ S) Q := by
  refine ok_for (s0 := .en (.cell c)) (N := xs.length) (item := fun i => .tup [.int i, xs[i]?.getD .non]) I ?_ (fun i δ S h => ?_) (fun i δ S hi h => ?_) (fun i δ S hi h => ?_) done
  · rw [o_enL]
    refine Ok.imp hs fun d S1 ⟨e, h⟩ => ?_
    subst e
    exact ⟨_, rfl, isL_cell (hc _ _ _ h), rfl, h⟩
  · simp [Src.len, it_cell (hc _ _ _ h)]
  · simp [Src.item, it_cell (hc _ _ _ h), hi]
  · have e : xs[i]? = some xs[i] := List.getElem?_eq_getElem hi
    have := step i δ S xs[i] e h
    simpa [e] using this
/-- over range(n) -/
theorem inRng_of {i : Int} (h1 : -1000000 ≤ i) (h2 : i ≤ 1000000) : inRng i = true := by
  unfold inRng
  rw [decide_eq_true_eq, M62_eq]
  omega
theorem ok_forR {n : Nat} (hn : n ≤ 1000000) (I : Nat → En → Sto → Prop) {a : DA} (hs : Ok (a δ S) fun d S1 => d = [.int (n : Nat)] ∧ I 0 δ S1)
    (step : ∀ i δ S, i < n → I i δ S → ∃ δ', g.set (.int (i : Nat)) δ = some δ' ∧ OkS (body δ' S) ⟨I (i + 1), Q.rt, Q.nx, I (i + 1)⟩) (done : ∀ δ S, I n δ S → Q.nx δ S) : OkS (dFor (rng1 a) g body δ S) Q := by
  refine ok_for (s0 := .rng 0 (n : Nat)) (N := n) (item := fun i => .int (i : Nat)) I ?_ (fun i δ S h => ?_) (fun i δ S hi h => ?_) (fun i δ S hi h => step i δ S hi h) done
  · rw [o_rng1]
    refine Ok.imp hs fun d S1 ⟨e, h⟩ => ?_
    subst e
    exact ⟨_, rfl, inRng_of (by omega) (by omega), rfl, h⟩
  · simp [Src.len]
  · simp [Src.item, hi]
end
/-! ### comprehensions -/
section
variable {δ : En} {S : Sto} {P : D → Sto → Prop} {src : DSrc} {g : Tg} {t : DT} {elt : DE} {own : List Nat}
theorem Ok_nox {α : Type} {r : Res α} {P : α → Sto → Prop} : Ok (nox r) P = Ok r P := by cases r <;> rfl
theorem okc {s : Src} {N c : Nat} {item : Nat → D} {δ0 : En} (J : Nat → Sto → List D → Prop) (hlen : ∀ i S acc, J i S acc → s.len S = some N) (hit : ∀ i S acc, i < N → J i S acc → s.item S i = some (item i))
    (step : ∀ i S acc, i < N → J i S acc → ∃ δ', g.set (item i) δ0 = some δ' ∧ Ok (t δ' S) fun b S2 => if b = true then Ok (elt δ' S2) fun y S3 => S3[c]? = some (.lst acc) ∧ acc.length < lim ∧ J (i + 1) (S3.set c (.lst (acc ++ [y]))) (acc ++ [y]) else J (i + 1) S2 acc)
    (done : ∀ S acc, J N S acc → P (.cell c) S) : ∀ (f i : Nat) (S : Sto) (acc : List D), N ≤ i + f → i ≤ N → J i S acc → Ok (dLcGo g t elt s c δ0 f i S) P
  | 0, i, S, acc, h1, h2, h => by
    have e : i = N := by omega
    subst e
    unfold dLcGo
    simp only [hlen _ _ _ h, Nat.le_refl, if_true]
    exact done S acc h
  | f + 1, i, S, acc, h1, h2, h => by
    unfold dLcGo
    simp only [hlen _ _ _ h]
    by_cases hi : N ≤ i
    · have e : i = N := by omega
      subst e
      simp only [Nat.le_refl, if_true]
      exact done S acc h
    · simp only [hi, if_false]
      have hlt : i < N := by omega
      obtain ⟨δ', h3, h4⟩ := step i S acc hlt h
      simp only [hit i S acc hlt h, h3]
      have ih := okc J hlen hit step done f (i + 1)
      rw [Ok_bnd, Ok_nox]
      refine Ok.imp h4 fun b S2 h5 => ?_
      cases b with
      | false => exact ih S2 acc (by omega) hlt h5
      | true =>
        simp only [if_true] at h5 ⊢
        rw [Ok_bnd, Ok_nox]
        refine Ok.imp h5 fun y S3 ⟨h6, h7, h8⟩ => ?_
        have e : lcPut c y S3 = some (S3.set c (.lst (acc ++ [y]))) := by
          unfold lcPut
          simp only [h6, h7, if_true]
        simp only [e]
        exact ih _ _ (by omega) hlt h8
theorem ok_lc {s0 : Src} {N c : Nat} {item : Nat → D} (J : Nat → Sto → List D → Prop) (hs : Ok (src δ S) fun s S1 => s = s0 ∧ c = S1.length ∧ J 0 (S1 ++ [.lst []]) []) (hlen : ∀ i S acc, J i S acc → s0.len S = some N)
    (hit : ∀ i S acc, i < N → J i S acc → s0.item S i = some (item i))
    (step : ∀ i S acc, i < N → J i S acc → ∃ δ', g.set (item i) (wipeD δ own) = some δ' ∧ Ok (t δ' S) fun b S2 => if b = true then Ok (elt δ' S2) fun y S3 => S3[c]? = some (.lst acc) ∧ acc.length < lim ∧ J (i + 1) (S3.set c (.lst (acc ++ [y]))) (acc ++ [y]) else J (i + 1) S2 acc)
    (done : ∀ S acc, J N S acc → P (.cell c) S) : Ok (dLc src g t elt own δ S) P := by
  unfold dLc
  rw [Ok_bnd]
  refine Ok.imp hs fun s S1 ⟨e1, e2, h⟩ => ?_
  subst e1 e2
  simp only [hlen _ _ _ h]
  exact okc J hlen hit step done N 0 _ [] (by omega) (by omega) h
/-- WHAT CHANGES NO CELL: the list of F over the items -/
theorem ok_lcP {s0 : Src} {xs : List D} (F : D → Option D) (hs : Ok (src δ S) fun s S1 => s = s0 ∧ Kp [] S S1) (hlen : ∀ S', Kp [] S S' → s0.len S' = some xs.length)
    (hit : ∀ S' i, Kp [] S S' → i < xs.length → s0.item S' i = xs[i]?) (hl : xs.length ≤ lim)
    (step : ∀ x ∈ xs, ∀ S', Kp [] S S' → ∃ δ', g.set x (wipeD δ own) = some δ' ∧ Ok (t δ' S') fun b S2 => Kp [] S' S2 ∧ if b = true then Ok (elt δ' S2) fun y S3 => Kp [] S' S3 ∧ F x = some y else F x = none)
    (done : ∀ S' c, Kp [] S S' → S.length ≤ c → S'[c]? = some (.lst (xs.filterMap F)) → P (.cell c) S') : Ok (dLc src g t elt own δ S) P := by
  obtain ⟨s, S1, hsrc, e, k0⟩ := hs.ex
  subst e
  have fm : ∀ i (h : i < xs.length), (xs.take (i + 1)).filterMap F = (xs.take i).filterMap F ++ (F xs[i]).toList := fun i h => by
    rw [List.take_succ, List.filterMap_append, List.getElem?_eq_getElem h]
    simp [List.filterMap_cons]
    cases F xs[i] <;> rfl
  refine ok_lc (s0 := s) (N := xs.length) (c := S1.length) (item := fun i => xs[i]?.getD .non) (fun i S' acc => Kp [] S S' ∧ S'[S1.length]? = some (.lst acc) ∧ acc = (xs.take i).filterMap F) ?_ (fun i S' acc h => hlen S' h.1) (fun i S' acc hi h => ?_) (fun i S' acc hi ⟨k, hc, ha⟩ => ?_) (fun S' acc ⟨k, hc, ha⟩ => ?_)
  · rw [hsrc]
    exact ⟨rfl, rfl, k0.push _, get_push _ _, rfl⟩
  · rw [hit S' i h.1 hi]
    simp [hi]
  · have e : xs[i]? = some xs[i] := List.getElem?_eq_getElem hi
    obtain ⟨δ', h1, h2⟩ := step xs[i] (List.getElem_mem hi) S' k
    refine ⟨δ', by simpa [e] using h1, Ok.imp h2 fun b S2 ⟨k2, h3⟩ => ?_⟩
    cases b with
    | false =>
      have h3' : F xs[i] = none := by simpa using h3
      refine ⟨k.trans k2, k2.get _ _ (by simp) hc, ?_⟩
      rw [fm i hi, h3', ha]
      simp
    | true =>
      simp only [if_true] at h3 ⊢
      refine Ok.imp h3 fun y S3 ⟨k3, h4⟩ => ?_
      refine ⟨k3.get _ _ (by simp) hc, ?_, (k.trans k3).set (.inl k0.le) _, get_set (k3.get _ _ (by simp) hc), ?_⟩
      · rw [ha]
        have a1 := List.length_filterMap_le F (xs.take i)
        have a2 : (xs.take i).length < xs.length := by
          rw [List.length_take]
          omega
        omega
      · rw [fm i hi, h4, ha]
        rfl
  · refine done S' _ k k0.le ?_
    rw [hc, ha, List.take_length]
theorem ok_lcT {xs : List D} {a : DE} (F : D → Option D) (hs : Ok (a δ S) fun d S1 => d = .tup xs ∧ Kp [] S S1) (hl : xs.length ≤ lim)
    (step : ∀ x ∈ xs, ∀ S', Kp [] S S' → ∃ δ', g.set x (wipeD δ own) = some δ' ∧ Ok (t δ' S') fun b S2 => Kp [] S' S2 ∧ if b = true then Ok (elt δ' S2) fun y S3 => Kp [] S' S3 ∧ F x = some y else F x = none)
    (done : ∀ S' c, Kp [] S S' → S.length ≤ c → S'[c]? = some (.lst (xs.filterMap F)) → P (.cell c) S') : Ok (dLc (srcT a) g t elt own δ S) P := by
  refine ok_lcP (s0 := .seq (.tup xs)) F ?_ (fun _ _ => rfl) (fun S' i k hi => ?_) hl step done
  · rw [o_srcT]
    refine Ok.imp hs fun d S1 ⟨e, h⟩ => ?_
    subst e
    exact ⟨rfl, rfl, h⟩
  · simp [Src.item]
theorem ok_lcL {xs : List D} {c0 : Nat} {a : DE} (F : D → Option D) (hs : Ok (a δ S) fun d S1 => d = .cell c0 ∧ Kp [] S S1) (hc : S[c0]? = some (.lst xs)) (hl : xs.length ≤ lim)
    (step : ∀ x ∈ xs, ∀ S', Kp [] S S' → ∃ δ', g.set x (wipeD δ own) = some δ' ∧ Ok (t δ' S') fun b S2 => Kp [] S' S2 ∧ if b = true then Ok (elt δ' S2) fun y S3 => Kp [] S' S3 ∧ F x = some y else F x = none)
    (done : ∀ S' c, Kp [] S S' → S.length ≤ c → S'[c]? = some (.lst (xs.filterMap F)) → P (.cell c) S') : Ok (dLc (srcL a) g t elt own δ S) P := by
  refine ok_lcP (s0 := .seq (.cell c0)) F ?_ (fun S' k => ?_) (fun S' i k hi => ?_) hl step done
  · rw [o_srcL]
    refine Ok.imp hs fun d S1 ⟨e, h⟩ => ?_
    subst e
    exact ⟨isL_cell (h.get _ _ (by simp) hc), rfl, h⟩
  · simp [Src.len, it_cell (k.get _ _ (by simp) hc)]
  · simp [Src.item, it_cell (k.get _ _ (by simp) hc)]
theorem ok_lcR {n : Nat} {a : DA} (F : D → Option D) (hn : n ≤ 100000) (hs : Ok (a δ S) fun d S1 => d = [.int (n : Nat)] ∧ Kp [] S S1)
    (step : ∀ i, i < n → ∀ S', Kp [] S S' → ∃ δ', g.set (.int (i : Nat)) (wipeD δ own) = some δ' ∧ Ok (t δ' S') fun b S2 => Kp [] S' S2 ∧ if b = true then Ok (elt δ' S2) fun y S3 => Kp [] S' S3 ∧ F (.int (i : Nat)) = some y else F (.int (i : Nat)) = none)
    (done : ∀ S' c, Kp [] S S' → S.length ≤ c → S'[c]? = some (.lst (((List.range n).map fun i => D.int (i : Nat)).filterMap F)) → P (.cell c) S') : Ok (dLc (rng1 a) g t elt own δ S) P := by
  refine ok_lcP (s0 := .rng 0 (n : Nat)) (xs := (List.range n).map fun i => D.int (i : Nat)) F ?_ (fun S' k => ?_) (fun S' i k hi => ?_) ?_ (fun x hx S' k => ?_) done
  · rw [o_rng1]
    refine Ok.imp hs fun d S1 ⟨e, h⟩ => ?_
    subst e
    exact ⟨_, rfl, inRng_of (by omega) (by omega), rfl, h⟩
  · simp [Src.len]
  · simp at hi
    simp [Src.item, hi]
  · simpa [lim_eq] using hn
  · obtain ⟨i, hi, rfl⟩ := List.mem_map.mp hx
    exact step i (List.mem_range.mp hi) S' k
theorem ok_lcET {xs : List D} {a : DA} (F : D → Option D) (hs : Ok (a δ S) fun d S1 => d = [.tup xs] ∧ Kp [] S S1) (hl : xs.length ≤ lim)
    (step : ∀ i x, xs[i]? = some x → ∀ S', Kp [] S S' → ∃ δ', g.set (.tup [.int (i : Nat), x]) (wipeD δ own) = some δ' ∧ Ok (t δ' S') fun b S2 => Kp [] S' S2 ∧ if b = true then Ok (elt δ' S2) fun y S3 => Kp [] S' S3 ∧ F (.tup [.int (i : Nat), x]) = some y else F (.tup [.int (i : Nat), x]) = none)
    (done : ∀ S' c, Kp [] S S' → S.length ≤ c → S'[c]? = some (.lst ((xs.mapIdx fun i x => D.tup [.int (i : Nat), x]).filterMap F)) → P (.cell c) S') : Ok (dLc (enT a) g t elt own δ S) P := by
  refine ok_lcP (s0 := .en (.tup xs)) (xs := xs.mapIdx fun i x => D.tup [.int (i : Nat), x]) F ?_ (fun S' k => ?_) (fun S' i k hi => ?_) ?_ (fun x hx S' k => ?_) done
  · rw [o_enT]
    refine Ok.imp hs fun d S1 ⟨e, h⟩ => ?_
    subst e
    exact ⟨_, rfl, rfl, rfl, h⟩
  · simp [Src.len]
  · simp [Src.item]
  · simpa using hl
  · obtain ⟨i, hi, rfl⟩ := List.mem_mapIdx.mp hx
    exact step i _ (List.getElem?_eq_getElem hi) S' k
end
end Dn
set_option Elab.async false
set_option linter.all false
set_option maxRecDepth 100000
set_option maxHeartbeats 1000000
/-! Lk1: values that can be read as data: ==, repr. -/
noncomputable section
namespace Dn
open PySem L2
/-- d reads as data now and later -/
def Rd (K : List Nat) (k w : Nat) (S : Sto) (d : D) : Prop := ∃ p : PyData, (∀ S', Kp K S S' → ∀ m, k < m → toPy m S' d = some p) ∧ p.canLay0 = true ∧ p.showable = true ∧ p.depth ≤ k ∧ p.weight ≤ w
section
variable {K : List Nat} {S S' : Sto} {k w : Nat}
theorem Rd.mono {d : D} (h : Rd K k w S d) (kp : Kp K S S') : Rd K k w S' d := by
  obtain ⟨p, h1, h2⟩ := h
  exact ⟨p, fun S2 k2 => h1 S2 (kp.trans k2), h2⟩
theorem Rd.rg {d : D} (h : Rd K k w S d) : isRg d = false := by
  obtain ⟨p, h1, _⟩ := h
  have e := h1 S (Kp.refl K S) (k + 1) (Nat.lt_succ_self k)
  cases d with
  | rng i j => exact absurd e (by simp [toPy])
  | _ => rfl
theorem Rd.le {d : D} {k' w' : Nat} (h : Rd K k w S d) (hk : k ≤ k') (hw : w ≤ w') : Rd K k' w' S d := by
  obtain ⟨p, h1, h2, h3, h4, h5⟩ := h
  exact ⟨p, fun S2 k2 m hm => h1 S2 k2 m (by omega), h2, h3, by omega, by omega⟩
theorem Rd.nil {d : D} (h : Rd K k w S d) : Rd [] k w S d := by
  obtain ⟨p, h1, h2⟩ := h
  exact ⟨p, fun S2 k2 => h1 S2 k2.of, h2⟩
theorem rd_non : Rd K k w S .non := ⟨.none, fun S2 _ m hm => by obtain ⟨m, rfl⟩ : ∃ j, m = j + 1 := ⟨m - 1, by omega⟩; rfl, rfl, rfl, Nat.zero_le _, Nat.zero_le _⟩
theorem rd_bl {b : Bool} : Rd K k w S (.bl b) := ⟨.bool b, fun S2 _ m hm => by obtain ⟨m, rfl⟩ : ∃ j, m = j + 1 := ⟨m - 1, by omega⟩; rfl, rfl, rfl, Nat.zero_le _, Nat.zero_le _⟩
theorem log2_le_of_lt {n b : Nat} (h : n < 2 ^ (b + 1)) : n.log2 ≤ b := by
  by_cases h0 : n = 0
  · subst h0
    simp
  · have := (Nat.log2_lt h0).mpr h
    omega
theorem rd_int {i : Int} {b : Nat} (h : i.natAbs < 2 ^ (b + 1)) (hb : b < 1920) (hw : b + 1 ≤ w) : Rd K k w S (.int i) := by
  have hl := log2_le_of_lt h
  refine ⟨.int i, fun S2 _ m hm => by obtain ⟨m, rfl⟩ : ∃ j, m = j + 1 := ⟨m - 1, by omega⟩; rfl, rfl, ?_, Nat.zero_le _, ?_⟩
  · simp only [PyData.showable, decide_eq_true_eq]
    omega
  · simp only [PyData.weight]
    split <;> omega
theorem rd_str {x : Str} (h : PyData.strOk x = true) (hw : x.cps.size ≤ w) : Rd K k w S (.str x) := by
  refine ⟨.str x, fun S2 _ m hm => by obtain ⟨m, rfl⟩ : ∃ j, m = j + 1 := ⟨m - 1, by omega⟩; rfl, ?_, rfl, Nat.zero_le _, hw⟩
  simpa only [PyData.canLay0] using h
theorem rd_all : ∀ {xs : List D}, (∀ x ∈ xs, Rd K k w S x) → ∃ ps : List PyData, (∀ S', Kp K S S' → ∀ m, k < m → allPy (toPy m S') xs = some ps) ∧ PyData.canLayAll0 ps = true ∧ PyData.showableAll ps = true ∧ PyData.depthAll ps ≤ k ∧ PyData.weightAll ps ≤ xs.length * (w + 1) ∧ ps.length = xs.length
  | [], _ => ⟨[], fun _ _ _ _ => rfl, rfl, rfl, Nat.zero_le _, Nat.zero_le _, rfl⟩
  | x :: xs, h => by
    obtain ⟨p, h1, h2, h3, h4, h5⟩ := h x List.mem_cons_self
    obtain ⟨ps, g1, g2, g3, g4, g5, g6⟩ := rd_all (xs := xs) fun y hy => h y (List.mem_cons_of_mem _ hy)
    refine ⟨p :: ps, fun S2 k2 m hm => ?_, ?_, ?_, ?_, ?_, by simp [g6]⟩
    · unfold allPy
      rw [h1 S2 k2 m hm, g1 S2 k2 m hm]
    · simp only [PyData.canLayAll0, h2, g2, Bool.and_self]
    · simp only [PyData.showableAll, h3, g3, Bool.and_self]
    · simp only [PyData.depthAll]
      omega
    · simp only [PyData.weightAll, List.length_cons, Nat.add_mul]
      omega
theorem rd_tup {xs : List D} (h : ∀ x ∈ xs, Rd K k w S x) {k' w' : Nat} (hk : k + 1 ≤ k') (hw : xs.length * (w + 1) ≤ w') : Rd K k' w' S (.tup xs) := by
  obtain ⟨ps, g1, g2, g3, g4, g5, g6⟩ := rd_all h
  refine Rd.le ⟨.tuple ps, fun S2 k2 m hm => ?_, ?_, ?_, ?_, ?_⟩ hk hw
  · obtain ⟨m, rfl⟩ : ∃ j, m = j + 1 := ⟨m - 1, by omega⟩
    show (allPy (toPy m S2) xs).map PyData.tuple = _
    rw [g1 S2 k2 m (by omega)]
    rfl
  · simpa only [PyData.canLay0] using g2
  · simpa only [PyData.showable] using g3
  · simp only [PyData.depth]
    omega
  · simpa only [PyData.weight] using g5
theorem rd_cell {c : Nat} {xs : List D} (hc : S[c]? = some (.lst xs)) (hn : c ∉ K) (h : ∀ x ∈ xs, Rd K k w S x) {k' w' : Nat} (hk : k + 1 ≤ k') (hw : xs.length * (w + 1) ≤ w') : Rd K k' w' S (.cell c) := by
  obtain ⟨ps, g1, g2, g3, g4, g5, g6⟩ := rd_all h
  refine Rd.le ⟨.list ps, fun S2 k2 m hm => ?_, ?_, ?_, ?_, ?_⟩ hk hw
  · obtain ⟨m, rfl⟩ : ∃ j, m = j + 1 := ⟨m - 1, by omega⟩
    unfold toPy
    simp only [k2.get _ _ hn hc, g1 S2 k2 m (by omega)]
    rfl
  · simpa only [PyData.canLay0] using g2
  · simpa only [PyData.showable] using g3
  · simp only [PyData.depth]
    omega
  · simpa only [PyData.weight] using g5
/-! ### == of lists with the empty one -/
theorem eqP_nil {neg : Bool} {c c2 : Nat} {xs : List D} (hc : S[c]? = some (.lst xs)) (h : ∀ x ∈ xs, Rd [] k w S x) (hk : k ≤ 50) (hc2 : S[c2]? = some (.lst [])) : opEqG neg (.cell c) (.cell c2) S = .ok (.bl (if neg then !xs.isEmpty else xs.isEmpty)) S := by
  obtain ⟨ps, g1, g2, g3, g4, g5, g6⟩ := rd_all h
  have e1 : toPy 60 S (.cell c) = some (.list ps) := by
    unfold toPy
    simp only [hc, g1 S (Kp.refl _ _) 59 (by omega)]
    rfl
  have e2 : toPy 60 S (.cell c2) = some (.list []) := by
    unfold toPy
    simp only [hc2]
    rfl
  show opEqP neg (.cell c) (.cell c2) S = _
  unfold opEqP
  have s1 : SeqAt.shaped (.list ps) = true := by
    have hd : PyData.depth (.list ps) ≤ 64 := by
      simp only [PyData.depth]
      omega
    have hl : PyData.canLay0 (.list ps) = true := by simpa only [PyData.canLay0] using g2
    unfold SeqAt.shaped
    rw [hl, decide_eq_true hd]
    rfl
  have s2 : SeqAt.shaped (.list []) = true := by decide
  have e3 : PyData.eqv (.list ps) (.list []) = xs.isEmpty := by
    cases xs with
    | nil =>
      cases ps with
      | nil => simp [PyData.eqv, PyData.eqvAll]
      | cons a b => simp at g6
    | cons x xs =>
      cases ps with
      | nil => simp at g6
      | cons a b => simp [PyData.eqv, PyData.eqvAll]
  simp only [e1, e2, s1, s2, e3, Bool.and_self, if_true]
theorem p_neNil {c c2 : Nat} {xs : List D} (hc : S[c]? = some (.lst xs)) (h : ∀ x ∈ xs, Rd [] k w S x) (hk : k ≤ 50) (hc2 : S[c2]? = some (.lst [])) : opNe (.cell c) (.cell c2) S = .ok (.bl (!xs.isEmpty)) S := eqP_nil (neg := true) hc h hk hc2
theorem p_eqNil {c c2 : Nat} {xs : List D} (hc : S[c]? = some (.lst xs)) (h : ∀ x ∈ xs, Rd [] k w S x) (hk : k ≤ 50) (hc2 : S[c2]? = some (.lst [])) : opEq (.cell c) (.cell c2) S = .ok (.bl xs.isEmpty) S := eqP_nil (neg := false) hc h hk hc2
/-! ### repr -/
mutual
theorem short_of : ∀ p : PyData, p.canLay0 = true → p.showable = true → p.intsShort 1921 = true
  | .none, _, _ => rfl
  | .bool _, _, _ => rfl
  | .str _, _, _ => rfl
  | .int i, _, h => by
    simp only [PyData.showable, decide_eq_true_eq] at h
    simp only [PyData.intsShort, decide_eq_true_eq]
    show (Str.ofString (toString i)).length ≤ 1921
    rw [ofString_length]
    exact int_text_length_le (k := 1920) (by decide) h
  | .list xs, h1, h2 => by
    simp only [PyData.canLay0] at h1
    simp only [PyData.showable] at h2
    simp only [PyData.intsShort]
    exact shortAll_of xs h1 h2
  | .tuple xs, h1, h2 => by
    simp only [PyData.canLay0] at h1
    simp only [PyData.showable] at h2
    simp only [PyData.intsShort]
    exact shortAll_of xs h1 h2
  | .dict _, h, _ => by simp [PyData.canLay0] at h
theorem shortAll_of : ∀ ps : List PyData, PyData.canLayAll0 ps = true → PyData.showableAll ps = true → PyData.intsShortAll 1921 ps = true
  | [], _, _ => rfl
  | p :: ps, h1, h2 => by
    simp only [PyData.canLayAll0, Bool.and_eq_true] at h1
    simp only [PyData.showableAll, Bool.and_eq_true] at h2
    simp only [PyData.intsShortAll, short_of p h1.1 h2.1, shortAll_of ps h1.2 h2.2, Bool.and_self]
end
theorem reprOk_of {p : PyData} (h1 : p.canLay0 = true) (h2 : p.showable = true) (h3 : p.depth ≤ 50) (h4 : p.weight ≤ 8000) : reprOk p = true := by
  unfold reprOk
  simp only [h2, PyData.leavesShort_of_canLay0 1921 p h1 (short_of p h1 h2), PyData.hasDict_of_canLay p h1, decide_eq_true h3, decide_eq_true h4, Bool.and_self, Bool.not_false]
theorem b_repr {d : D} (h : Rd K k w S d) (hk : k ≤ 50) (hw : w ≤ 8000) : ∃ p, (∀ S', Kp K S S' → toPy 60 S' d = some p) ∧ reprOk p = true ∧ ∀ S', Kp K S S' → bRepr [d] S' = .ok (.str p.shown) S' := by
  obtain ⟨p, h1, h2, h3, h4, h5⟩ := h
  have e := reprOk_of h2 h3 (by omega) (by omega)
  refine ⟨p, fun S' kp => h1 S' kp 60 (by omega), e, fun S' kp => ?_⟩
  unfold bRepr
  simp only [h1 S' kp 60 (by omega), e, if_true]
/-- the same reading, the same text -/
theorem toPy_succ_cell {S : Sto} {c : Nat} {xs : List D} (hc : S[c]? = some (.lst xs)) (n : Nat) : toPy (n + 1) S (.cell c) = (allPy (toPy n S) xs).map .list := by
  conv => lhs; unfold toPy
  simp only [hc]
end
end Dn
set_option Elab.async false
set_option linter.all false
set_option maxRecDepth 100000
set_option maxHeartbeats 1000000
/-! Lk2: readings of what Dn9 adds: while, whatever is walked, zip, dicts with tuple keys. -/
noncomputable section
namespace Dn
open PySem L2
section
variable {δ : En} {S : Sto} {a b e : DE} {as : DA} {Q : Po}
@[simp] theorem o_srcA {P : Src → Sto → Prop} : Ok (srcA a δ S) P = Ok (a δ S) fun d S => (∃ i j, d = .rng i j ∧ inRng i = true ∧ inRng j = true ∧ P (.rng i j) S) ∨ (isRg d = false ∧ (isL S d = true ∨ isT d = true) ∧ P (.seq d) S) := by
  unfold srcA
  rw [Ok_bnd]
  congr
  funext d S
  cases d with
  | rng i j =>
    apply propext
    constructor
    · intro h
      dsimp only at h
      split at h
      · rename_i h2
        rw [Bool.and_eq_true] at h2
        exact .inl ⟨i, j, rfl, h2.1, h2.2, h⟩
      · exact h.elim
    · rintro (⟨i', j', e, h1, h2, h⟩ | ⟨h, _⟩)
      · cases e
        simp only [h1, h2, Bool.and_self, if_true]
        exact h
      · cases h
  | _ =>
    dsimp only
    split
    · rename_i h
      rw [Bool.or_eq_true] at h
      simp [h, isRg]
    · rename_i h
      rw [Bool.or_eq_true] at h
      apply propext
      constructor
      · exact fun z => z.elim
      · rintro (⟨i', j', e, _⟩ | ⟨_, z, _⟩)
        · cases e
        · exact absurd z h
@[simp] theorem o_enA {P : Src → Sto → Prop} : Ok (enA as δ S) P = Ok (as δ S) fun ds S => ∃ d, ds = [d] ∧ (isL S d = true ∨ isT d = true) ∧ P (.en d) S := by
  unfold enA
  rw [Ok_bnd]
  congr
  funext d S
  rcases d with _ | ⟨d, _ | ⟨e, r⟩⟩
  · simp
  · simp only []
    split
    · rename_i h
      rw [Bool.or_eq_true] at h
      simp [h]
    · rename_i h
      rw [Bool.or_eq_true] at h
      simp [h]
  · simp
@[simp] theorem o_srcZ {P : Src → Sto → Prop} : Ok (srcZ as δ S) P = Ok (as δ S) fun ds S => ∃ d e, ds = [d, e] ∧ ((isT d = true ∧ isT e = true) ∨ (isL S d = true ∧ isL S e = true)) ∧ P (.zp d e) S := by
  unfold srcZ
  rw [Ok_bnd]
  congr
  funext d S
  rcases d with _ | ⟨d, _ | ⟨e, _ | ⟨z, r⟩⟩⟩
  · simp
  · simp
  · simp only []
    split
    · rename_i h
      rw [Bool.or_eq_true, Bool.and_eq_true, Bool.and_eq_true] at h
      apply propext
      constructor
      · exact fun z => ⟨d, e, rfl, h, z⟩
      · rintro ⟨d', e', q, _, z⟩
        cases q
        exact z
    · rename_i h
      rw [Bool.or_eq_true, Bool.and_eq_true, Bool.and_eq_true] at h
      apply propext
      constructor
      · exact fun z => z.elim
      · rintro ⟨d', e', q, z, _⟩
        cases q
        exact absurd z h
  · simp
@[simp] theorem b_range1 {j : Int} : bRange [.int j] S = .ok (.rng 0 j) S := rfl
@[simp] theorem b_range2 {i j : Int} : bRange [.int i, .int j] S = .ok (.rng i j) S := rfl
@[simp] theorem b_min2 {i j : Int} : bMin [.int i, .int j] S = .ok (.int (if j < i then j else i)) S := rfl
theorem b_anyL {c : Nat} {l : List Bool} (h : S[c]? = some (.lst (l.map D.bl))) : bAny [.cell c] S = .ok (.bl (l.any id)) S := by
  unfold bAny
  simp only [isL, items, h, if_true, Option.bind_some, blsOf_map]
@[simp] theorem o_dik0 {P : D → Sto → Prop} : Ok (dDik0 δ S) P = P (.cell S.length) (S ++ [.dik []]) := rfl
@[simp] theorem o_dik1 {P : D → Sto → Prop} : Ok (dDik1 a b δ S) P = Ok (a δ (S ++ [.dik []])) fun x S1 => Ok (b δ S1) fun y S2 => ∃ kk, S2[S.length]? = some (.dik []) ∧ keyT x = some kk ∧ P (.cell S.length) (S2.set S.length (.dik [(kk, y)])) := by
  unfold dDik1
  rw [Ok_bnd]
  congr
  funext x S1
  rw [Ok_bnd]
  congr
  funext y S2
  apply propext
  constructor
  · intro h
    split at h
    · rename_i kk h1 h2
      exact ⟨kk, h1, h2, h⟩
    · exact h.elim
  · rintro ⟨kk, h1, h2, h⟩
    simp only [h1, h2]
    exact h
theorem p_gtT {ns ms : List Int} : opGtT (.tup (ns.map D.int)) (.tup (ms.map D.int)) S = .ok (.bl (lexGt ns ms)) S := by
  unfold opGtT
  simp only [intsOf_map]
theorem p_inK {neg : Bool} {c : Nat} {kvs : List (NestedKey × D)} {x : D} {k : NestedKey} (h : S[c]? = some (.dik kvs)) (hk : keyT x = some k) : opIn neg x (.cell c) S = .ok (.bl (if neg then !(dkGet kvs k).isSome else (dkGet kvs k).isSome)) S := by
  unfold opIn
  have h1 : items S (.cell c) = none := by simp only [items, h]
  have h2 : dikOf S (.cell c) = some kvs := by simp only [dikOf, h]
  simp only [h1, h2, hk]
theorem p_putK {c : Nat} {kvs : List (NestedKey × D)} {x d : D} {k : NestedKey} (h : S[c]? = some (.dik kvs)) (hk : keyT x = some k) (hl : kvs.length < lim) : dikPut (.cell c) x d S = some (S.set c (.dik (dkPut kvs k d))) := by
  unfold dikPut
  have h2 : dikOf S (.cell c) = some kvs := by simp only [dikOf, h]
  simp only [h2, hk, hl, if_true]
end
/-! ### loops -/
section
variable {δ : En} {S : Sto} {src : DSrc} {g : Tg} {body : DS} {Q : Po} {t : DT}
theorem ok_forAT {xs : List D} (I : Nat → En → Sto → Prop) {a : DE} (hs : Ok (a δ S) fun d S1 => d = .tup xs ∧ I 0 δ S1)
    (step : ∀ i δ S x, xs[i]? = some x → I i δ S → ∃ δ', g.set x δ = some δ' ∧ OkS (body δ' S) ⟨I (i + 1), Q.rt, Q.nx, I (i + 1)⟩) (done : ∀ δ S, I xs.length δ S → Q.nx δ S) : OkS (dFor (srcA a) g body δ S) Q := by
  refine ok_for (s0 := .seq (.tup xs)) (N := xs.length) (item := fun i => xs[i]?.getD .non) I ?_ (fun _ _ _ _ => rfl) (fun i δ S hi _ => ?_) (fun i δ S hi h => ?_) done
  · rw [o_srcA]
    refine Ok.imp hs fun d S1 ⟨e, h⟩ => ?_
    subst e
    exact .inr ⟨rfl, .inr rfl, rfl, h⟩
  · simp [Src.item, hi]
  · have e : xs[i]? = some xs[i] := List.getElem?_eq_getElem hi
    have := step i δ S xs[i] e h
    simpa [e] using this
theorem ok_forEAT {xs : List D} (I : Nat → En → Sto → Prop) {a : DA} (hs : Ok (a δ S) fun d S1 => d = [.tup xs] ∧ I 0 δ S1)
    (step : ∀ i δ S x, xs[i]? = some x → I i δ S → ∃ δ', g.set (.tup [.int i, x]) δ = some δ' ∧ OkS (body δ' S) ⟨I (i + 1), Q.rt, Q.nx, I (i + 1)⟩) (done : ∀ δ S, I xs.length δ S → Q.nx δ S) : OkS (dFor (enA a) g body δ S) Q := by
  refine ok_for (s0 := .en (.tup xs)) (N := xs.length) (item := fun i => .tup [.int i, xs[i]?.getD .non]) I ?_ (fun _ _ _ _ => rfl) (fun i δ S hi _ => ?_) (fun i δ S hi h => ?_) done
  · rw [o_enA]
    refine Ok.imp hs fun d S1 ⟨e, h⟩ => ?_
    subst e
    exact ⟨_, rfl, .inr rfl, rfl, h⟩
  · simp [Src.item, hi]
  · have e : xs[i]? = some xs[i] := List.getElem?_eq_getElem hi
    have := step i δ S xs[i] e h
    simpa [e] using this
theorem ok_forAR {n : Nat} (hn : n ≤ 1000000) (I : Nat → En → Sto → Prop) {a : DE} (hs : Ok (a δ S) fun d S1 => d = .rng 0 (n : Nat) ∧ I 0 δ S1)
    (step : ∀ i δ S, i < n → I i δ S → ∃ δ', g.set (.int (i : Nat)) δ = some δ' ∧ OkS (body δ' S) ⟨I (i + 1), Q.rt, Q.nx, I (i + 1)⟩) (done : ∀ δ S, I n δ S → Q.nx δ S) : OkS (dFor (srcA a) g body δ S) Q := by
  refine ok_for (s0 := .rng 0 (n : Nat)) (N := n) (item := fun i => .int (i : Nat)) I ?_ (fun i δ S h => ?_) (fun i δ S hi h => ?_) (fun i δ S hi h => step i δ S hi h) done
  · rw [o_srcA]
    refine Ok.imp hs fun d S1 ⟨e, h⟩ => ?_
    subst e
    exact .inl ⟨_, _, rfl, inRng_of (by omega) (by omega), inRng_of (by omega) (by omega), rfl, h⟩
  · simp [Src.len]
  · simp [Src.item, hi]
theorem ok_forAL {xs : List D} {c : Nat} (I : Nat → En → Sto → Prop) {a : DE} (hs : Ok (a δ S) fun d S1 => d = .cell c ∧ I 0 δ S1) (hc : ∀ i δ S, I i δ S → S[c]? = some (.lst xs))
    (step : ∀ i δ S x, xs[i]? = some x → I i δ S → ∃ δ', g.set x δ = some δ' ∧ OkS (body δ' S) ⟨I (i + 1), Q.rt, Q.nx, I (i + 1)⟩) (done : ∀ δ S, I xs.length δ S → Q.nx δ S) : OkS (dFor (srcA a) g body δ S) Q := by
  refine ok_for (s0 := .seq (.cell c)) (N := xs.length) (item := fun i => xs[i]?.getD .non) I ?_ (fun i δ S h => ?_) (fun i δ S hi h => ?_) (fun i δ S hi h => ?_) done
  · rw [o_srcA]
    refine Ok.imp hs fun d S1 ⟨e, h⟩ => ?_
    subst e
    exact .inr ⟨rfl, .inl (isL_cell (hc _ _ _ h)), rfl, h⟩
  · simp [Src.len, it_cell (hc _ _ _ h)]
  · simp [Src.item, it_cell (hc _ _ _ h), hi]
  · have e : xs[i]? = some xs[i] := List.getElem?_eq_getElem hi
    have := step i δ S xs[i] e h
    simpa [e] using this
/-- over zip of two tuples of one length -/
theorem ok_forZT {xs ys : List D} (hl : xs.length = ys.length) (I : Nat → En → Sto → Prop) {a : DA} (hs : Ok (a δ S) fun ds S1 => ds = [.tup xs, .tup ys] ∧ I 0 δ S1)
    (step : ∀ i δ S x y, xs[i]? = some x → ys[i]? = some y → I i δ S → ∃ δ', g.set (.tup [x, y]) δ = some δ' ∧ OkS (body δ' S) ⟨I (i + 1), Q.rt, Q.nx, I (i + 1)⟩) (done : ∀ δ S, I xs.length δ S → Q.nx δ S) : OkS (dFor (srcZ a) g body δ S) Q := by
  refine ok_for (s0 := .zp (.tup xs) (.tup ys)) (N := xs.length) (item := fun i => .tup [xs[i]?.getD .non, ys[i]?.getD .non]) I ?_ (fun _ _ _ _ => ?_) (fun i δ S hi _ => ?_) (fun i δ S hi h => ?_) done
  · rw [o_srcZ]
    refine Ok.imp hs fun d S1 ⟨e, h⟩ => ?_
    subst e
    exact ⟨_, _, rfl, .inl ⟨rfl, rfl⟩, rfl, h⟩
  · simp [Src.len, items, hl]
  · have h2 : i < ys.length := by omega
    simp [Src.item, items, hi, h2]
  · have e : xs[i]? = some xs[i] := List.getElem?_eq_getElem hi
    have e2 : ys[i]? = some (ys[i]'(by omega)) := List.getElem?_eq_getElem (by omega)
    have := step i δ S xs[i] _ e e2 h
    simpa [e, e2] using this
theorem okw {b : DS} (I : Nat → En → Sto → Prop)
    (step : ∀ m δ S, I m δ S → Ok (t δ S) fun k S1 => if k = true then OkS (b δ S1) ⟨fun δ S => ∃ m', m' < m ∧ I m' δ S, Q.rt, Q.nx, fun δ S => ∃ m', m' < m ∧ I m' δ S⟩ else Q.nx δ S1) :
    ∀ (f m : Nat) (δ : En) (S : Sto), m < f → I m δ S → OkS (dWhl t b f δ S) Q
  | 0, m, δ, S, h, _ => by omega
  | f + 1, m, δ, S, h, hI => by
    unfold dWhl
    rw [OkS_then]
    refine Ok.imp (step m δ S hI) fun k S1 h1 => ?_
    cases k with
    | false => simpa using h1
    | true =>
      simp only [if_true] at h1 ⊢
      have ih := okw I step f
      cases q : b δ S1 with
      | nx δ1 S2 =>
        rw [q] at h1
        obtain ⟨m', hm, h2⟩ := h1
        exact ih m' δ1 S2 (by omega) h2
      | ct δ1 S2 =>
        rw [q] at h1
        obtain ⟨m', hm, h2⟩ := h1
        exact ih m' δ1 S2 (by omega) h2
      | bk δ1 S2 =>
        rw [q] at h1
        exact h1
      | rt d S2 =>
        rw [q] at h1
        exact h1
      | exc c S2 =>
        rw [q] at h1
        exact h1.elim
      | bad =>
        rw [q] at h1
        exact h1.elim
/-- an invariant with a measure -/
theorem ok_while {b : DS} (I : Nat → En → Sto → Prop) (n : Nat) (hn : n < 1000000) (h0 : I n δ S)
    (step : ∀ m δ S, I m δ S → Ok (t δ S) fun k S1 => if k = true then OkS (b δ S1) ⟨fun δ S => ∃ m', m' < m ∧ I m' δ S, Q.rt, Q.nx, fun δ S => ∃ m', m' < m ∧ I m' δ S⟩ else Q.nx δ S1) : OkS (dWhile t b δ S) Q :=
  okw I step Wf n δ S (by rw [Wf_eq]; exact hn) h0
end
/-! ### comprehensions -/
section
variable {δ : En} {S : Sto} {P : D → Sto → Prop} {g : Tg} {t : DT} {elt : DE} {own : List Nat}
theorem ok_lcAT {xs : List D} {a : DE} (F : D → Option D) (hs : Ok (a δ S) fun d S1 => d = .tup xs ∧ Kp [] S S1) (hl : xs.length ≤ lim)
    (step : ∀ x ∈ xs, ∀ S', Kp [] S S' → ∃ δ', g.set x (wipeD δ own) = some δ' ∧ Ok (t δ' S') fun b S2 => Kp [] S' S2 ∧ if b = true then Ok (elt δ' S2) fun y S3 => Kp [] S' S3 ∧ F x = some y else F x = none)
    (done : ∀ S' c, Kp [] S S' → S.length ≤ c → S'[c]? = some (.lst (xs.filterMap F)) → P (.cell c) S') : Ok (dLc (srcA a) g t elt own δ S) P := by
  refine ok_lcP (s0 := .seq (.tup xs)) F ?_ (fun _ _ => rfl) (fun S' i k hi => ?_) hl step done
  · rw [o_srcA]
    refine Ok.imp hs fun d S1 ⟨e, h⟩ => ?_
    subst e
    exact .inr ⟨rfl, .inr rfl, rfl, h⟩
  · simp [Src.item]
theorem ok_lcAL {xs : List D} {c0 : Nat} {a : DE} (F : D → Option D) (hs : Ok (a δ S) fun d S1 => d = .cell c0 ∧ Kp [] S S1) (hc : S[c0]? = some (.lst xs)) (hl : xs.length ≤ lim)
    (step : ∀ x ∈ xs, ∀ S', Kp [] S S' → ∃ δ', g.set x (wipeD δ own) = some δ' ∧ Ok (t δ' S') fun b S2 => Kp [] S' S2 ∧ if b = true then Ok (elt δ' S2) fun y S3 => Kp [] S' S3 ∧ F x = some y else F x = none)
    (done : ∀ S' c, Kp [] S S' → S.length ≤ c → S'[c]? = some (.lst (xs.filterMap F)) → P (.cell c) S') : Ok (dLc (srcA a) g t elt own δ S) P := by
  refine ok_lcP (s0 := .seq (.cell c0)) F ?_ (fun S' k => ?_) (fun S' i k hi => ?_) hl step done
  · rw [o_srcA]
    refine Ok.imp hs fun d S1 ⟨e, h⟩ => ?_
    subst e
    exact .inr ⟨rfl, .inl (isL_cell (h.get _ _ (by simp) hc)), rfl, h⟩
  · simp [Src.len, it_cell (k.get _ _ (by simp) hc)]
  · simp [Src.item, it_cell (k.get _ _ (by simp) hc)]
theorem ok_lcEAT {xs : List D} {a : DA} (F : D → Option D) (hs : Ok (a δ S) fun d S1 => d = [.tup xs] ∧ Kp [] S S1) (hl : xs.length ≤ lim)
    (step : ∀ i x, xs[i]? = some x → ∀ S', Kp [] S S' → ∃ δ', g.set (.tup [.int (i : Nat), x]) (wipeD δ own) = some δ' ∧ Ok (t δ' S') fun b S2 => Kp [] S' S2 ∧ if b = true then Ok (elt δ' S2) fun y S3 => Kp [] S' S3 ∧ F (.tup [.int (i : Nat), x]) = some y else F (.tup [.int (i : Nat), x]) = none)
    (done : ∀ S' c, Kp [] S S' → S.length ≤ c → S'[c]? = some (.lst ((xs.mapIdx fun i x => D.tup [.int (i : Nat), x]).filterMap F)) → P (.cell c) S') : Ok (dLc (enA a) g t elt own δ S) P := by
  refine ok_lcP (s0 := .en (.tup xs)) (xs := xs.mapIdx fun i x => D.tup [.int (i : Nat), x]) F ?_ (fun S' k => ?_) (fun S' i k hi => ?_) ?_ (fun x hx S' k => ?_) done
  · rw [o_enA]
    refine Ok.imp hs fun d S1 ⟨e, h⟩ => ?_
    subst e
    exact ⟨_, rfl, .inr rfl, rfl, h⟩
  · simp [Src.len]
  · simp [Src.item]
  · simpa using hl
  · obtain ⟨i, hi, rfl⟩ := List.mem_mapIdx.mp hx
    exact step i _ (List.getElem?_eq_getElem hi) S' k
end
end Dn
set_option Elab.async false
set_option linter.all false
set_option maxRecDepth 100000
set_option maxHeartbeats 2000000
/-! La_k78: k84's plain law, first part: the data, the small defs. -/
noncomputable section
namespace Dn
open PySem L2
/-! ### the data -/
abbrev Th := Nat × Bool
inductive Stp where
  | out (r : Nat) | inn (t : Th)
def mD (b : Bool) : D := .str (if b then "beside" else "alone")
def Th.d (t : Th) : D := .tup [.int (t.1 : Nat), mD t.2]
def thsD (l : List Th) : D := .tup (l.map Th.d)
def Stp.d : Stp → D
  | .out r => .tup [.str "out", .int (r : Nat)]
  | .inn t => .tup [.str "in", .int (t.1 : Nat), mD t.2]
def wayD (w : List Stp) : D := .tup (w.map Stp.d)
def roomD : D := .tup [.str "store", .non]
def houseD (R : Nat) (ws : List (List Stp)) : D := .tup [.tup (List.replicate R roomD), .tup (ws.map wayD)]
def pushT (l : List Th) : Stp → List Th
  | .out _ => l.dropLast
  | .inn t => l ++ [t]
def heldT (w : List Stp) (k : Nat) : List Th := (w.take k).foldl pushT []
def wishT : Stp → Option Th
  | .out _ => none
  | .inn t => some t
/-- every way out has something to leave -/
def Nest (w : List Stp) : Prop := ∀ (k r : Nat), w[k]? = some (.out r) → heldT w k ≠ []
theorem heldT_succ {w : List Stp} {k : Nat} {s : Stp} (h : w[k]? = some s) : heldT w (k + 1) = pushT (heldT w k) s := by
  unfold heldT
  rw [List.take_succ, h, Option.toList_some, List.foldl_append]
  rfl
@[simp] theorem s_out_in : decide (("out" : Str) = "in") = false := by decide +kernel
@[simp] theorem s_in_out : decide (("in" : Str) = "out") = false := by decide +kernel
@[simp] theorem s_store_door : decide (("store" : Str) = "door") = false := by decide +kernel
@[simp] theorem s_beside_alone : decide (("beside" : Str) = "alone") = false := by decide +kernel
@[simp] theorem s_alone_beside : decide (("alone" : Str) = "beside") = false := by decide +kernel
@[simp] theorem s_in_try : decide (("in" : Str) = "try") = false := by decide +kernel
@[simp] theorem s_out_try : decide (("out" : Str) = "try") = false := by decide +kernel
@[simp] theorem e_in_out : (("in" : Str) = "out") = False := eq_false (by decide +kernel)
@[simp] theorem e_store_door : (("store" : Str) = "door") = False := eq_false (by decide +kernel)
@[simp] theorem e_beside_alone : (("beside" : Str) = "alone") = False := eq_false (by decide +kernel)
@[simp] theorem e_alone_beside : (("alone" : Str) = "beside") = False := eq_false (by decide +kernel)
@[simp] theorem e_in_try : (("in" : Str) = "try") = False := eq_false (by decide +kernel)
@[simp] theorem e_out_try : (("out" : Str) = "try") = False := eq_false (by decide +kernel)
/-! ### the small defs -/
section
variable {S : Sto}
@[simp] theorem r_is_integer {d : D} : d_is_integer [d] S = if isRg d = true then .bad else .ok (.bl (isI d)) S := by
  cases hr : isRg d with
  | true =>
    have e : kitB (tyD S d) "int" = none := k_int_rg hr
    simp [d_is_integer, b_is_integer, dFn, startD, dRet, thenS, dAndV, asB, dIsI, dVar, e, endF]
  | false =>
    have h : Ok (d_is_integer [d] S) fun r S' => r = .bl (isI d) ∧ S' = S := by
      cases d with
      | rng i j => exact absurd (show true = false from hr) (by decide)
      | _ => simp [d_is_integer, b_is_integer, startD, isI, isB]
    obtain ⟨r, S', e, h1, h2⟩ := h.ex
    rw [e, h1, h2]
    rfl
def whole (d : D) (n : Nat) : Bool := match d with
  | .int i => decide (0 ≤ i ∧ i < n)
  | _ => false
theorem eqOf {r : Res D} {d : D} {S : Sto} (h : Ok r fun r S' => r = d ∧ S' = S) : r = .ok d S := by
  obtain ⟨r, S', e, h1, h2⟩ := h.ex
  rw [e, h1, h2]
theorem r_is_door {R r : Nat} {ws : List (List Stp)} (hr : r < R) : d_is_door [houseD R ws, .int (r : Nat)] S = .ok (.bl false) S := by
  refine eqOf ?_
  have e : (List.replicate R roomD)[r]? = some roomD := by simp [hr]
  simp [d_is_door, b_is_door, startD, houseD, p_ixT e]
  simp [roomD]
theorem mD_alone {b : Bool} : decide ((if b = true then ("beside" : Str) else "alone") = "alone") = !b := by
  cases b <;> simp
theorem r_clash {R : Nat} {ws : List (List Stp)} {t u : Th} (hr : t.1 < R) : d_clash [houseD R ws, t.d, u.d] S = .ok (.bl (decide (t.1 = u.1) && (!t.2 || !u.2))) S := by
  refine eqOf ?_
  simp [d_clash, b_clash, startD, Th.d, r_is_door hr, mD]
  rcases t with ⟨a, x⟩
  rcases u with ⟨b, y⟩
  by_cases h : a = b
  · subst h
    cases x <;> cases y <;> simp
  · have h2 : ¬ ((a : Int) = (b : Int)) := fun z => h (by omega)
    simp [h]
    exact Or.inl h2
theorem r_wish {w : List Stp} {k : Nat} {s : Stp} (h : w[k]? = some s) : d_wish [wayD w, .int (k : Nat)] S = .ok ((wishT s).elim .non Th.d) S := by
  refine eqOf ?_
  have e : (w.map Stp.d)[k]? = some s.d := by simp [h]
  simp [d_wish, b_wish, startD, wayD, p_ixT e]
  cases s with
  | out r => simp [Stp.d, wishT]
  | inn t => simp [Stp.d, wishT, Th.d, lim_eq]
end
end Dn
set_option Elab.async false
set_option linter.all false
set_option maxRecDepth 100000
set_option maxHeartbeats 2000000
/-! Lb_k78: held, entries, clashes, rank_at. -/
noncomputable section
namespace Dn
open PySem L2
section
variable {S : Sto}
@[simp] theorem set_tp {ts : List Tg} {ds : List D} {δ : En} : Tg.set (.tp ts) (.tup ds) δ = Tg.setAll ts ds δ := by simp [Tg.set]
@[simp] theorem set_nm {i : Nat} {d : D} {δ : En} : Tg.set (.nm i) d δ = some (δ.set i (some d)) := by simp [Tg.set]
@[simp] theorem setAll_nil {δ : En} : Tg.setAll [] [] δ = some δ := by simp [Tg.setAll]
@[simp] theorem setAll_cons {t : Tg} {ts : List Tg} {d : D} {ds : List D} {δ : En} : Tg.setAll (t :: ts) (d :: ds) δ = (t.set d δ).bind fun δ' => Tg.setAll ts ds δ' := by
  simp only [Tg.setAll]
  cases t.set d δ <;> rfl
theorem cut_to {xs : List D} {k : Nat} : cutD xs none (some (k : Nat)) = xs.take k := by
  unfold cutD
  rw [HT.sIx_nat, HT.sIx_none, Nat.sub_zero, List.drop_zero]
  rcases Nat.le_total k xs.length with h | h
  · rw [Nat.min_eq_left h]
  · rw [Nat.min_eq_right h, List.take_of_length_le (Nat.le_refl _), List.take_of_length_le h]
theorem heldT_len (w : List Stp) : ∀ j, (heldT w j).length ≤ j
  | 0 => by simp [heldT]
  | j + 1 => by
    have ih := heldT_len w j
    cases h : w[j]? with
    | none =>
      have e : heldT w (j + 1) = heldT w j := by
        unfold heldT
        rw [List.take_succ, h]
        simp
      rw [e]
      omega
    | some s =>
      rw [heldT_succ h]
      cases s with
      | out r =>
        simp [pushT]
        omega
      | inn t =>
        simp [pushT]
        omega
theorem r_held {w : List Stp} {k : Nat} (hn : Nest w) (hk : k ≤ w.length) (hw : w.length ≤ 1000) : Ok (d_held [wayD w, .int (k : Nat)] S) fun r S' => r = thsD (heldT w k) ∧ Kp [] S S' := by
  simp [d_held, b_held, startD, wayD, lim_eq]
  refine ok_forT (xs := (w.take k).map Stp.d) (fun i δ S' => Kp [] S S' ∧ (∃ v, δ = [some (wayD w), some (.int (k : Nat)), some (.cell S.length), v]) ∧ S'[S.length]? = some (.lst ((heldT w i).map Th.d))) ?_ ?_ ?_
  · simp [cut_to, wayD, List.map_take]
    exact ⟨Kp.app _ _ _, by simp [heldT]⟩
  · rintro i δ S' x hx ⟨kp, ⟨v, rfl⟩, hc⟩
    have hi : i < k := by
      have := (List.getElem?_eq_some_iff.mp hx).1
      simp at this
      omega
    obtain ⟨s, hs, rfl⟩ : ∃ s, w[i]? = some s ∧ x = s.d := by
      simp [List.getElem?_take, hi] at hx
      obtain ⟨s, h1, h2⟩ := hx
      exact ⟨s, h1, h2.symm⟩
    have e := heldT_succ hs
    have hl : (heldT w i).length ≤ i := heldT_len w i
    cases s with
    | out r =>
      have hne := hn i r hs
      obtain ⟨l, t, hlt⟩ : ∃ l t, heldT w i = l ++ [t] := ⟨(heldT w i).dropLast, (heldT w i).getLast hne, (List.dropLast_concat_getLast hne).symm⟩
      have hc' : S'[S.length]? = some (.lst (l.map Th.d ++ [t.d])) := by rw [hc, hlt]; simp
      simp [Stp.d, isL_cell hc', m_pop hc']
      refine ⟨kp.set (.inl (Nat.le_refl _)) _, ?_⟩
      rw [get_set hc', e, hlt]
      simp [pushT]
    | inn t =>
      simp [Stp.d, isL_cell hc, lim_eq, m_app (d := .tup [.int (t.1 : Nat), mD t.2]) hc (by simp [lim_eq]; omega)]
      refine ⟨kp.set (.inl (Nat.le_refl _)) _, ?_⟩
      rw [get_set hc, e]
      simp [pushT, Th.d]
  · rintro δ S' ⟨kp, ⟨v, rfl⟩, hc⟩
    simp [b_tupL hc, thsD, kp]
    congr 2
    omega
/-! ### entries -/
def isIn (w : List Stp) (i : Nat) : Bool := match w[i]? with
  | some (.inn _) => true
  | _ => false
def entF : D → Option D
  | .tup [i, .tup (.str x :: _)] => if x = "out" then none else some i
  | _ => none
theorem ent_list : ∀ w : List Stp, ((w.map Stp.d).mapIdx fun i x => D.tup [.int (i : Nat), x]).filterMap entF = ((List.range w.length).filter (isIn w)).map fun i => D.int (i : Nat) := by
  intro w
  have gen : ∀ (l : List Stp) (o : Nat), ((l.map Stp.d).mapIdx fun i x => D.tup [.int ((o + i : Nat) : Int), x]).filterMap entF = ((List.range l.length).filter (isIn l)).map fun i => D.int ((o + i : Nat) : Int) := by
    intro l
    induction l with
    | nil => intro o; rfl
    | cons s l ih =>
      intro o
      have e1 : (List.range (l.length + 1)).filter (isIn (s :: l)) = (if isIn (s :: l) 0 = true then [0] else []) ++ ((List.range l.length).filter (isIn l)).map (· + 1) := by
        have e3 : (isIn (s :: l) ∘ fun x => x + 1) = isIn l := by
          funext i
          simp [isIn]
        rw [List.range_succ_eq_map, List.filter_cons, List.filter_map]
        show (if isIn (s :: l) 0 = true then 0 :: _ else _) = _
        have e4 : (isIn (s :: l) ∘ Nat.succ) = isIn l := e3
        rw [e4]
        split <;> rfl
      have ih2 := ih (o + 1)
      have e2 : (fun (i : Nat) (x : D) => D.tup [.int ((o + (i + 1) : Nat) : Int), x]) = fun (i : Nat) (x : D) => D.tup [.int ((o + 1 + i : Nat) : Int), x] := by
        funext i x
        have : o + (i + 1) = o + 1 + i := by omega
        rw [this]
      have e5 : (fun (i : Nat) => D.int ((o + (i + 1) : Nat) : Int)) = fun (i : Nat) => D.int ((o + 1 + i : Nat) : Int) := by
        funext i
        have : o + (i + 1) = o + 1 + i := by omega
        rw [this]
      rw [List.map_cons, List.mapIdx_cons, List.length_cons, e1, List.map_append, List.map_map, List.filterMap_cons]
      have e6 : ((fun (i : Nat) => D.int ((o + i : Nat) : Int)) ∘ fun x => x + 1) = fun (i : Nat) => D.int ((o + 1 + i : Nat) : Int) := e5
      rw [e2, ih2, e6]
      cases s with
      | out r => simp [isIn, Stp.d, entF]
      | inn t => simp [isIn, Stp.d, entF]
  have := gen w 0
  simpa using this
/-! ### clashes -/
def meetsT (t : Th) (l : List Th) : Bool := l.any fun u => decide (t.1 = u.1) && (!t.2 || !u.2)
def clF (R : Nat) (t : Th) : D → Option D
  | .tup [.int a, .str m] => if decide ((t.1 : Int) = a) && (!t.2 || decide (m = "alone")) then some (.int 1) else none
  | _ => none
theorem clF_eq {R : Nat} {t u : Th} : clF R t u.d = if (decide (t.1 = u.1) && (!t.2 || !u.2)) = true then some (.int 1) else none := by
  rcases t with ⟨a, x⟩
  rcases u with ⟨b, y⟩
  have e : decide ((a : Int) = (b : Int)) = decide (a = b) := by
    apply decide_eq_decide.mpr
    omega
  cases y <;> simp [clF, Th.d, mD, e]
theorem clF_list {R : Nat} {t : Th} : ∀ l : List Th, ((l.map Th.d).filterMap (clF R t)).isEmpty = !meetsT t l
  | [] => rfl
  | u :: l => by
    have ih := clF_list (R := R) (t := t) l
    simp only [List.map_cons, List.filterMap_cons, clF_eq]
    unfold meetsT at ih ⊢
    rw [List.any_cons]
    cases h : (decide (t.1 = u.1) && (!t.2 || !u.2)) with
    | true => simp
    | false => simpa using ih
theorem clF_one {R : Nat} {t : Th} {l : List Th} : ∀ x ∈ (l.map Th.d).filterMap (clF R t), x = .int 1 := by
  intro x hx
  obtain ⟨a, h1, h2⟩ := List.mem_filterMap.mp hx
  obtain ⟨u, h3, rfl⟩ := List.mem_map.mp h1
  rw [clF_eq] at h2
  split at h2
  · exact (Option.some.inj h2).symm
  · cases h2
theorem r_does_clash {R : Nat} {ws : List (List Stp)} {t : Th} {l : List Th} (hr : t.1 < R) (hl : l.length ≤ 1000) : Ok (d_does_clash [houseD R ws, t.d, thsD l] S) fun r S' => r = .bl (meetsT t l) ∧ Kp [] S S' := by
  simp [d_does_clash, b_does_clash, startD]
  refine ok_lcT (xs := l.map Th.d) (clF R t) ?_ (by simp [lim_eq]; omega) ?_ ?_
  · simp [thsD, Kp.refl]
  · intro x hx S' kp
    obtain ⟨u, h3, rfl⟩ := List.mem_map.mp hx
    have hcl := r_clash (S := S') (ws := ws) (u := u) hr
    have hF := clF_eq (R := R) (t := t) (u := u)
    generalize (decide (t.1 = u.1) && (!t.2 || !u.2)) = b at hcl hF
    simp [wipeD, hcl, hF, Kp.refl]
  · intro S' c kp hlc hc
    have e := p_neNil (S := S' ++ [.lst []]) (k := 0) (w := 1) ((Kp.app [] S' [.lst []]).get _ _ (by simp) hc) (fun x hx => by rw [clF_one x hx]; exact rd_int (b := 0) (by decide) (by decide) (by decide)) (by decide) (get_push S' (.lst []))
    rw [clF_list] at e
    simp [e, kp.push]
def hitT (w : List Stp) (l : List Th) (k : Nat) : Bool := match w[k]? with
  | some (.inn t) => meetsT t l
  | _ => false
/-- the first place whose wish meets l -/
def entryT (w : List Stp) (l : List Th) : Option Nat := (List.range w.length).find? (hitT w l)
def natD : Option Nat → D
  | none => .non
  | some k => .int (k : Nat)
def InR (R : Nat) (w : List Stp) : Prop := ∀ t, Stp.inn t ∈ w → t.1 < R
theorem hit_isIn {w : List Stp} {l : List Th} : ∀ k, hitT w l k = (isIn w k && hitT w l k) := by
  intro k
  unfold hitT isIn
  cases h : w[k]? with
  | none => rfl
  | some s => cases s <;> rfl
theorem entry_filter {w : List Stp} {l : List Th} : ((List.range w.length).filter (isIn w)).find? (hitT w l) = entryT w l := by
  unfold entryT
  rw [List.find?_filter]
  congr
  funext k
  rw [hit_isIn k]
  cases isIn w k <;> simp
end
end Dn
set_option Elab.async false
set_option linter.all false
set_option maxRecDepth 100000
set_option maxHeartbeats 2000000
/-! Lc_k78: the law's own meets, entry, rank_at; the program's rank_at. -/
noncomputable section
namespace Dn
open PySem L2
structure HOk (R : Nat) (ws : List (List Stp)) : Prop where
  r1 : 1 ≤ R
  r5 : R ≤ 5
  w1 : 1 ≤ ws.length
  w5 : ws.length ≤ 5
  nest : ∀ w ∈ ws, Nest w
  inr : ∀ w ∈ ws, InR R w
  len1 : ∀ w ∈ ws, 1 ≤ w.length
  len : ∀ w ∈ ws, w.length ≤ 24
  outr : ∀ w ∈ ws, ∀ r, Stp.out r ∈ w → r < R
abbrev Cap := Option Int × Option Int
def oD : Option Int → D
  | none => .non
  | some i => .int i
def capD (p : Cap) : D := .tup [oD p.1, oD p.2]
def raisedD (l : List Cap) : D := .tup (l.map capD)
def ranksD (l : List Int) : D := .tup (l.map D.int)
def capOf (ra : List Cap) (t : Th) : Option Int := match ra[t.1]? with
  | some p => if t.2 then p.2 else p.1
  | none => none
def RowsOk (w : List Stp) (rs : List D) : Prop := rs.length = w.length ∧ ∀ (k : Nat) (s : Stp), w[k]? = some s → ∃ z : Int, rs[k]? = some (D.tup [thsD (heldT w k), (wishT s).elim .non Th.d, .bl false, .int z])
/-- the plan of the ways stands at p -/
structure PlanAt (K : List Nat) (S : Sto) (p : Nat) (ws : List (List Stp)) (cs : List Nat) : Prop where
  pn : p ∉ K
  pc : S[p]? = some (.lst (cs.map D.cell))
  len : cs.length = ws.length
  row : ∀ (i c : Nat) (w : List Stp), cs[i]? = some c → ws[i]? = some w → c ∉ K ∧ ∃ rs, S[c]? = some (C.lst rs) ∧ RowsOk w rs
theorem map_get {α β : Type} {f : α → β} {l : List α} {i : Nat} {x : β} (h : (l.map f)[i]? = some x) : ∃ a, l[i]? = some a ∧ x = f a := by
  rw [List.getElem?_map] at h
  obtain ⟨a, h1, h2⟩ := Option.map_eq_some_iff.mp h
  exact ⟨a, h1, h2.symm⟩
section
variable {S S' : Sto} {K : List Nat}
theorem PlanAt.mono {p : Nat} {ws : List (List Stp)} {cs : List Nat} (h : PlanAt K S p ws cs) (k : Kp K S S') : PlanAt K S' p ws cs :=
  ⟨h.pn, k.get _ _ h.pn h.pc, h.len, fun i c w h1 h2 => let ⟨a, rs, b, r⟩ := h.row i c w h1 h2; ⟨a, rs, k.get _ _ a b, r⟩⟩
theorem PlanAt.nil {p : Nat} {ws : List (List Stp)} {cs : List Nat} (h : PlanAt K S p ws cs) : PlanAt [] S p ws cs :=
  ⟨by simp, h.pc, h.len, fun i c w h1 h2 => let ⟨a, rs, b, r⟩ := h.row i c w h1 h2; ⟨by simp, rs, b, r⟩⟩
theorem PlanAt.get {p : Nat} {ws : List (List Stp)} {cs : List Nat} {i : Nat} {w : List Stp} (h : PlanAt K S p ws cs) (hw : ws[i]? = some w) : ∃ c rs, cs[i]? = some c ∧ c ∉ K ∧ S[c]? = some (.lst rs) ∧ RowsOk w rs := by
  have hi : i < cs.length := by
    rw [h.len]
    exact (List.getElem?_eq_some_iff.mp hw).1
  obtain ⟨a, rs, b, r⟩ := h.row i cs[i] w (List.getElem?_eq_getElem hi) hw
  exact ⟨_, rs, List.getElem?_eq_getElem hi, a, b, r⟩
theorem PlanAt.ix {p : Nat} {ws : List (List Stp)} {cs : List Nat} {i c : Nat} (h : PlanAt K S p ws cs) (hc : cs[i]? = some c) : opIx (.cell p) (.int (i : Nat)) S = .ok (.cell c) S :=
  p_ixL h.pc (by simp [hc])
theorem PlanAt.len' {p : Nat} {ws : List (List Stp)} {cs : List Nat} (h : PlanAt K S p ws cs) : bLen [.cell p] S = .ok (.int ws.length) S := by
  rw [b_lenL h.pc]
  simp [h.len]
/-! ### the law's meets -/
theorem r_law_meets {R : Nat} {ws : List (List Stp)} {t : Th} {l : List Th} (hl : ∀ u ∈ l, u.1 < R) : d_law_meets [houseD R ws, t.d, thsD l] S = .ok (.bl (meetsT t l)) S := by
  refine eqOf ?_
  simp [d_law_meets, b_law_meets, startD]
  refine ok_forT (xs := l.map Th.d) (fun i δ S' => S' = S ∧ (∃ v v', δ = [some (houseD R ws), some t.d, some (thsD l), v, v']) ∧ meetsT t (l.take i) = false) ?_ ?_ ?_
  · simp [thsD, meetsT]
  · rintro i δ S' x hx ⟨rfl, ⟨v, v', rfl⟩, hm⟩
    obtain ⟨u, hu, rfl⟩ := map_get hx
    have hr := hl u (List.mem_of_getElem? hu)
    have e : (List.replicate R roomD)[u.1]? = some roomD := by simp [hr]
    have tk : meetsT t (l.take (i + 1)) = (decide (t.1 = u.1) && (!t.2 || !u.2)) := by
      unfold meetsT at hm ⊢
      rw [List.take_succ, hu, List.any_append, hm]
      simp
    have whole : (decide (t.1 = u.1) && (!t.2 || !u.2)) = true → meetsT t l = true := fun z => by
      unfold meetsT
      rw [List.any_eq_true]
      exact ⟨u, List.mem_of_getElem? hu, z⟩
    rcases t with ⟨a, x⟩
    rcases u with ⟨b, y⟩
    simp only [Th.d, set_tp, setAll_cons, set_nm, setAll_nil]
    simp [houseD, p_ixT e]
    by_cases h : b = a
    · subst h
      simp [roomD, mD]
      cases x <;> cases y <;> simp_all
    · have h2 : ¬ ((b : Int) = (a : Int)) := fun z => h (by omega)
      have h3 : ¬ (a = b) := fun z => h z.symm
      simp [h2, h3] at tk ⊢
      exact tk
  · rintro δ S' ⟨rfl, ⟨v, v', rfl⟩, hm⟩
    simp at hm
    simp [hm]
theorem heldT_mem {w : List Stp} : ∀ (k : Nat) (t : Th), t ∈ heldT w k → Stp.inn t ∈ w
  | 0, t, h => by simp [heldT] at h
  | k + 1, t, h => by
    cases q : w[k]? with
    | none =>
      have e : heldT w (k + 1) = heldT w k := by
        unfold heldT
        rw [List.take_succ, q]
        simp
      rw [e] at h
      exact heldT_mem k t h
    | some s =>
      rw [heldT_succ q] at h
      cases s with
      | out r => exact heldT_mem k t ((List.dropLast_sublist _).subset h)
      | inn u =>
        rcases List.mem_append.mp h with h | h
        · exact heldT_mem k t h
        · rw [List.mem_singleton.mp h]
          exact List.mem_of_getElem? q
/-! ### the law's entry -/
/-! ### ranks with ceilings -/
def unF : D → Option D
  | .non => none
  | d => some d
theorem unF_list : ∀ l : List (Option Int), (l.map oD).filterMap unF = (l.filterMap id).map D.int
  | [] => rfl
  | none :: l => by
    simp only [List.map_cons, List.filterMap_cons, oD, unF, id, unF_list l]
  | some i :: l => by
    simp only [List.map_cons, List.filterMap_cons, oD, unF, id, unF_list l]
/-- the rank that a hand runs at -/
def rankT (q : Int) (ra : List Cap) (l : List Th) : Int := maxI (q :: l.filterMap (capOf ra))
end
end Dn
set_option Elab.async false
set_option linter.all false
set_option maxRecDepth 100000
set_option maxHeartbeats 2000000
/-! Ld_k78: the breach's form, the errors, the longest wait. -/
noncomputable section
namespace Dn
open PySem L2
section
variable {S S' : Sto} {K : List Nat}
theorem ok_forT2 {δ : En} {Q : Po} {g : Tg} {body : DS} {x y : D} {a : DE}
    (hs : Ok (a δ S) fun d S1 => d = .tup [x, y] ∧ ∃ δ1, g.set x δ = some δ1 ∧ OkS (body δ1 S1) ⟨fun δ2 S2 => ∃ δ3, g.set y δ2 = some δ3 ∧ OkS (body δ3 S2) ⟨Q.nx, Q.rt, Q.nx, Q.nx⟩, Q.rt, Q.nx, fun δ2 S2 => ∃ δ3, g.set y δ2 = some δ3 ∧ OkS (body δ3 S2) ⟨Q.nx, Q.rt, Q.nx, Q.nx⟩⟩) : OkS (dFor (srcT a) g body δ S) Q := by
  obtain ⟨d, S1, e, rfl, δ1, h1, h2⟩ := hs.ex
  refine ok_forT (xs := [x, y]) (fun i δ' S' => match i with
    | 0 => δ' = δ ∧ S' = S1
    | 1 => ∃ δ3, g.set y δ' = some δ3 ∧ OkS (body δ3 S') ⟨Q.nx, Q.rt, Q.nx, Q.nx⟩
    | _ => Q.nx δ' S') ?_ ?_ ?_
  · rw [e]
    exact ⟨rfl, rfl, rfl⟩
  · intro i δ' S' z hz hI
    match i, hz, hI with
    | 0, hz, ⟨e1, e2⟩ =>
      subst e1 e2
      cases hz
      exact ⟨δ1, h1, h2⟩
    | 1, hz, ⟨δ3, h3, h4⟩ =>
      cases hz
      exact ⟨δ3, h3, h4⟩
    | i + 2, hz, _ => simp at hz
  · intro δ' S' h
    exact h
def wN (d : D) (n : Nat) : Option Nat := match d with
  | .int i => if 0 ≤ i ∧ i < n then some i.toNat else none
  | _ => none
theorem whole_wN {d : D} {n : Nat} : whole d n = (wN d n).isSome := by
  cases d with
  | int i =>
    unfold whole wN
    by_cases h : 0 ≤ i ∧ i < (n : Int)
    · simp [h]
    · simp only [h, if_false]
      simp [decide_eq_false h]
  | _ => rfl
theorem wN_some {d : D} {n k : Nat} (h : wN d n = some k) : d = .int (k : Nat) ∧ k < n := by
  unfold wN at h
  split at h
  · rename_i i
    split at h
    · rename_i hi
      cases h
      exact ⟨by rw [Int.toNat_of_nonneg hi.1], by omega⟩
    · cases h
  · cases h
def natsOf (ws : List (List Stp)) (v : D) : Option (Nat × Nat × Nat × Nat) := match v with
  | .tup [a, b, c, e] => (wN a ws.length).bind fun l => (wN c ws.length).bind fun h => if l = h then none else (ws[l]?).bind fun wl => (ws[h]?).bind fun wh => (wN b wl.length).bind fun p => (wN e wh.length).bind fun n => some (l, p, h, n)
  | _ => none
theorem natsOf_some {ws : List (List Stp)} {v : D} {l p h n : Nat} (q : natsOf ws v = some (l, p, h, n)) :
    v = .tup [.int (l : Nat), .int (p : Nat), .int (h : Nat), .int (n : Nat)] ∧ l ≠ h ∧ ∃ wl wh, ws[l]? = some wl ∧ ws[h]? = some wh ∧ p < wl.length ∧ n < wh.length := by
  unfold natsOf at q
  split at q
  · rename_i a b c e
    obtain ⟨l', e1, q⟩ := Option.bind_eq_some_iff.mp q
    obtain ⟨h', e2, q⟩ := Option.bind_eq_some_iff.mp q
    split at q
    · cases q
    · rename_i hne
      obtain ⟨wl, e3, q⟩ := Option.bind_eq_some_iff.mp q
      obtain ⟨wh, e4, q⟩ := Option.bind_eq_some_iff.mp q
      obtain ⟨p', e5, q⟩ := Option.bind_eq_some_iff.mp q
      obtain ⟨n', e6, q⟩ := Option.bind_eq_some_iff.mp q
      cases q
      obtain ⟨rfl, h1⟩ := wN_some e1
      obtain ⟨rfl, h2⟩ := wN_some e2
      obtain ⟨rfl, h3⟩ := wN_some e5
      obtain ⟨rfl, h4⟩ := wN_some e6
      exact ⟨rfl, hne, wl, wh, e3, e4, h3, h4⟩
  · cases q
theorem tup4 {v : D} (h : ∀ a b c e, v ≠ .tup [a, b, c, e]) : isT v = false ∨ ∃ xs, v = .tup xs ∧ xs.length ≠ 4 := by
  cases v with
  | tup xs =>
    refine .inr ⟨xs, rfl, fun hl => ?_⟩
    match xs, hl with
    | [a, b, c, e], _ => exact h a b c e rfl
  | _ => exact .inl rfl
theorem cut2a {a b c e : D} : cutD [a, b, c, e] none (some 2) = [a, b] := rfl
theorem cut2b {a b c e : D} : cutD [a, b, c, e] (some 2) none = [c, e] := rfl
/-! ### the errors -/
def errN (ws : List (List Stp)) (rk : List Int) (ra : List Cap) (l p h n : Nat) : D :=
  match ws[l]?, ws[h]?, rk[l]?, rk[h]? with
  | some wl, some wh, some ql, some qh => if qh < ql then .str "rank" else if entryT wh (heldT wl p) ≠ some n then .str "entry" else if rankT ql ra (heldT wl p) < qh then .non else .str "raised"
  | _, _, _, _ => .non
def errT (ws : List (List Stp)) (rk : List Int) (ra : List Cap) (v : D) : D := match natsOf ws v with
  | some (l, p, h, n) => errN ws rk ra l p h n
  | none => .str "form"
theorem p_neN {o : Option Nat} {n : Nat} : opNe (natD o) (.int (n : Nat)) S = .ok (.bl (decide (o ≠ some n))) S := by
  cases o with
  | none => rfl
  | some k =>
    rw [natD, p_neI]
    by_cases h : k = n
    · subst h; simp
    · have h2 : ¬ ((k : Int) = (n : Int)) := fun z => h (by omega)
      simp [h, h2]
end
end Dn
set_option Elab.async false
set_option linter.all false
set_option maxRecDepth 100000
set_option maxHeartbeats 2000000
/-! Le_k78: forms of what is told, calm houses, refusals. -/
noncomputable section
namespace Dn
open PySem L2
section
variable {S S' : Sto} {K : List Nat} {k w : Nat}
theorem allPy_get {f : D → Option PyData} : ∀ {xs : List D} {ps : List PyData}, allPy f xs = some ps → ∀ (i : Nat) (x : D), xs[i]? = some x → ∃ q, ps[i]? = some q ∧ f x = some q
  | [], ps, h, i, x, hx => by simp at hx
  | y :: ys, ps, h, i, x, hx => by
    unfold allPy at h
    split at h
    · rename_i p qs h1 h2
      cases h
      cases i with
      | zero =>
        cases hx
        exact ⟨p, rfl, h1⟩
      | succ i => exact allPy_get h2 i x (by simpa using hx)
    · cases h
theorem canLay_mem : ∀ {ps : List PyData} {q : PyData}, PyData.canLayAll0 ps = true → q ∈ ps → q.canLay0 = true
  | p :: ps, q, h, hq => by
    simp only [PyData.canLayAll0, Bool.and_eq_true] at h
    rcases List.mem_cons.mp hq with rfl | hq
    · exact h.1
    · exact canLay_mem h.2 hq
theorem showable_mem : ∀ {ps : List PyData} {q : PyData}, PyData.showableAll ps = true → q ∈ ps → q.showable = true
  | p :: ps, q, h, hq => by
    simp only [PyData.showableAll, Bool.and_eq_true] at h
    rcases List.mem_cons.mp hq with rfl | hq
    · exact h.1
    · exact showable_mem h.2 hq
theorem depth_mem : ∀ {ps : List PyData} {q : PyData}, q ∈ ps → q.depth ≤ PyData.depthAll ps
  | p :: ps, q, hq => by
    simp only [PyData.depthAll]
    rcases List.mem_cons.mp hq with rfl | hq
    · omega
    · have := depth_mem hq
      omega
theorem weight_mem : ∀ {ps : List PyData} {q : PyData}, q ∈ ps → q.weight ≤ PyData.weightAll ps
  | p :: ps, q, hq => by
    simp only [PyData.weightAll]
    rcases List.mem_cons.mp hq with rfl | hq
    · omega
    · have := weight_mem hq
      omega
theorem rd_inv {xs : List D} (h : Rd K k w S (.tup xs)) {x : D} (hx : x ∈ xs) : Rd K k w S x := by
  obtain ⟨p, h1, h2, h3, h4, h5⟩ := h
  obtain ⟨i, hi⟩ := List.getElem?_of_mem hx
  have step : ∀ S', Kp K S S' → ∀ m, k < m + 1 → (allPy (toPy m S') xs).map PyData.tuple = some p := fun S' kp m hm => h1 S' kp (m + 1) hm
  obtain ⟨ps, e1, e2⟩ := Option.map_eq_some_iff.mp (step S (Kp.refl _ _) k (by omega))
  subst e2
  have st2 : ∀ S', Kp K S S' → ∀ m, k < m → allPy (toPy m S') xs = some ps := fun S' kp m hm => by
    obtain ⟨qs, g1, g2⟩ := Option.map_eq_some_iff.mp (step S' kp m (by omega))
    cases g2
    exact g1
  obtain ⟨q, hq, _⟩ := allPy_get e1 i x hi
  have hm := List.mem_of_getElem? hq
  refine ⟨q, fun S' kp m hm2 => ?_, ?_, ?_, ?_, ?_⟩
  · obtain ⟨q', g1, g2⟩ := allPy_get (st2 S' kp m hm2) i x hi
    rw [hq] at g1
    cases g1
    exact g2
  · exact canLay_mem (by simpa only [PyData.canLay0] using h2) hm
  · exact showable_mem (by simpa only [PyData.showable] using h3) hm
  · have := depth_mem hm
    simp only [PyData.depth] at h4
    omega
  · have := weight_mem hm
    simp only [PyData.weight] at h5
    omega
/-! ### the raised form -/
def ownOk (d : D) : Bool := isNon d || isI d
def pairOk (d : D) : Bool := match d with
  | .tup ys => decide (ys.length = 2) && ys.all ownOk
  | _ => false
def raisedOk (R : Nat) (v : D) : Bool := match v with
  | .tup xs => decide (xs.length = R) && xs.all pairOk
  | _ => false
def ownF (d : D) : Option D := if ownOk d = true then none else some d
theorem ownF_list : ∀ ys : List D, (ys.filterMap ownF).isEmpty = ys.all ownOk
  | [] => rfl
  | y :: ys => by
    have ih := ownF_list ys
    rw [List.filterMap_cons, List.all_cons]
    unfold ownF at ih ⊢
    cases h : ownOk y with
    | true => simpa using ih
    | false => simp
theorem isT_cases (d : D) : (∃ xs, d = .tup xs) ∨ isT d = false := by
  cases d with
  | tup xs => exact .inl ⟨xs, rfl⟩
  | _ => exact .inr rfl
theorem pairOk_not {d : D} (h : isT d = false) : pairOk d = false := by
  cases d with
  | tup xs => cases h
  | _ => rfl
theorem raisedOk_not {R : Nat} {d : D} (h : isT d = false) : raisedOk R d = false := by
  cases d with
  | tup xs => cases h
  | _ => rfl
theorem all_take {p : D → Bool} {xs : List D} {i : Nat} {x : D} (hx : xs[i]? = some x) (h : (xs.take i).all p = true) : (xs.take (i + 1)).all p = p x := by
  rw [List.take_succ, hx, List.all_append, h]
  simp
theorem all_false {p : D → Bool} {xs : List D} {x : D} (hx : x ∈ xs) (h : p x = false) : xs.all p = false := by
  rw [List.all_eq_false]
  exact ⟨x, hx, by simp [h]⟩
theorem isB_notI {d : D} (h : isB d = true) : isI d = false := by
  cases d with
  | bl b => rfl
  | _ => cases h
end
end Dn
set_option Elab.async false
set_option linter.all false
set_option maxRecDepth 100000
set_option maxHeartbeats 2000000
/-! Lf_k78: calm houses, right ranks, what is told right. -/
noncomputable section
namespace Dn
open PySem L2
section
variable {S S' : Sto} {K : List Nat} {k w : Nat}
def filt (p : D → Bool) (x : D) : Option D := if p x = true then some x else none
theorem filt_list (p : D → Bool) : ∀ xs : List D, (xs.filterMap (filt p)).isEmpty = !xs.any p
  | [] => rfl
  | x :: xs => by
    have ih := filt_list p xs
    rw [List.filterMap_cons, List.any_cons]
    unfold filt at ih ⊢
    cases h : p x with
    | true => simp
    | false => simpa using ih
theorem filt_mem {p : D → Bool} {xs : List D} {x : D} (h : x ∈ xs.filterMap (filt p)) : x ∈ xs := by
  obtain ⟨a, h1, h2⟩ := List.mem_filterMap.mp h
  unfold filt at h2
  split at h2
  · cases h2
    exact h1
  · cases h2
def hdTry (s : D) : Bool := match s with
  | .tup (.str x :: _) => x == "try"
  | _ => false
def hdF (s : D) : Option D := match s with
  | .tup (x :: _) => some x
  | _ => none
theorem hd_list : ∀ ss : List D, (∀ s ∈ ss, ∃ x r, s = D.tup (.str x :: r)) → inD (.str "try") (ss.filterMap hdF) = ss.any hdTry ∧ (ss.filterMap hdF).all flatD = true
  | [], _ => ⟨rfl, rfl⟩
  | s :: ss, h => by
    obtain ⟨x, r, rfl⟩ := h s List.mem_cons_self
    obtain ⟨h1, h2⟩ := hd_list ss fun t ht => h t (List.mem_cons_of_mem _ ht)
    have e : (D.tup (.str x :: r) :: ss).filterMap hdF = .str x :: ss.filterMap hdF := rfl
    rw [e]
    refine ⟨?_, ?_⟩
    · unfold inD at h1 ⊢
      rw [List.any_cons, List.any_cons, h1]
      rfl
    · rw [List.all_cons, h2]
      rfl
theorem r_is_calm {rooms ways : List D} (bad tr : D → Bool) (h1 : ∀ x ∈ rooms, (∀ S', opNe x (.tup [.str "store", .non]) S' = .ok (.bl (bad x)) S') ∧ ∀ S', Rd [] 20 5000 S' x)
    (h2 : ∀ w ∈ ways, (∀ S', Rd [] 20 5000 S' w) ∧ ∃ ss, w = .tup ss ∧ ss.length ≤ 1000 ∧ (∀ s ∈ ss, ∃ x r, s = D.tup (.str x :: r)) ∧ tr w = ss.any hdTry) (hl1 : rooms.length ≤ 1000) (hl2 : ways.length ≤ 1000) :
    Ok (d_is_calm [.tup [.tup rooms, .tup ways]] S) fun r S' => r = .bl (!rooms.any bad && !ways.any tr) ∧ Kp [] S S' := by
  obtain ⟨res, hres⟩ : ∃ res, res = (!rooms.any bad && !ways.any tr) := ⟨_, rfl⟩
  rw [← hres]
  simp [d_is_calm, b_is_calm, startD]
  refine ok_lcT (xs := rooms) (filt bad) ?_ (by simp [lim_eq]; omega) ?_ ?_
  · simp [Kp.refl]
  · intro x hx S1 kp
    simp [wipeD, (h1 x hx).1, lim_eq, filt, Kp.refl]
  · intro S1 c kp hlc hc
    have e := p_neNil (S := S1 ++ [.lst []]) (k := 20) (w := 5000) ((Kp.app [] S1 [.lst []]).get _ _ (by simp) hc) (fun z hz => (h1 z (filt_mem hz)).2 _) (by decide) (get_push S1 (.lst []))
    rw [filt_list] at e
    have k1 : Kp [] S (S1 ++ [C.lst []]) := kp.push _
    generalize rooms.any bad = b at e hres
    cases b with
    | true =>
      subst hres
      simp [e, k1]
    | false =>
      simp [e]
      refine ok_lcT (xs := ways) (filt tr) ?_ (by simp [lim_eq]; omega) ?_ ?_
      · simp [Kp.refl]
      · intro x hx S2 kp2
        obtain ⟨_, ss, rfl, hss, hall, htr⟩ := h2 x hx
        obtain ⟨g1, g2⟩ := hd_list ss hall
        simp [wipeD]
        refine ok_lcT (xs := ss) hdF ?_ (by simp [lim_eq]; omega) ?_ ?_
        · simp [Kp.refl]
        · intro s hs S3 kp3
          obtain ⟨x, r, rfl⟩ := hall s hs
          simp [wipeD, hdF, Kp.refl]
        · intro S3 c3 kp3 hl3 hc3
          have e3 : opIn false (.str "try") (.cell c3) S3 = .ok (.bl (ss.any hdTry)) S3 := by
            unfold opIn
            simp only [it_cell hc3]
            have : (flatD (.str "try") && (ss.filterMap hdF).all flatD) = true := by rw [g2]; rfl
            simp only [this, if_true, g1]
            rfl
          rw [← htr] at e3
          simp [e3, filt, kp3]
      · intro S2 c2 kp2 hl2 hc2
        have e2 := p_eqNil (S := S2 ++ [.lst []]) (k := 20) (w := 5000) ((Kp.app [] S2 [.lst []]).get _ _ (by simp) hc2) (fun z hz => (h2 z (filt_mem hz)).1 _) (by decide) (get_push S2 (.lst []))
        rw [filt_list] at e2
        generalize ways.any tr = b2 at e2 hres
        subst hres
        simp [e2]
        exact (k1.trans kp2).push _
/-! ### the calm house -/
theorem rd_th {t : Th} {R : Nat} (h : t.1 < R) (hR : R ≤ 5) : Rd K 1 40 S t.d := by
  refine rd_tup (k := 0) (w := 8) (fun x hx => ?_) (by decide) (by show 2 * (8 + 1) ≤ 40; decide)
  simp only [List.mem_cons, List.not_mem_nil, or_false] at hx
  rcases hx with rfl | rfl
  · exact rd_int (b := 3) (by omega) (by decide) (by decide)
  · unfold mD
    cases t.2
    · exact rd_str (by decide +kernel) (by decide +kernel)
    · exact rd_str (by decide +kernel) (by decide +kernel)
theorem rd_stp {s : Stp} {R : Nat} (h : ∀ t, s = .inn t → t.1 < R) (h' : ∀ r, s = .out r → r < R) (hR : R ≤ 5) : Rd K 1 40 S s.d := by
  cases s with
  | out r =>
    have hr := h' r rfl
    refine rd_tup (k := 0) (w := 8) (fun x hx => ?_) (by decide) (by show 2 * (8 + 1) ≤ 40; decide)
    simp only [List.mem_cons, List.not_mem_nil, or_false] at hx
    rcases hx with rfl | rfl
    · exact rd_str (by decide +kernel) (by decide +kernel)
    · exact rd_int (b := 3) (by omega) (by decide) (by decide)
  | inn t =>
    have hr := h t rfl
    refine rd_tup (k := 0) (w := 8) (fun x hx => ?_) (by decide) (by show 3 * (8 + 1) ≤ 40; decide)
    simp only [List.mem_cons, List.not_mem_nil, or_false] at hx
    rcases hx with rfl | rfl | rfl
    · exact rd_str (by decide +kernel) (by decide +kernel)
    · exact rd_int (b := 3) (by omega) (by decide) (by decide)
    · unfold mD
      cases t.2
      · exact rd_str (by decide +kernel) (by decide +kernel)
      · exact rd_str (by decide +kernel) (by decide +kernel)
theorem rd_room : Rd K 1 20 S roomD := by
  refine rd_tup (k := 0) (w := 8) (fun x hx => ?_) (by decide) (by show 2 * (8 + 1) ≤ 20; decide)
  simp only [List.mem_cons, List.not_mem_nil, or_false] at hx
  rcases hx with rfl | rfl
  · exact rd_str (by decide +kernel) (by decide +kernel)
  · exact rd_non
theorem rd_way {R : Nat} {ws : List (List Stp)} (H : HOk R ws) {x : List Stp} (hx : x ∈ ws) : Rd K 2 984 S (wayD x) := by
  refine rd_tup (k := 1) (w := 40) (fun y hy => ?_) (by decide) ?_
  · obtain ⟨s, hs, rfl⟩ := List.mem_map.mp hy
    exact rd_stp (fun t e => H.inr x hx t (e ▸ hs)) (fun r e => H.outr x hx r (e ▸ hs)) H.r5
  · have := H.len x hx
    rw [List.length_map]
    omega
theorem rd_house {R : Nat} {ws : List (List Stp)} (H : HOk R ws) : Rd K 4 5500 S (houseD R ws) := by
  have h1 : Rd K 3 5000 S (.tup (List.replicate R roomD)) := by
    refine rd_tup (k := 1) (w := 20) (fun y hy => ?_) (by decide) ?_
    · rw [(List.mem_replicate.mp hy).2]
      exact rd_room
    · have := H.r5
      rw [List.length_replicate]
      omega
  have h2 : Rd K 3 5000 S (.tup (ws.map wayD)) := by
    refine rd_tup (k := 2) (w := 984) (fun y hy => ?_) (by decide) ?_
    · obtain ⟨x, hx, rfl⟩ := List.mem_map.mp hy
      exact rd_way H hx
    · have := H.w5
      rw [List.length_map]
      omega
  obtain ⟨p, a1, a2, a3, a4, a5⟩ := h1
  obtain ⟨q, b1, b2, b3, b4, b5⟩ := h2
  -- the house weighs what its two parts weigh
  have wp : p.weight ≤ 105 := by
    obtain ⟨p', c1, c2, c3, c4, c5⟩ : Rd K 3 105 S (.tup (List.replicate R roomD)) := by
      refine rd_tup (k := 1) (w := 20) (fun y hy => ?_) (by decide) ?_
      · rw [(List.mem_replicate.mp hy).2]
        exact rd_room
      · have := H.r5
        rw [List.length_replicate]
        omega
    have e1 := a1 S (Kp.refl _ _) 4 (by decide)
    have e2 := c1 S (Kp.refl _ _) 4 (by decide)
    rw [e1] at e2
    cases e2
    exact c5
  refine ⟨.tuple [p, q], fun S2 kp m hm => ?_, ?_, ?_, ?_, ?_⟩
  · obtain ⟨m, rfl⟩ : ∃ j, m = j + 1 := ⟨m - 1, by omega⟩
    show (allPy (toPy m S2) [.tup (List.replicate R roomD), .tup (ws.map wayD)]).map PyData.tuple = _
    simp only [allPy, a1 S2 kp m (by omega), b1 S2 kp m (by omega)]
    rfl
  · simp only [PyData.canLay0, PyData.canLayAll0, a2, b2, Bool.and_self]
  · simp only [PyData.showable, PyData.showableAll, a3, b3, Bool.and_self]
  · simp only [PyData.depth, PyData.depthAll]
    omega
  · simp only [PyData.weight, PyData.weightAll]
    omega
theorem p_room : opNe roomD (.tup [.str "store", .non]) S = .ok (.bl false) S := by
  have e1 : toPy 60 S roomD = some (.tuple [.str "store", .none]) := rfl
  have e2 : toPy 60 S (.tup [.str "store", .non]) = some (.tuple [.str "store", .none]) := rfl
  have s1 : SeqAt.shaped (.tuple [.str "store", .none]) = true := by decide +kernel
  have e3 : PyData.eqv (.tuple [.str "store", .none]) (.tuple [.str "store", .none]) = true := by simp [PyData.eqv, PyData.eqvAll]
  show opEqP true roomD (.tup [.str "store", .non]) S = _
  unfold opEqP
  simp only [e1, e2, s1, e3, Bool.and_self, if_true]
  rfl
theorem stp_hd (s : Stp) : ∃ x r, s.d = D.tup (.str x :: r) := by
  cases s with
  | out r => exact ⟨_, _, rfl⟩
  | inn t => exact ⟨_, _, rfl⟩
theorem stp_try (s : Stp) : hdTry s.d = false := by
  cases s with
  | out r => exact (by decide +kernel : ((("out" : Str) == "try") = false))
  | inn t => exact (by decide +kernel : ((("in" : Str) == "try") = false))
theorem way_ok {R : Nat} {ws : List (List Stp)} (H : HOk R ws) {x : D} (hx : x ∈ ws.map wayD) : (∀ S', Rd [] 20 5000 S' x) ∧ ∃ ss, x = .tup ss ∧ ss.length ≤ 1000 ∧ (∀ s ∈ ss, ∃ x r, s = D.tup (.str x :: r)) ∧ false = ss.any hdTry := by
  obtain ⟨y, hy, rfl⟩ := List.mem_map.mp hx
  refine ⟨fun S' => (rd_way H hy).le (by decide) (by decide), y.map Stp.d, rfl, ?_, fun s hs => ?_, ?_⟩
  · have := H.len y hy
    rw [List.length_map]
    omega
  · obtain ⟨t, _, rfl⟩ := List.mem_map.mp hs
    exact stp_hd t
  · symm
    rw [List.any_eq_false]
    intro s hs
    obtain ⟨t, _, rfl⟩ := List.mem_map.mp hs
    rw [stp_try]
    decide
theorem r_calm {R : Nat} {ws : List (List Stp)} (H : HOk R ws) : Ok (d_calm [houseD R ws] S) fun r S' => Kp [] S S' := by
  simp [d_calm, b_calm, startD]
  refine Ok.imp (r_is_calm (rooms := List.replicate R roomD) (ways := ws.map wayD) (fun _ => false) (fun _ => false) (fun x hx => ?_) (fun x hx => way_ok H hx) ?_ ?_) ?_
  · rw [(List.mem_replicate.mp hx).2]
    exact ⟨fun S' => p_room, fun S' => rd_room.le (by decide) (by decide)⟩
  · have := H.r5
    simp
    omega
  · have := H.w5
    simp
    omega
  · rintro r S1 ⟨rfl, kp⟩
    have e1 : (List.replicate R roomD).any (fun _ => false) = false := by simp
    have e2 : (ws.map wayD).any (fun _ => false) = false := by simp
    rw [e1, e2]
    simp [kp]
/-! ### ranks -/
theorem blF_list (xs : List D) : xs.filterMap (fun d => some (D.bl (isI d))) = (xs.map isI).map D.bl := by
  induction xs with
  | nil => rfl
  | cons x xs ih => simp [ih]
theorem ok_forR2 {lo hi : Nat} {δ : En} {Q : Po} {g : Tg} {body : DS} (h : lo ≤ hi) (hn : hi ≤ 1000000) (I : Nat → En → Sto → Prop) {a : DA} (hs : Ok (a δ S) fun d S1 => d = [.int (lo : Nat), .int (hi : Nat)] ∧ I lo δ S1)
    (step : ∀ j δ S, lo ≤ j → j < hi → I j δ S → ∃ δ', g.set (.int (j : Nat)) δ = some δ' ∧ OkS (body δ' S) ⟨I (j + 1), Q.rt, Q.nx, I (j + 1)⟩) (done : ∀ δ S, I hi δ S → Q.nx δ S) : OkS (dFor (rng2 a) g body δ S) Q := by
  refine ok_for (s0 := .rng (lo : Nat) (hi : Nat)) (N := hi - lo) (item := fun i => .int ((lo + i : Nat) : Int)) (fun i => I (lo + i)) ?_ (fun i δ S h => ?_) (fun i δ S hi h => ?_) (fun i δ S hi h => step (lo + i) δ S (by omega) (by omega) h) (fun δ S h2 => ?_)
  · rw [o_rng2]
    refine Ok.imp hs fun d S1 ⟨e, h⟩ => ?_
    subst e
    exact ⟨_, _, rfl, inRng_of (by omega) (by omega), inRng_of (by omega) (by omega), rfl, h⟩
  · simp [Src.len]
  · simp [Src.item]
    omega
  · have e : lo + (hi - lo) = hi := by omega
    rw [e] at h2
    exact done δ S h2
theorem r_ranks_error {R : Nat} {ws : List (List Stp)} {rk : List Int} (H : HOk R ws) (hl : rk.length = ws.length) (hd : rk.Nodup) : Ok (d_ranks_error [houseD R ws, ranksD rk] S) fun r S' => r = .non ∧ Kp [] S S' := by
  simp [d_ranks_error, b_ranks_error, startD]
  refine Ok.imp (r_calm H) ?_
  rintro _ S1 kp1
  have w5 := H.w5
  have ixh : ∀ (S : Sto), opIx (houseD R ws) (.int 1) S = .ok (.tup (ws.map wayD)) S := fun S => rfl
  have hl2 : (rk.length : Int) = (ws.length : Int) := by omega
  simp [ixh, ranksD, hl]
  refine ok_lcT (xs := rk.map D.int) (fun d => some (D.bl (isI d))) ?_ (by simp [lim_eq]; omega) ?_ ?_
  · simp [Kp.refl]
  · intro x hx S2 kp2
    obtain ⟨ix, _, rfl⟩ := List.mem_map.mp hx
    simp [wipeD, Kp.refl]
  · intro S2 c kp2 hlc hc
    rw [blF_list] at hc
    have e : ((rk.map D.int).map isI).all id = true := by
      rw [List.all_eq_true]
      intro b hb
      obtain ⟨y, hy, rfl⟩ := List.mem_map.mp hb
      obtain ⟨i, _, rfl⟩ := List.mem_map.mp hy
      rfl
    rw [b_allL hc, e]
    simp
    have k12 := kp1.trans kp2
    refine ok_forR (n := ws.length) (by omega) (fun i δ S' => Kp [] S S' ∧ ∃ v3 v4 v5, δ = [some (houseD R ws), some (ranksD rk), some (.int (ws.length : Nat)), v3, v4, v5]) ?_ ?_ ?_
    · simp [ranksD, k12]
    · rintro i δ S3 hi ⟨kp3, v3, v4, v5, rfl⟩
      refine ⟨_, set_nm, ?_⟩
      have t1 : i + 1 ≤ ws.length := hi
      have t2 : ws.length ≤ 1000000 := by omega
      refine ok_forR2 t1 t2 ?I ?_ ?_ ?_
      case I => exact (fun j δ S' => Kp [] S S' ∧ ∃ v4 v5, δ = [some (houseD R ws), some (ranksD rk), some (.int (ws.length : Nat)), some (.int (i : Nat)), v4, v5])
      · simp [kp3]
      · rintro j δ S4 hj1 hj ⟨kp4, v4, v5, rfl⟩
        obtain ⟨a, ha⟩ : ∃ a, rk[i]? = some a := ⟨_, List.getElem?_eq_getElem (by omega)⟩
        obtain ⟨b, hb⟩ : ∃ a, rk[j]? = some a := ⟨_, List.getElem?_eq_getElem (by omega)⟩
        have e1 : (rk.map D.int)[i]? = some (.int a) := by simp [ha]
        have e2 : (rk.map D.int)[j]? = some (.int b) := by simp [hb]
        have hab : a ≠ b := fun z => by
          subst z
          have h1 : i < rk.length := by omega
          have h2 : j < rk.length := by omega
          rw [List.getElem?_eq_getElem h1] at ha
          rw [List.getElem?_eq_getElem h2] at hb
          have h3 : rk[i] = rk[j] := (Option.some.inj ha).trans (Option.some.inj hb).symm
          exact (List.pairwise_iff_getElem.mp hd) i j h1 h2 (by omega) h3
        simp [ranksD, p_ixT e1, p_ixT e2, hab, kp4]
      · rintro δ S4 ⟨kp4, v4, v5, rfl⟩
        exact ⟨kp4, _, _, _, rfl⟩
    · rintro δ S3 ⟨kp3, v3, v4, v5, rfl⟩
      simp [kp3]
theorem r_ranked {R : Nat} {ws : List (List Stp)} {rk : List Int} (H : HOk R ws) (hl : rk.length = ws.length) (hd : rk.Nodup) : Ok (d_ranked [houseD R ws, ranksD rk] S) fun r S' => Kp [] S S' := by
  simp [d_ranked, b_ranked, startD]
  refine Ok.imp (r_ranks_error H hl hd) ?_
  rintro r S1 ⟨rfl, kp⟩
  simp [kp]
theorem oD_rd {o : Option Int} (h : ∀ i, o = some i → i.natAbs < 2 ^ 127) : Rd K 1 130 S (oD o) := by
  cases o with
  | none => exact rd_non
  | some i => exact (rd_int (k := 1) (w := 130) (b := 126) (h i rfl) (by decide) (by decide))
def Small (ra : List Cap) : Prop := ∀ p ∈ ra, (∀ i, p.1 = some i → i.natAbs < 2 ^ 127) ∧ (∀ i, p.2 = some i → i.natAbs < 2 ^ 127)
theorem rd_raised {ra : List Cap} (hs : Small ra) (hl : ra.length ≤ 5) : Rd K 3 1400 S (raisedD ra) := by
  refine rd_tup (k := 2) (w := 262) (fun y hy => ?_) (by decide) ?_
  · obtain ⟨p, hp, rfl⟩ := List.mem_map.mp hy
    refine rd_tup (k := 1) (w := 130) (fun z hz => ?_) (by decide) (by show 2 * (130 + 1) ≤ 262; decide)
    simp only [List.mem_cons, List.not_mem_nil, or_false] at hz
    rcases hz with rfl | rfl
    · exact oD_rd (hs p hp).1
    · exact oD_rd (hs p hp).2
  · rw [List.length_map]
    omega
theorem raisedOk_raised {ra : List Cap} {R : Nat} (h : ra.length = R) : raisedOk R (raisedD ra) = true := by
  have o : ∀ o, ownOk (oD o) = true := fun o => by cases o <;> rfl
  unfold raisedOk raisedD
  simp only [List.length_map, h, decide_true, Bool.true_and, List.all_map, List.all_eq_true]
  intro p hp
  show (decide (([oD p.1, oD p.2]).length = 2) && ([oD p.1, oD p.2]).all ownOk) = true
  simp [o]
end
end Dn
set_option Elab.async false
set_option linter.all false
set_option maxRecDepth 100000
set_option maxHeartbeats 2000000
/-! Lh_k78: the deck. -/
noncomputable section
namespace Dn
open PySem L2
section
variable {δ : En} {S : Sto} {Q : Po} {P : D → Sto → Prop} {o i v : DE}
@[simp] theorem o_dput {k : Str} : OkS (dDPut o k v δ S) Q = Ok (v δ S) fun d S1 => Ok (o δ S1) fun x S2 => ∃ S4, putAt x (.str k) d S2 = some S4 ∧ Q.nx δ S4 := by
  unfold dDPut
  rw [OkS_then]
  congr
  funext d S1
  rw [OkS_then]
  congr
  funext x S2
  cases putAt x (.str k) d S2 <;> simp
def putI (x y d : D) (S : Sto) : Option Sto := match y with
  | .int j => putAt x (.int j) d S
  | y => dikPut x y d S
@[simp] theorem o_iput : OkS (dIPut o i v δ S) Q = Ok (v δ S) fun d S1 => Ok (o δ S1) fun x S2 => Ok (i δ S2) fun y S3 => ∃ S4, putI x y d S3 = some S4 ∧ Q.nx δ S4 := by
  unfold dIPut
  rw [OkS_then]
  congr
  funext d S1
  rw [OkS_then]
  congr
  funext x S2
  rw [OkS_then]
  congr
  funext y S3
  unfold putI
  cases y with
  | int j => cases h : putAt x (.int j) d S3 <;> simp [h]
  | _ => dsimp only; cases h : dikPut x _ d S3 <;> simp
theorem allPy_ints {n : Nat} : ∀ l : List Int, allPy (toPy (n + 1) S) (l.map D.int) = some (l.map PyData.int)
  | [] => rfl
  | i :: l => by
    have ih := allPy_ints (n := n) l
    rw [List.map_cons, List.map_cons]
    unfold allPy
    rw [ih]
    rfl
theorem ints_lay : ∀ l : List Int, PyData.canLayAll0 (l.map PyData.int) = true ∧ PyData.depthAll (l.map PyData.int) = 0
  | [] => ⟨rfl, rfl⟩
  | i :: l => by
    obtain ⟨h1, h2⟩ := ints_lay l
    rw [List.map_cons]
    refine ⟨?_, ?_⟩
    · simp only [PyData.canLayAll0, PyData.canLay0, h1, Bool.and_self]
    · simp only [PyData.depthAll, PyData.depth, h2]
      rfl
/-- a list of any ints and the empty one -/
theorem eqI_nil {neg : Bool} {c c2 : Nat} {l : List Int} (hc : S[c]? = some (.lst (l.map D.int))) (hc2 : S[c2]? = some (.lst [])) : opEqG neg (.cell c) (.cell c2) S = .ok (.bl (if neg then !l.isEmpty else l.isEmpty)) S := by
  have e1 : toPy 60 S (.cell c) = some (.list (l.map PyData.int)) := by
    unfold toPy
    simp only [hc, allPy_ints (n := 58) l]
    rfl
  have e2 : toPy 60 S (.cell c2) = some (.list []) := by
    unfold toPy
    simp only [hc2]
    rfl
  obtain ⟨l1, l2⟩ := ints_lay l
  show opEqP neg (.cell c) (.cell c2) S = _
  unfold opEqP
  have s1 : SeqAt.shaped (.list (l.map PyData.int)) = true := by
    have hd : PyData.depth (.list (l.map PyData.int)) ≤ 64 := by
      simp only [PyData.depth]
      omega
    have hl : PyData.canLay0 (.list (l.map PyData.int)) = true := by simpa only [PyData.canLay0] using l1
    unfold SeqAt.shaped
    rw [hl, decide_eq_true hd]
    rfl
  have s2 : SeqAt.shaped (.list []) = true := by decide
  have e3 : PyData.eqv (.list (l.map PyData.int)) (.list []) = l.isEmpty := by
    cases l with
    | nil => simp [PyData.eqv, PyData.eqvAll]
    | cons x xs => simp [PyData.eqv, PyData.eqvAll]
  simp only [e1, e2, s1, s2, e3, Bool.and_self, if_true]
theorem p_neI0 {c c2 : Nat} {l : List Int} (hc : S[c]? = some (.lst (l.map D.int))) (hc2 : S[c2]? = some (.lst [])) : opNe (.cell c) (.cell c2) S = .ok (.bl (!l.isEmpty)) S := eqI_nil (neg := true) hc hc2
theorem p_eqI0 {c c2 : Nat} {l : List Int} (hc : S[c]? = some (.lst (l.map D.int))) (hc2 : S[c2]? = some (.lst [])) : opEq (.cell c) (.cell c2) S = .ok (.bl l.isEmpty) S := eqI_nil (neg := false) hc hc2
end
/-! ### the deck -/
def dk (kg : Nat) (m t : Int) : List (Key × D) := [(.inr "great", .cell kg), (.inr "mixed", .int m), (.inr "turns", .int t)]
theorem n_gm : ¬ (("great" : Str) = "mixed") := by decide +kernel
theorem n_gt : ¬ (("great" : Str) = "turns") := by decide +kernel
theorem n_mt : ¬ (("mixed" : Str) = "turns") := by decide +kernel
theorem n_mg : ¬ (("mixed" : Str) = "great") := by decide +kernel
theorem n_tg : ¬ (("turns" : Str) = "great") := by decide +kernel
theorem n_tm : ¬ (("turns" : Str) = "mixed") := by decide +kernel
theorem dk_g {kg : Nat} {m t : Int} : valD (dk kg m t) (.inr "great") = some (.cell kg) := by simp [valD, dk]
theorem dk_m {kg : Nat} {m t : Int} : valD (dk kg m t) (.inr "mixed") = some (.int m) := by simp [valD, dk, List.find?_cons, n_gm]
theorem dk_t {kg : Nat} {m t : Int} : valD (dk kg m t) (.inr "turns") = some (.int t) := by simp [valD, dk, List.find?_cons, n_gt, n_mt]
theorem dk_pm {kg : Nat} {m t x : Int} : putD (dk kg m t) (.inr "mixed") (.int x) = dk kg x t := by simp [putD, dk, n_gm, n_tm]
theorem dk_pt {kg : Nat} {m t x : Int} : putD (dk kg m t) (.inr "turns") (.int x) = dk kg m x := by simp [putD, dk, n_gt, n_mt]
structure Deck (kd kg : Nat) (S : Sto) : Prop where
  ne : kd ≠ kg
  ex : ∃ (m t : Int) (gs : List Int), S[kd]? = some (.dic (dk kg m t)) ∧ S[kg]? = some (.lst (gs.map D.int)) ∧ gs.length ≤ 100 ∧ ∀ g ∈ gs, 0 ≤ g
section
variable {S S' : Sto} {kd kg : Nat}
theorem Deck.keep (h : Deck kd kg S) (k : ∀ n c, (n = kd ∨ n = kg) → S[n]? = some c → S'[n]? = some c) : Deck kd kg S' := by
  obtain ⟨ne, m, t, gs, h1, h2, h3, h4⟩ := h
  exact ⟨ne, m, t, gs, k _ _ (.inl rfl) h1, k _ _ (.inr rfl) h2, h3, h4⟩
theorem Deck.kp (h : Deck kd kg S) (k : Kp [] S S') : Deck kd kg S' := h.keep fun n c _ e => k.get n c (by simp) e
theorem Deck.push (h : Deck kd kg S) (T : Sto) : Deck kd kg (S ++ T) := h.kp (Kp.app _ _ _)
theorem Deck.set (h : Deck kd kg S) {c : Nat} (hc : c ∉ [kd, kg]) (x : C) : Deck kd kg (S.set c x) := h.keep fun n c' hn e => by
  have : c ≠ n := fun z => hc (by rcases hn with rfl | rfl <;> simp [z])
  rw [List.getElem?_set_ne this]
  exact e
theorem Deck.lt (h : Deck kd kg S) : kd < S.length ∧ kg < S.length := by
  obtain ⟨ne, m, t, gs, h1, h2, _⟩ := h
  exact ⟨lt_of_get h1, lt_of_get h2⟩
theorem Deck.fresh (h : Deck kd kg S) {c : Nat} (hc : S.length ≤ c) : c ∉ [kd, kg] := by
  have := h.lt
  simp
  omega
theorem opDG {n : Nat} {kvs : List (Key × D)} {k : Str} {d : D} (h : S[n]? = some (.dic kvs)) (hv : valD kvs (.inr k) = some d) : opDGet (.cell n) (.str k) S = .ok d S := by
  unfold opDGet
  simp only [h, hv]
theorem putA {n : Nat} {kvs : List (Key × D)} {k : Str} {d : D} (h : S[n]? = some (.dic kvs)) (hl : kvs.length < lim) : putAt (.cell n) (.str k) d S = some (S.set n (.dic (putD kvs (.inr k) d))) := by
  unfold putAt
  simp only [h, hl, if_true]
theorem fmod_nat {x : Int} {n : Nat} (hn : 0 < n) : ∃ i : Nat, x.fmod (n : Int) = (i : Int) ∧ i < n := by
  have h1 : 0 ≤ x.fmod (n : Int) := Int.fmod_nonneg_of_pos x (by omega)
  have h2 : x.fmod (n : Int) < n := Int.fmod_lt_of_pos x (by omega)
  exact ⟨(x.fmod n).toNat, by omega, by omega⟩
theorem fmodI {x m : Int} (hm : 0 < m) : ∃ i : Nat, x.fmod m = (i : Int) ∧ (i : Int) < m := by
  have h1 : 0 ≤ x.fmod m := Int.fmod_nonneg_of_pos x hm
  have h2 : x.fmod m < m := Int.fmod_lt_of_pos x hm
  exact ⟨(x.fmod m).toNat, by omega, by omega⟩
theorem mb1 : (-(2 ^ 64) : Int) < 2654435761 ∧ (2654435761 : Int) < 2 ^ 64 := ⟨by omega, by omega⟩
theorem mb2 : (-(2 ^ 64) : Int) < 40692 ∧ (40692 : Int) < 2 ^ 64 := ⟨by omega, by omega⟩
theorem mb3 : (-(2 ^ 64) : Int) < 11 ∧ (11 : Int) < 2 ^ 64 := ⟨by omega, by omega⟩
theorem mz1 : (4294967279 : Int) ≠ 0 := by omega
theorem mz2 : (4294967231 : Int) ≠ 0 := by omega
theorem mz3 : (4294967197 : Int) ≠ 0 := by omega
theorem mp1 : (0 : Int) < 4294967279 := by omega
theorem mp2 : (0 : Int) < 4294967231 := by omega
theorem mp3 : (0 : Int) < 4294967197 := by omega
theorem ml1 {i : Nat} (h : (i : Int) < 4294967279) : (-(2 ^ 64) : Int) < i ∧ (i : Int) < 2 ^ 64 := ⟨by omega, by omega⟩
theorem ml2 {i : Nat} (h : (i : Int) < 4294967231) : (-(2 ^ 64) : Int) < i ∧ (i : Int) < 2 ^ 64 := ⟨by omega, by omega⟩
theorem mz64 : (64 : Int) ≠ 0 ∧ (64 : Int).natAbs < 1073741824 := ⟨by omega, by omega⟩
abbrev Dw (kd kg : Nat) (S S' : Sto) : Prop := Deck kd kg S' ∧ Kp [kd, kg] S S'
theorem r_draw (Dk : Deck kd kg S) {n : Nat} (hn : n ≤ 1000000) : Ok (d_law_draw [.cell kd, .int (n : Nat)] S) fun r S' => ∃ i : Nat, r = .int (i : Nat) ∧ (1 ≤ n → i < n) ∧ (i < n ∨ i = 0) ∧ Dw kd kg S S' := by
  by_cases h2 : n < 2
  · have h2' : (n : Int) < 2 := by omega
    simp [d_law_draw, b_law_draw, startD, h2']
    refine ⟨0, rfl, by omega, .inr rfl, Dk, Kp.refl _ _⟩
  · have h2' : ¬ (n : Int) < 2 := by omega
    obtain ⟨ne, m, t, gs, e1, e2, hl, hg⟩ := id Dk
    have hn0 : ((n : Int)) ≠ 0 := by omega
    simp [d_law_draw, b_law_draw, startD, h2', lim_eq]
    rw [opDG e1 dk_g]
    have e1' : (S ++ [C.lst []])[kd]? = some (.dic (dk kg m t)) := (Kp.app [] S _).get _ _ (by simp) e1
    have e2' : (S ++ [C.lst []])[kg]? = some (.lst (gs.map D.int)) := (Kp.app [] S _).get _ _ (by simp) e2
    have k0 : Kp [kd, kg] S (S ++ [C.lst []]) := Kp.app _ _ _
    simp [p_neI0 e2' (get_push S _)]
    by_cases hgs : gs = []
    · subst hgs
      simp
      have hA := mb1
      have hB := mb2
      have hC := mb3
      have hM1 := mz1
      have hM2 := mz2
      have hM3 := mz3
      have hP1 := mp1
      have hP2 := mp2
      have hL1 := @ml1
      have hL2 := @ml2
      have hZ := mz64
      generalize (2654435761 : Int) = A at *
      generalize (40692 : Int) = B at *
      generalize (11 : Int) = CC at *
      generalize (4294967279 : Int) = M1 at *
      generalize (4294967231 : Int) = M2 at *
      generalize (4294967197 : Int) = M3 at *
      generalize (64 : Int) = Z at *
      generalize S ++ [C.lst []] = S1 at *
      simp [opDG e1' dk_t]
      have pt := putA (k := "turns") (d := .int (t + 1)) e1' (by simp [dk, lim_eq])
      rw [dk_pt] at pt
      refine ⟨_, pt, ?_⟩
      have e3 : (S1.set kd (.dic (dk kg m (t + 1))))[kd]? = some (.dic (dk kg m (t + 1))) := get_set e1'
      have e4 : (S1.set kd (.dic (dk kg m (t + 1))))[kg]? = some (.lst (([] : List Int).map D.int)) := by
        rw [List.getElem?_set_ne ne]
        exact e2'
      have k1 : Kp [kd, kg] S (S1.set kd (.dic (dk kg m (t + 1)))) := k0.set (.inr (by simp)) _
      have D1 : Deck kd kg (S1.set kd (.dic (dk kg m (t + 1)))) := ⟨ne, m, t + 1, [], e3, e4, by simp, by simp⟩
      generalize S1.set kd (.dic (dk kg m (t + 1))) = S2 at *
      rw [opDG e3 dk_m, Ok_ok, opDG e3 dk_t, Ok_ok, p_mul (.inl hA), Ok_ok, p_add, Ok_ok, b_intI, Ok_ok, p_mod hM1, Ok_ok]
      obtain ⟨n1, g1, g2⟩ := fmodI (x := m + A * (t + 1)) hP1
      rw [g1, p_mul (.inl (hL1 g2)), Ok_ok, opDG e3 dk_t, Ok_ok, p_mul (.inl hB), Ok_ok, p_add, Ok_ok, p_add, Ok_ok, b_intI, Ok_ok, p_mod hM2, Ok_ok]
      obtain ⟨n2, g3, g4⟩ := fmodI (x := (n1 : Int) * n1 + B * (t + 1) + 23) hP2
      rw [g3, p_mul (.inl (hL2 g4)), Ok_ok, opDG e3 dk_m, Ok_ok, p_mul (.inr hC), Ok_ok, p_add, Ok_ok, b_intI, Ok_ok, p_mod hM3, Ok_ok, p_fdiv hZ.1 hZ.2, Ok_ok, b_intI, Ok_ok, p_mod hn0, Ok_ok]
      obtain ⟨i, h5, h6⟩ := fmod_nat (x := ((((n2 : Int) * n2 + m * CC).fmod M3).fdiv Z)) (n := n) (by omega)
      exact ⟨i, by rw [h5], fun _ => h6, .inl h6, D1, k1⟩
    · obtain ⟨l, g, hlg⟩ : ∃ l g, gs = l ++ [g] := ⟨gs.dropLast, gs.getLast hgs, (List.dropLast_concat_getLast hgs).symm⟩
      subst hlg
      have g0 : 0 ≤ g := hg g (by simp)
      have hll : l.length < 100 := by simp at hl; omega
      have hg' : ∀ x ∈ l, 0 ≤ x := fun x hx => hg x (by simp [hx])
      simp
      generalize S ++ [C.lst []] = S1 at *
      have e2'' : S1[kg]? = some (.lst (l.map D.int ++ [.int g])) := by rw [e2']; simp
      simp [opDG e1' dk_g, isL_cell e2'', m_pop e2'']
      have e3 : (S1.set kg (.lst (l.map D.int)))[kg]? = some (.lst (l.map D.int)) := get_set e2''
      have e4 : (S1.set kg (.lst (l.map D.int)))[kd]? = some (.dic (dk kg m t)) := by
        rw [List.getElem?_set_ne (Ne.symm ne)]
        exact e1'
      have k1 : Kp [kd, kg] S (S1.set kg (.lst (l.map D.int))) := k0.set (.inr (by simp)) _
      generalize S1.set kg (.lst (l.map D.int)) = S2 at *
      obtain ⟨i, h5, h6⟩ := fmod_nat (x := g) (n := n) (by omega)
      by_cases hgn : (n : Int) ≤ g
      · have hgn2 : ¬ g < (n : Int) := by omega
        simp [hgn, hgn2, opDG e4 dk_g, isL_cell e3, p_fdiv hn0 (by omega : (n : Int).natAbs < 1073741824)]
        rw [m_app e3 (by simp [lim_eq]; omega)]
        simp [p_mod hn0]
        have e5 : (S2.set kg (.lst (l.map D.int ++ [.int (g.fdiv n)])))[kg]? = some (.lst ((l ++ [g.fdiv n]).map D.int)) := by
          rw [get_set e3]
          simp
        have e6 : (S2.set kg (.lst (l.map D.int ++ [.int (g.fdiv n)])))[kd]? = some (.dic (dk kg m t)) := by
          rw [List.getElem?_set_ne (Ne.symm ne)]
          exact e4
        refine ⟨i, h5, fun _ => h6, .inl h6, ⟨ne, m, t, _, e6, e5, by simp; omega, fun x hx => ?_⟩, k1.set (.inr (by simp)) _⟩
        rcases List.mem_append.mp hx with hx | hx
        · exact hg' x hx
        · rw [List.mem_singleton.mp hx]
          exact Int.fdiv_nonneg g0 (by omega)
      · have hgn2 : g < (n : Int) := by omega
        simp [hgn, hgn2, p_mod hn0]
        exact ⟨i, h5, fun _ => h6, .inl h6, ⟨ne, m, t, l, e4, e3, by omega, hg'⟩, k1⟩
theorem r_pick (Dk : Deck kd kg S) {c : Nat} {xs : List D} (hc : S[c]? = some (.lst xs)) (hn : c ∉ [kd, kg]) (hne : xs ≠ []) (hl : xs.length ≤ 1000) : Ok (d_law_pick [.cell kd, .cell c] S) fun r S' => r ∈ xs ∧ Dw kd kg S S' := by
  have hpos : 1 ≤ xs.length := List.length_pos_iff.mpr hne
  simp [d_law_pick, b_law_pick, startD, b_lenL hc]
  refine Ok.imp (r_draw Dk (n := xs.length) (by omega)) ?_
  rintro r S1 ⟨i, rfl, hi, _, D1, k1⟩
  have hi' := hi hpos
  rw [p_ixL (k1.get _ _ hn hc) (List.getElem?_eq_getElem hi')]
  simp
  exact ⟨D1, k1⟩
end
end Dn
set_option Elab.async false
set_option linter.all false
set_option maxRecDepth 100000
set_option maxHeartbeats 2000000
/-! Li_k78: the deck laid, any value. -/
noncomputable section
namespace Dn
open PySem L2
section
variable {δ : En} {S : Sto} {P : D → Sto → Prop}
theorem o_disp {l : List (Str × DE)} : Ok (dDisp l δ S) P = Ok (dPairs l δ (S ++ [.dic []])) fun kvs S1 => S1[S.length]? = some (.dic []) ∧ kvs.length ≤ 15 ∧ P (.cell S.length) (S1.set S.length (.dic (mergeD [] kvs))) := by
  unfold dDisp
  rw [Ok_bnd]
  congr
  funext kvs S1
  apply propext
  constructor
  · intro h
    split at h
    · rename_i e
      split at h
      · rename_i hl
        exact ⟨e, hl, h⟩
      · exact h.elim
    · exact h.elim
  · rintro ⟨e, hl, h⟩
    simp only [e, hl, if_true]
    exact h
theorem o_pnil {P : List (Key × D) → Sto → Prop} : Ok (dPairs [] δ S) P = P [] S := rfl
theorem o_pcons {k : Str} {e : DE} {r : List (Str × DE)} {P : List (Key × D) → Sto → Prop} : Ok (dPairs ((k, e) :: r) δ S) P = Ok (e δ S) fun d S1 => Ok (dPairs r δ S1) fun ds S2 => P ((.inr k, d) :: ds) S2 := by
  show Ok ((e δ S).bnd _) P = _
  rw [Ok_bnd]
  congr
  funext d S1
  rw [Ok_bnd]
  rfl
theorem o_slRo {xs : List D} {lo hi : Option Int} : Ok (opSl (.ro xs) lo hi S) P = P (.cell S.length) (S ++ [.lst (cutD xs lo hi)]) := rfl
end
theorem merge3 {g m t : D} : mergeD [] [((Sum.inr ("great" : Str) : Key), g), ((Sum.inr ("mixed" : Str) : Key), m), ((Sum.inr ("turns" : Str) : Key), t)] = [((Sum.inr ("great" : Str) : Key), g), ((Sum.inr ("mixed" : Str) : Key), m), ((Sum.inr ("turns" : Str) : Key), t)] := by
  simp [mergeD, putD, n_gm, n_gt, n_mt]
theorem mb4 : (-(2 ^ 64) : Int) < 2 ∧ (2 : Int) < 2 ^ 64 := ⟨by omega, by omega⟩
theorem mb5 : (-(2 ^ 64) : Int) < 69621 ∧ (69621 : Int) < 2 ^ 64 := ⟨by omega, by omega⟩
theorem mz4 : (4294967291 : Int) ≠ 0 := by omega
theorem mpw : (0 : Int) ≤ 16 ∧ (16 : Int) ≤ 1000000 ∧ (10 : Int).natAbs < 2 ^ 64 := ⟨by omega, by omega, by decide⟩
theorem r_law_deck {ns : List Int} : Ok (d_law_deck [.ro (ns.map D.int)] []) fun r S' => r = .cell 0 ∧ Deck 0 1 S' := by
  have e63 : cutD (ns.map D.int) none (some 63) = (ns.take 63).map D.int := by
    have := cut_to (xs := ns.map D.int) (k := 63)
    rw [List.map_take]
    exact this
  simp only [d_law_deck, b_law_deck, startD, o_fn, o_seq, o_set, o_disp, o_pcons, o_pnil]
  simp [o_slRo, e63, lim_eq]
  have hb : bLen [.cell 2] [C.dic [], C.lst [], C.lst (List.take 63 (List.map D.int ns))] = .ok (.int (List.take 63 (List.map D.int ns)).length) [C.dic [], C.lst [], C.lst (List.take 63 (List.map D.int ns))] := b_lenL rfl
  rw [hb, Ok_ok, p_add, Ok_ok]
  generalize (1591378 : Int) + _ = m0
  rw [merge3]
  refine ⟨rfl, ?_⟩
  refine ok_forL (xs := (ns.take 63).map D.int) (c := 3) (fun i δ S' => S'[3]? = some (.lst ((ns.take 63).map D.int)) ∧ (∃ v2 v3, δ = [some (.ro (ns.map D.int)), some (.cell 0), v2, v3]) ∧ ∃ (m : Int) (gs : List Int), S'[0]? = some (.dic (dk 1 m 0)) ∧ S'[1]? = some (.lst (gs.map D.int)) ∧ gs.length ≤ i ∧ ∀ g ∈ gs, 0 ≤ g) ?_ (fun i δ S' h => h.1) ?_ ?_
  · simp [o_slRo, e63]
    exact ⟨m0, rfl⟩
  · rintro i δ S1 x hx ⟨h3, ⟨v2, v3, rfl⟩, m, gs, h0, h1, hl, hg⟩
    obtain ⟨z, hz, rfl⟩ := map_get hx
    have hi : i < 63 := by
      have := (List.getElem?_eq_some_iff.mp hz).1
      simp at this
      omega
    refine ⟨_, set_nm, ?_⟩
    simp
    generalize hA : (if z < 0 then -z else z) = az
    have haz : 0 ≤ az := by
      rw [← hA]
      split <;> omega
    generalize hB : (if z < 0 then (1 : Int) else 0) = bz
    have hbz : 0 ≤ bz := by
      rw [← hB]
      split <;> omega
    rw [p_mul (.inl mb4), Ok_ok, p_add, Ok_ok]
    generalize hO : 2 * az + bz = own
    have hown : 0 ≤ own := by omega
    simp only [p_pow mpw, Ok_ok, p_ge]
    generalize (10 : Int) ^ ((16 : Int).toNat) = big
    -- the rest, from either side
    have tail : ∀ (S2 : Sto) (gs2 : List Int), S2[3]? = some (.lst ((ns.take 63).map D.int)) → S2[0]? = some (.dic (dk 1 m 0)) → S2[1]? = some (.lst (gs2.map D.int)) → gs2.length ≤ i + 1 → (∀ g ∈ gs2, 0 ≤ g) →
        Ok (opDGet (.cell 0) (.str "mixed") S2) fun x S2 => Ok (opMul x (.int 69621) S2) fun x S1 => Ok (opAdd x (.int own) S1) fun x S1 => Ok (opAdd x (.int 29) S1) fun x S1 => Ok (bInt [x] S1) fun x S1 => Ok (opMod x (.int 4294967291) S1) fun d S1 => ∃ S4, putAt (.cell 0) (.str "mixed") d S1 = some S4 ∧
          S4[3]? = some (.lst (List.take 63 (List.map D.int ns))) ∧ (∃ (m : Int), S4[0]? = some (.dic (dk 1 m 0))) ∧ ∃ gs : List Int, S4[1]? = some (.lst (gs.map D.int)) ∧ gs.length ≤ i + 1 ∧ ∀ g ∈ gs, 0 ≤ g := by
      intro S2 gs2 g3 g0 g1 gl gg
      rw [opDG g0 dk_m, Ok_ok, p_mul (.inr mb5), Ok_ok, p_add, Ok_ok, p_add, Ok_ok, b_intI, Ok_ok, p_mod mz4, Ok_ok]
      have pt := putA (k := "mixed") (d := .int ((m * 69621 + own + 29).fmod 4294967291)) g0 (by simp [dk, lim_eq])
      rw [dk_pm] at pt
      refine ⟨_, pt, ?_, ⟨_, get_set g0⟩, gs2, ?_, gl, gg⟩
      · rw [List.getElem?_set_ne (by decide), ← List.map_take]
        exact g3
      · rw [List.getElem?_set_ne (by decide)]
        exact g1
    by_cases hb : big ≤ own
    · simp [hb, opDG h0 dk_g, isL_cell h1]
      rw [m_app h1 (by simp [lim_eq]; omega)]
      simp
      refine tail _ (gs ++ [own]) ?_ ?_ ?_ (by simp; omega) ?_
      · rw [List.getElem?_set_ne (by decide)]
        exact h3
      · rw [List.getElem?_set_ne (by decide)]
        exact h0
      · rw [get_set h1]
        simp
      · intro g hg2
        rcases List.mem_append.mp hg2 with hg2 | hg2
        · exact hg g hg2
        · rw [List.mem_singleton.mp hg2]
          exact hown
    · simp [hb]
      exact tail S1 gs h3 h0 h1 (by omega) hg
  · rintro δ S1 ⟨h3, ⟨v2, v3, rfl⟩, m, gs, h0, h1, hl, hg⟩
    simp
    refine ⟨by decide, m, 0, gs, h0, h1, ?_, hg⟩
    simp at hl
    omega
end Dn
set_option Elab.async false
set_option linter.all false
set_option maxRecDepth 100000
set_option maxHeartbeats 2000000
/-! Lj_k78: any value. -/
noncomputable section
namespace Dn
open PySem L2
def wAny : Nat → Nat
  | 0 => 61
  | n + 1 => 3 * (wAny n + 1)
theorem wAny_ge : ∀ n, 61 ≤ wAny n
  | 0 => Nat.le_refl _
  | n + 1 => by
    have := wAny_ge n
    show 61 ≤ 3 * (wAny n + 1)
    omega
theorem mpw18 : (0 : Int) ≤ 18 ∧ (18 : Int) ≤ 1000000 ∧ (10 : Int).natAbs < 2 ^ 64 := ⟨by omega, by omega, by decide⟩
theorem big18 : ((10 : Int) ^ ((18 : Int).toNat)).natAbs < 2 ^ 61 := by decide +kernel
theorem Kp.sub {K K0 : List Nat} {S S' : Sto} (h : Kp K S S') (hs : ∀ c ∈ K, c ∈ K0) : Kp K0 S S' := ⟨h.le, fun n c hn e => h.get n c (fun z => hn (hs n z)) e⟩
theorem Rd.anti {K K0 : List Nat} {k w : Nat} {S : Sto} {d : D} (h : Rd K0 k w S d) (hs : ∀ c ∈ K, c ∈ K0) : Rd K k w S d := by
  obtain ⟨p, h1, h2⟩ := h
  exact ⟨p, fun S' kp m hm => h1 S' (kp.sub hs) m hm, h2⟩
section
variable {kd kg : Nat}
end
end Dn
set_option Elab.async false
set_option linter.all false
set_option maxRecDepth 100000
set_option maxHeartbeats 2000000
/-! Lm_k78: ways drawn. -/
noncomputable section
namespace Dn
open PySem L2
structure ModesAt (K : List Nat) (S : Sto) (cm R : Nat) : Prop where
  ex : ∃ ms : List Nat, cm ∉ K ∧ S[cm]? = some (.lst (ms.map D.cell)) ∧ ms.length = R ∧ ∀ c ∈ ms, c ∉ K ∧ ∃ bs : List Bool, bs ≠ [] ∧ bs.length ≤ 2 ∧ S[c]? = some (.lst (bs.map mD))
theorem ModesAt.mono {K : List Nat} {S S' : Sto} {cm R : Nat} (h : ModesAt K S cm R) (k : Kp K S S') : ModesAt K S' cm R := by
  obtain ⟨ms, h1, h2, h3, h4⟩ := h
  exact ⟨ms, h1, k.get _ _ h1 h2, h3, fun c hc => let ⟨a, bs, b, l, e⟩ := h4 c hc; ⟨a, bs, b, l, k.get _ _ a e⟩⟩
structure WayOk (R : Nat) (w : List Stp) : Prop where
  nest : Nest w
  inr : InR R w
  outr : ∀ r, Stp.out r ∈ w → r < R
def insD (w : List Stp) : List D := (heldT w w.length).map fun t => D.int (t.1 : Nat)
theorem heldT_app (w : List Stp) (s : Stp) : heldT (w ++ [s]) (w.length + 1) = pushT (heldT w w.length) s := by
  unfold heldT
  rw [List.take_of_length_le (by simp), List.take_of_length_le (Nat.le_refl _), List.foldl_append]
  rfl
theorem heldT_pre (w : List Stp) (s : Stp) {k : Nat} (h : k ≤ w.length) : heldT (w ++ [s]) k = heldT w k := by
  unfold heldT
  rw [List.take_append_of_le_length h]
theorem WayOk.app {R : Nat} {w : List Stp} (h : WayOk R w) {s : Stp} (h1 : ∀ r, s = .out r → heldT w w.length ≠ [] ∧ r < R) (h2 : ∀ t, s = .inn t → t.1 < R) : WayOk R (w ++ [s]) := by
  refine ⟨fun k r e => ?_, fun t ht => ?_, fun r hr => ?_⟩
  · by_cases hk : k < w.length
    · rw [List.getElem?_append_left hk] at e
      rw [heldT_pre w s (by omega)]
      exact h.nest k r e
    · rw [List.getElem?_append_right (by omega)] at e
      have : k - w.length = 0 := by
        have := (List.getElem?_eq_some_iff.mp e).1
        simp at this
        omega
      rw [this] at e
      have hk2 : k = w.length := by omega
      rw [hk2, heldT_pre w s (Nat.le_refl _)]
      exact (h1 r (by simpa using e)).1
  · rcases List.mem_append.mp ht with ht | ht
    · exact h.inr t ht
    · exact h2 t (List.mem_singleton.mp ht).symm
  · rcases List.mem_append.mp hr with hr | hr
    · exact h.outr r hr
    · exact (h1 r (List.mem_singleton.mp hr).symm).2
def freeF (ins : List D) (d : D) : Option D := if inD d ins = true then none else some d
def freeD (R : Nat) (ins : List D) : List D := ((List.range R).map fun i => D.int (i : Nat)).filterMap (freeF ins)
theorem free_mem {R : Nat} {ins : List D} {x : D} (h : x ∈ freeD R ins) : ∃ i, i < R ∧ x = .int (i : Nat) := by
  obtain ⟨a, h1, h2⟩ := List.mem_filterMap.mp h
  obtain ⟨i, h3, rfl⟩ := List.mem_map.mp h1
  unfold freeF at h2
  split at h2
  · cases h2
  · cases h2
    exact ⟨i, List.mem_range.mp h3, rfl⟩
theorem free_nil {R : Nat} (h : 1 ≤ R) : freeD R [] ≠ [] := by
  obtain ⟨n, rfl⟩ : ∃ n, R = n + 1 := ⟨R - 1, by omega⟩
  unfold freeD
  rw [List.range_succ_eq_map]
  simp [freeF, inD]
theorem free_len {R : Nat} {ins : List D} : (freeD R ins).length ≤ R := by
  have := List.length_filterMap_le (freeF ins) ((List.range R).map fun i => D.int (i : Nat))
  rw [List.length_map, List.length_range] at this
  exact this
theorem ins_mem {R : Nat} {w : List Stp} (h : InR R w) {x : D} (hx : x ∈ insD w) : ∃ i, i < R ∧ x = .int (i : Nat) := by
  obtain ⟨t, ht, rfl⟩ := List.mem_map.mp hx
  exact ⟨t.1, h t (heldT_mem _ _ ht), rfl⟩
theorem rd_small {K : List Nat} {S : Sto} {R : Nat} (hR : R ≤ 5) {x : D} (h : ∃ i, i < R ∧ x = .int (i : Nat)) : Rd K 0 4 S x := by
  obtain ⟨i, hi, rfl⟩ := h
  exact rd_int (b := 3) (by omega) (by decide) (by decide)
section
variable {S S' : Sto} {kd kg : Nat}
theorem r_law_way (Dk : Deck kd kg S) {cm R most : Nat} (M : ModesAt [kd, kg] S cm R) (h1 : 1 ≤ R) (h5 : R ≤ 5) (hm2 : 2 ≤ most) (hm24 : most ≤ 24) :
    Ok (d_law_way [.cell kd, .cell cm, .int (most : Nat), .bl false] S) fun r S' => Dw kd kg S S' ∧ ∃ w, r = wayD w ∧ WayOk R w ∧ 1 ≤ w.length ∧ w.length ≤ most := by
  have hf : (most : Int).fdiv 2 = ((most / 2 : Nat) : Int) := by
    have := Int.ofNat_fdiv most 2
    exact this.symm
  have lk := Dk.lt
  simp only [d_law_way, b_law_way, startD, o_fn]
  refine ⟨rfl, ?_⟩
  rw [o_seq, o_asg]
  simp [lim_eq]
  rw [p_fdiv (by decide) (by decide), Ok_ok, hf]
  have D0 : Deck kd kg (S ++ [C.lst [], C.lst []]) := Dk.push _
  have k0 : Kp [kd, kg] S (S ++ [C.lst [], C.lst []]) := Kp.app _ _ _
  refine Ok.imp (r_draw D0 (n := most / 2) (by omega)) ?_
  intro r S1 h
  obtain ⟨i, h1, hi, _, D1, k1⟩ := h
  subst h1
  have hi2 := hi (by omega)
  rw [p_mul (.inl mb4), Ok_ok, p_add, Ok_ok]
  have em : (2 : Int) + 2 * (i : Int) = ((2 + 2 * i : Nat) : Int) := by omega
  rw [em]
  generalize hmany : 2 + 2 * i = many
  have hmany2 : 2 ≤ many ∧ many ≤ 24 ∧ many ≤ most := by omega
  have fw : S.length ∉ [kd, kg] := Dk.fresh (Nat.le_refl _)
  have fi : S.length + 1 ∉ [kd, kg] := Dk.fresh (by omega)
  have hw0 : S1[S.length]? = some (.lst []) := k1.get _ _ fw (by simp)
  have hi0 : S1[S.length + 1]? = some (.lst []) := k1.get _ _ fi (by rw [List.getElem?_append_right (by omega)]; simp)
  refine ok_forR (n := many) (by omega) (fun t δ S' => Deck kd kg S' ∧ Kp [kd, kg] S S' ∧ ∃ w v7 v8 v9 v10 v11, δ = [some (.cell kd), some (.cell cm), some (.int (most : Nat)), some (.bl false), some (.cell S.length), some (.cell (S.length + 1)), some (.int (many : Nat)), v7, v8, v9, v10, v11] ∧
    S'[S.length]? = some (.lst (w.map Stp.d)) ∧ S'[S.length + 1]? = some (.lst (insD w)) ∧ w.length = t ∧ WayOk R w) ?_ ?_ ?_
  · simp
    exact ⟨D1, k0.trans k1, [], hw0, hi0, rfl, ⟨fun k r h => by simp at h, fun t h => by simp at h, fun r h => by simp at h⟩⟩
  · rintro t δ S2 ht ⟨D2, k2, w, v7, v8, v9, v10, v11, rfl, hw, hin, hl, W⟩
    have M2 := M.mono k2
    obtain ⟨ms, m1, m2, m3, m4⟩ := id M2
    have lins : (insD w).length ≤ 24 := by
      have := heldT_len w w.length
      simp [insD]
      omega
    have insR := fun x (hx : x ∈ insD w) => ins_mem W.inr hx
    have flat : (insD w).all flatD = true := by
      rw [List.all_eq_true]
      intro x hx
      obtain ⟨j, _, rfl⟩ := insR x hx
      rfl
    refine ⟨_, set_nm, ?_⟩
    rw [o_seq, o_set]
    refine ok_lcR (n := R) (freeF (insD w)) (by omega) ?_ ?_ ?_
    · simp [b_lenL m2, m3, Kp.refl]
    · intro j hj S3 k3
      refine ⟨_, set_nm, ?_⟩
      have h3 := k3.get _ _ (by simp) hin
      have e : opIn true (.int (j : Nat)) (.cell (S.length + 1)) S3 = .ok (.bl (!inD (.int (j : Nat)) (insD w))) S3 := by
        unfold opIn
        simp only [it_cell h3]
        have : (flatD (.int (j : Nat)) && (insD w).all flatD) = true := by rw [flat]; rfl
        simp only [this, if_true]
      simp [wipeD, e, freeF, Kp.refl]
    · intro S3 c3 k3 hl3 hc3
      have hc3' : S3[c3]? = some (.lst (freeD R (insD w))) := hc3
      have k23 : Kp [kd, kg] S S3 := k2.trans k3.of
      have D3 := D2.kp k3
      have hc3f : c3 ∉ [kd, kg] := D2.fresh hl3
      have hw3 := k3.get _ _ (by simp) hw
      have hin3 := k3.get _ _ (by simp) hin
      show OkS _ _
      rw [o_seq, o_set]
      refine Ok.imp (P := fun d S' => Kp [] S3 S' ∧ ∃ b, d = .bl b ∧ (b = false → freeD R (insD w) ≠ [])) ?_ ?_
      · have e := p_eqNil (S := S3 ++ [.lst []]) (k := 0) (w := 4) ((Kp.app [] S3 [.lst []]).get _ _ (by simp) hc3') (fun x hx => rd_small h5 (free_mem hx)) (by decide) (get_push S3 _)
        have hin4 : (S3 ++ [C.lst []])[S.length + 1]? = some (.lst (insD w)) := (Kp.app [] S3 _).get _ _ (by simp) hin3
        simp [wipeD, lim_eq, e]
        by_cases hfr : freeD R (insD w) = []
        · rw [hfr]
          simp
          exact Kp.app _ _ _
        · simp [hfr, b_lenL hin4]
          exact ⟨Kp.app _ _ _, (Classical.em _).symm⟩
      · rintro d S4 ⟨k4, b, rfl, hb⟩
        have D4 := D3.kp k4
        have k24 : Kp [kd, kg] S S4 := k23.trans k4.of
        have hw4 := k4.get _ _ (by simp) hw3
        have hin4 := k4.get _ _ (by simp) hin3
        have hc4 := k4.get _ _ (by simp) hc3'
        have M4 := M.mono k24
        show OkS _ _
        rw [o_ifS]
        refine Ok.imp (P := fun k S' => Deck kd kg S' ∧ Kp [kd, kg] S4 S' ∧ (k = true → insD w ≠ []) ∧ (k = false → freeD R (insD w) ≠ [])) ?_ ?_
        · have e := p_neNil (S := S4 ++ [.lst []]) (k := 0) (w := 4) ((Kp.app [] S4 [.lst []]).get _ _ (by simp) hin4) (fun x hx => rd_small h5 (insR x hx)) (by decide) (get_push S4 _)
          simp [wipeD, lim_eq, e]
          by_cases hne : insD w = []
          · simp [hne]
            exact ⟨D4.push _, Kp.app _ _ _, free_nil h1⟩
          · simp [hne]
            cases b with
            | true =>
              simp
              exact ⟨D4.push _, Kp.app _ _ _⟩
            | false =>
              simp
              refine Ok.imp (r_draw (D4.push _) (n := 3) (by omega)) ?_
              rintro r S5 ⟨i5, rfl, _, _, D5, k5⟩
              simp
              have kk5 : Kp [kd, kg] S4 S5 := (Kp.app _ _ _).trans k5
              by_cases hz : i5 = 0
              · exact Or.inr ⟨hz, D5, kk5⟩
              · exact Or.inl ⟨hz, D5, kk5, hb rfl⟩
        · rintro k S5 ⟨D5, k5, hk1, hk2⟩
          have k25 := k24.trans k5
          have hw5 := k5.get _ _ fw hw4
          have hin5 := k5.get _ _ fi hin4
          have hc5 := k5.get _ _ hc3f hc4
          have M5 := M.mono k25
          cases k with
          | true =>
            rw [if_pos rfl]
            have hne := hk1 rfl
            have hne2 : heldT w w.length ≠ [] := fun z => hne (by simp [insD, z])
            obtain ⟨l, u, hlu⟩ : ∃ l u, heldT w w.length = l ++ [u] := ⟨_, _, (List.dropLast_concat_getLast hne2).symm⟩
            have hin5' : S5[S.length + 1]? = some (.lst (l.map (fun t => D.int (t.1 : Nat)) ++ [.int (u.1 : Nat)])) := by
              rw [hin5, insD, hlu]
              simp
            have huR : u.1 < R := W.inr u (heldT_mem w.length u (by rw [hlu]; simp))
            simp [wipeD, isL_cell hw5, isL_cell hin5', m_pop hin5', lim_eq]
            have hw6 : (S5.set (S.length + 1) (.lst (l.map fun t => D.int (t.1 : Nat))))[S.length]? = some (.lst (w.map Stp.d)) := by
              rw [List.getElem?_set_ne (by omega)]
              exact hw5
            rw [m_app hw6 (by simp [lim_eq]; omega)]
            simp
            refine ⟨(D5.set fi _).set fw _, (k25.set (.inl (by omega)) _).set (.inl (Nat.le_refl _)) _, w ++ [.out u.1], ?_, ?_, by simp; omega, W.app (fun r e => by cases e; exact ⟨hne2, huR⟩) fun t e => by cases e⟩
            · rw [get_set hw6]
              simp [Stp.d]
            · rw [get_set hin5']
              unfold insD
              rw [List.length_append, List.length_singleton, heldT_app, hlu]
              simp [pushT]
          | false =>
            rw [if_neg Bool.false_ne_true]
            have hfr := hk2 rfl
            simp [wipeD]
            simp [isL_cell hin5]
            refine Ok.imp (r_pick D5 hc5 hc3f hfr (by have := free_len (R := R) (ins := insD w); omega)) ?_
            rintro r S6 ⟨hr, D6, k6⟩
            obtain ⟨q, hq, rfl⟩ := free_mem hr
            have hin6 := k6.get _ _ fi hin5
            have hw6 := k6.get _ _ fw hw5
            rw [m_app hin6 (by simp [lim_eq]; omega)]
            simp
            have hin7 : (S6.set (S.length + 1) (.lst (insD w ++ [.int (q : Nat)])))[S.length + 1]? = some (.lst (insD w ++ [.int (q : Nat)])) := get_set hin6
            have hw7 : (S6.set (S.length + 1) (.lst (insD w ++ [.int (q : Nat)])))[S.length]? = some (.lst (w.map Stp.d)) := by
              rw [List.getElem?_set_ne (by omega)]
              exact hw6
            have D7 := D6.set fi (.lst (insD w ++ [.int (q : Nat)]))
            have k7 : Kp [kd, kg] S (S6.set (S.length + 1) (.lst (insD w ++ [.int (q : Nat)]))) := (k25.trans k6).set (.inl (by omega)) _
            generalize S6.set (S.length + 1) (.lst (insD w ++ [.int (q : Nat)])) = S7 at *
            obtain ⟨ms7, a1, a2, a3, a4⟩ := id (M.mono k7)
            obtain ⟨c, hcq⟩ : ∃ c, ms7[q]? = some c := ⟨_, List.getElem?_eq_getElem (by omega)⟩
            obtain ⟨b1, bs, b2, b3, b4⟩ := a4 c (List.mem_of_getElem? hcq)
            have ixm : opIx (.cell cm) (.int (q : Nat)) S7 = .ok (.cell c) S7 := p_ixL a2 (by simp [hcq])
            simp [isL_cell hw7, p_ixLast hin7, ixm]
            refine Ok.imp (r_pick D7 b4 b1 (by simpa using b2) (by simp; omega)) ?_
            rintro r S8 ⟨hr8, D8, k8⟩
            obtain ⟨bb, _, rfl⟩ := List.mem_map.mp hr8
            have hw8 := k8.get _ _ fw hw7
            have hin8 := k8.get _ _ fi hin7
            simp [lim_eq]
            rw [m_app hw8 (by simp [lim_eq]; omega)]
            simp
            refine ⟨D8.set fw _, (k7.trans k8).set (.inl (Nat.le_refl _)) _, w ++ [.inn (q, bb)], ?_, ?_, by simp; omega, W.app (fun r e => by cases e) fun t e => by cases e; exact hq⟩
            · rw [get_set hw8]
              simp [Stp.d]
            · rw [hin8]
              unfold insD
              rw [List.length_append, List.length_singleton, heldT_app]
              simp [pushT]
  · rintro δ S2 ⟨D2, k2, w, v7, v8, v9, v10, v11, rfl, hw, hin, hl, W⟩
    simp [b_tupL hw]
    exact ⟨⟨D2, k2⟩, w, rfl, W, by omega, by omega⟩
end
end Dn
set_option Elab.async false
set_option linter.all false
set_option maxRecDepth 100000
set_option maxHeartbeats 2000000
/-! Ln_k78: houses, ranks, plans. -/
noncomputable section
namespace Dn
open PySem L2
section
variable {S S' : Sto} {kd kg : Nat}
/-- a comprehension whose items are drawn -/
theorem ok_lcD {δ : En} {P : D → Sto → Prop} {src : DSrc} {g : Tg} {elt : DE} {own : List Nat} {s0 : Src} {n : Nat} {item : Nat → D} (Pp : List Nat → Sto → D → Prop) (mono : ∀ K S S' x, Kp K S S' → Pp K S x → Pp K S' x)
    (anti : ∀ K K0 S x, (∀ c ∈ K, c ∈ K0) → Pp K0 S x → Pp K S x) (hn : n ≤ 1000) (hs : Ok (src δ S) fun s S1 => s = s0 ∧ Deck kd kg S1 ∧ Kp [kd, kg] S S1) (hlen : ∀ S', s0.len S' = some n) (hit : ∀ S' i, i < n → s0.item S' i = some (item i))
    (step : ∀ i, i < n → ∀ S', Deck kd kg S' → Kp [kd, kg] S S' → ∃ δ', g.set (item i) (wipeD δ own) = some δ' ∧ Ok (elt δ' S') fun y S3 => Dw kd kg S' S3 ∧ Pp (List.range S'.length) S3 y)
    (done : ∀ S' c acc, Dw kd kg S S' → S.length ≤ c → S'[c]? = some (.lst acc) → acc.length = n → (∀ x ∈ acc, Pp (List.range S.length) S' x) → P (.cell c) S') : Ok (dLc src g dYes elt own δ S) P := by
  obtain ⟨s, S1, hsrc, e, D1, k1⟩ := hs.ex
  subst e
  have l1 := D1.lt
  have fr : S1.length ∉ [kd, kg] := D1.fresh (Nat.le_refl _)
  refine ok_lc (s0 := s) (N := n) (c := S1.length) (item := item) (fun i S' acc => Deck kd kg S' ∧ Kp [kd, kg] S S' ∧ S'[S1.length]? = some (.lst acc) ∧ acc.length = i ∧ ∀ x ∈ acc, Pp (List.range (S1.length + 1)) S' x) ?_ (fun i S' acc h => hlen S') (fun i S' acc hi h => hit S' i hi) ?_ ?_
  · rw [hsrc]
    exact ⟨rfl, rfl, D1.push _, k1.push _, get_push _ _, rfl, fun x hx => by simp at hx⟩
  · rintro i S2 acc hi ⟨D2, k2, hc, hl, hall⟩
    obtain ⟨δ', h1, h2⟩ := step i hi S2 D2 k2
    refine ⟨δ', h1, ?_⟩
    show Ok (elt δ' S2) _
    refine Ok.imp h2 ?_
    rintro y S3 ⟨⟨D3, k3⟩, hy⟩
    have hc3 := k3.get _ _ fr hc
    have hlt := lt_of_get hc
    refine ⟨hc3, by simp [lim_eq]; omega, D3.set fr _, (k2.trans k3).set (.inl k1.le) _, get_set hc3, by simp [hl], fun x hx => ?_⟩
    have k5 : Kp (List.range (S1.length + 1)) S3 (S3.set S1.length (.lst (acc ++ [y]))) := (Kp.refl _ _).set (.inr (by simp)) _
    have k4' : Kp (List.range (S1.length + 1)) S2 S3 := k3.sub fun c hc => by
      simp at hc
      rw [List.mem_range]
      omega
    rcases List.mem_append.mp hx with hx | hx
    · exact mono _ _ _ _ k5 (mono _ _ _ _ k4' (hall x hx))
    · rw [List.mem_singleton.mp hx]
      refine mono _ _ _ _ k5 (anti _ _ _ _ (fun c hc => ?_) hy)
      rw [List.mem_range] at hc ⊢
      omega
  · rintro S2 acc ⟨D2, k2, hc, hl, hall⟩
    refine done S2 _ acc ⟨D2, k2⟩ k1.le hc hl fun x hx => anti _ _ _ _ (fun c hc => ?_) (hall x hx)
    have := k1.le
    rw [List.mem_range] at hc ⊢
    omega
theorem all_ways {R most : Nat} : ∀ {acc : List D}, (∀ x ∈ acc, ∃ w, x = wayD w ∧ WayOk R w ∧ 1 ≤ w.length ∧ w.length ≤ most) → ∃ ws : List (List Stp), acc = ws.map wayD ∧ ws.length = acc.length ∧ ∀ w ∈ ws, WayOk R w ∧ 1 ≤ w.length ∧ w.length ≤ most
  | [], _ => ⟨[], rfl, rfl, fun w h => by simp at h⟩
  | x :: acc, h => by
    obtain ⟨w, rfl, hw⟩ := h x List.mem_cons_self
    obtain ⟨ws, e, l, hall⟩ := all_ways (acc := acc) fun y hy => h y (List.mem_cons_of_mem _ hy)
    refine ⟨w :: ws, by rw [e]; rfl, by simp [l], fun v hv => ?_⟩
    rcases List.mem_cons.mp hv with rfl | hv
    · exact hw
    · exact hall v hv
theorem rep_flat {R : Nat} : (List.replicate R [roomD]).flatten = List.replicate R roomD := by
  induction R with
  | zero => rfl
  | succ n ih => rw [List.replicate_succ, List.flatten_cons, ih]; rfl
theorem r_law_calm (Dk : Deck kd kg S) {hands R most : Nat} (h1 : 1 ≤ R) (h5 : R ≤ 5) (hh1 : 1 ≤ hands) (hh5 : hands ≤ 5) (hm2 : 2 ≤ most) (hm24 : most ≤ 24) :
    ∀ dh dR dm : D, dh = .int (hands : Nat) → dR = .int (R : Nat) → dm = .int (most : Nat) → Ok (d_law_calm [.cell kd, dh, dR, dm] S) fun r S' => Dw kd kg S S' ∧ ∃ ws, r = houseD R ws ∧ HOk R ws ∧ ws.length = hands ∧ ∀ w ∈ ws, w.length ≤ most := by
  intro dh dR dm eh eR em
  simp only [d_law_calm, b_law_calm, startD, o_fn]
  refine ⟨rfl, ?_⟩
  rw [o_seq, o_set]
  refine ok_lcD (kd := kd) (kg := kg) (s0 := .rng 0 (R : Nat)) (n := R) (item := fun i => .int (i : Nat)) ?Pp ?_ ?_ (by omega) ?_ ?_ ?_ ?_ ?_
  case Pp => exact (fun K S x => ∃ cc, x = .cell cc ∧ cc ∉ K ∧ ∃ bs : List Bool, bs ≠ [] ∧ bs.length ≤ 2 ∧ S[cc]? = some (.lst (bs.map mD)))
  · rintro K S S' x k ⟨cc, rfl, a, bs, b, c, d⟩
    exact ⟨cc, rfl, a, bs, b, c, k.get _ _ a d⟩
  · rintro K K0 S x hs ⟨cc, rfl, a, r⟩
    exact ⟨cc, rfl, fun z => a (hs _ z), r⟩
  · simp [eR, Dk, Kp.refl]
    exact inRng_of (by omega) (by omega)
  · intro S'
    simp [Src.len]
  · intro S' i hi
    simp [Src.item, hi]
  · intro i hi S2 D2 k2
    refine ⟨_, set_nm, ?_⟩
    simp [wipeD, lim_eq]
    have e1 : (S2 ++ [C.lst [D.str (Str.ofString "alone")], C.lst [D.str (Str.ofString "alone"), D.str (Str.ofString "beside")], C.lst [D.cell S2.length, D.cell (S2.length + 1)]])[S2.length + 2]? = some (.lst [D.cell S2.length, D.cell (S2.length + 1)]) := by
      rw [List.getElem?_append_right (by omega)]
      simp
    have e2 : (S2 ++ [C.lst [D.str (Str.ofString "alone")], C.lst [D.str (Str.ofString "alone"), D.str (Str.ofString "beside")], C.lst [D.cell S2.length, D.cell (S2.length + 1)]])[S2.length]? = some (.lst ([false].map mD)) := by
      rw [List.getElem?_append_right (by omega)]
      simp [mD]
    have e3 : (S2 ++ [C.lst [D.str (Str.ofString "alone")], C.lst [D.str (Str.ofString "alone"), D.str (Str.ofString "beside")], C.lst [D.cell S2.length, D.cell (S2.length + 1)]])[S2.length + 1]? = some (.lst ([false, true].map mD)) := by
      rw [List.getElem?_append_right (by omega)]
      simp [mD]
    refine Ok.imp (r_pick (D2.push _) e1 (D2.fresh (by omega)) (by simp) (by simp)) ?_
    rintro r S3 ⟨hr, D3, k3⟩
    refine ⟨⟨D3, (Kp.app _ _ _).trans k3⟩, ?_⟩
    simp only [List.mem_cons, List.not_mem_nil, or_false] at hr
    rcases hr with rfl | rfl
    · exact ⟨_, rfl, by simp, [false], by simp, by simp, k3.get _ _ (D2.fresh (Nat.le_refl _)) e2⟩
    · exact ⟨_, rfl, by simp, [false, true], by simp, by simp, k3.get _ _ (D2.fresh (by omega)) e3⟩
  · rintro S1 c acc ⟨D1, k1⟩ hcl hc hlen hall
    have M : ModesAt [kd, kg] S1 c R := by
      have : ∀ acc : List D, (∀ x ∈ acc, ∃ cc, x = D.cell cc ∧ cc ∉ List.range S.length ∧ ∃ bs : List Bool, bs ≠ [] ∧ bs.length ≤ 2 ∧ S1[cc]? = some (.lst (bs.map mD))) → ∃ ms : List Nat, acc = ms.map D.cell ∧ ∀ c ∈ ms, c ∉ [kd, kg] ∧ ∃ bs : List Bool, bs ≠ [] ∧ bs.length ≤ 2 ∧ S1[c]? = some (.lst (bs.map mD)) := by
        intro acc
        induction acc with
        | nil => exact fun _ => ⟨[], rfl, fun c h => by simp at h⟩
        | cons x acc ih =>
          intro h
          obtain ⟨cc, rfl, a, r⟩ := h x List.mem_cons_self
          obtain ⟨ms, e, hm⟩ := ih fun y hy => h y (List.mem_cons_of_mem _ hy)
          refine ⟨cc :: ms, by rw [e]; rfl, fun c hc => ?_⟩
          rcases List.mem_cons.mp hc with rfl | hc
          · refine ⟨Dk.fresh ?_, r⟩
            rw [List.mem_range] at a
            omega
          · exact hm c hc
      obtain ⟨ms, e, hm⟩ := this acc hall
      refine ⟨ms, Dk.fresh hcl, by rw [hc, e], ?_, hm⟩
      rw [e, List.length_map] at hlen
      exact hlen
    show OkS _ _
    rw [o_ret, o_tup, o_cons, o_bin, o_tup, o_cons, o_tup, o_cons, o_c, o_cons, o_c, o_nil]
    refine ⟨by simp [lim_eq], ?_⟩
    rw [o_nil]
    refine ⟨by simp [lim_eq], ?_⟩
    rw [o_var]
    refine ⟨dR, rfl, ?_⟩
    rw [eR]
    have emul : opMul (.tup [roomD]) (.int (R : Nat)) S1 = .ok (.tup (List.replicate R roomD)) S1 := by
      unfold opMul
      have : decide ([roomD] ≠ [] ∧ 1 ≤ (R : Int) ∧ (R : Int) ≤ 1000 ∧ [roomD].length ≤ 100) = true := by
        apply decide_eq_true
        exact ⟨by simp, by omega, by omega, by simp⟩
      simp only [this, if_true, Int.toNat_natCast, rep_flat]
    show Ok (opMul (.tup [roomD]) (.int (R : Nat)) S1) _
    rw [emul, Ok_ok, o_cons, o_call, o_cons]
    refine ok_lcD (kd := kd) (kg := kg) (s0 := .rng 0 (hands : Nat)) (n := hands) (item := fun i => .int (i : Nat)) (fun K S x => ∃ w, x = wayD w ∧ WayOk R w ∧ 1 ≤ w.length ∧ w.length ≤ most) (fun _ _ _ _ _ h => h) (fun _ _ _ _ _ h => h) (by omega) ?_ ?_ ?_ ?_ ?_
    · simp [eh, D1, Kp.refl]
      exact inRng_of (by omega) (by omega)
    · intro S'
      simp [Src.len]
    · intro S' i hi
      simp [Src.item, hi]
    · intro i hi S2 D2 k2
      refine ⟨_, set_nm, ?_⟩
      simp [wipeD, em]
      refine Ok.imp (r_law_way D2 (M.mono k2) h1 h5 hm2 hm24) ?_
      rintro r S3 ⟨D3, h3⟩
      exact ⟨D3, h3⟩
    · rintro S2 c2 acc2 ⟨D2, k2⟩ hcl2 hc2 hlen2 hall2
      rw [o_nil]
      rw [b_tupL hc2, Ok_ok, o_nil]
      obtain ⟨ws, e, l, hw⟩ := all_ways hall2
      refine ⟨by simp [lim_eq], ⟨D2, k1.trans k2⟩, ws, ?_, ⟨h1, h5, by omega, by omega, fun w hh => (hw w hh).1.nest, fun w hh => (hw w hh).1.inr, fun w hh => (hw w hh).2.1, fun w hh => Nat.le_trans (hw w hh).2.2 hm24, fun w hh => (hw w hh).1.outr⟩, by omega, fun w hh => (hw w hh).2.2⟩
      rw [e]
      rfl
/-! ### ranks -/
theorem m_popAt {c i : Nat} {xs : List D} {d : D} (h : S[c]? = some (.lst xs)) (hd : xs[i]? = some d) (hl : xs.length ≤ lim) : mPop (.cell c) [.int (i : Nat)] S = .ok d (S.set c (.lst (xs.eraseIdx i))) := by
  have hi := (List.getElem?_eq_some_iff.mp hd).1
  unfold mPop
  have : decide (0 ≤ (i : Int) ∧ (i : Int) < xs.length ∧ xs.length ≤ lim) = true := decide_eq_true ⟨by omega, by omega, hl⟩
  simp only [h, this, if_true, Int.toNat_natCast, hd]
theorem map_erase {α β : Type} (f : α → β) : ∀ (l : List α) (i : Nat), (l.map f).eraseIdx i = (l.eraseIdx i).map f
  | [], _ => rfl
  | _ :: _, 0 => rfl
  | x :: l, i + 1 => by
    show f x :: (l.map f).eraseIdx i = _
    rw [map_erase f l i]
    rfl
theorem erase_perm {α : Type} : ∀ {l : List α} {j : Nat} {x : α}, l[j]? = some x → (x :: l.eraseIdx j).Perm l
  | [], _, _, h => by simp at h
  | y :: l, 0, x, h => by
    cases h
    exact List.Perm.refl _
  | y :: l, j + 1, x, h => (List.Perm.swap y x _).trans (List.Perm.cons y (erase_perm (l := l) (by simpa using h)))
def ranks0 : List Int := [-3, 0, 1, 2, 7, (10 : Int) ^ ((18 : Int).toNat)]
theorem ranks0_nd : ranks0.Nodup := by decide +kernel
theorem ranks0_small : ∀ x ∈ ranks0, x.natAbs < 2 ^ 61 := by decide +kernel
theorem r_law_ranked (Dk : Deck kd kg S) {hands : Nat} (hh5 : hands ≤ 5) : ∀ dh : D, dh = .int (hands : Nat) → Ok (d_law_ranked [.cell kd, dh] S) fun r S' => Dw kd kg S S' ∧ ∃ rk : List Int, r = ranksD rk ∧ rk.length = hands ∧ rk.Nodup ∧ ∀ x ∈ rk, x.natAbs < 2 ^ 61 := by
  intro dh eh
  simp only [d_law_ranked, b_law_ranked, startD, o_fn]
  refine ⟨rfl, ?_⟩
  rw [o_seq, o_set]
  simp
  rw [p_pow mpw18, Ok_ok]
  refine ⟨by simp [lim_eq], ?_⟩
  have fr : S.length ∉ [kd, kg] := Dk.fresh (Nat.le_refl _)
  have base : S ++ [C.lst [D.int (-3), D.int 0, D.int 1, D.int 2, D.int 7, D.int (10 ^ Int.toNat 18)]] = S ++ [C.lst (ranks0.map D.int)] := rfl
  rw [base]
  refine ok_lc (s0 := .rng 0 (hands : Nat)) (N := hands) (c := S.length + 1) (item := fun i => .int (i : Nat)) ?J ?_ ?_ ?_ ?_ ?_
  case J => exact (fun i S' acc => Deck kd kg S' ∧ Kp [kd, kg] S S' ∧ S'[S.length + 1]? = some (.lst acc) ∧ ∃ as ls : List Int, acc = as.map D.int ∧ S'[S.length]? = some (.lst (ls.map D.int)) ∧ (as ++ ls).Perm ranks0 ∧ as.length = i)
  · simp [eh]
    refine ⟨inRng_of (by omega) (by omega), Dk.push _, Kp.app _ _ _, ⟨ranks0, rfl, List.Perm.refl _⟩⟩
  · intro i S' acc h
    simp [Src.len]
  · intro i S' acc hi h
    simp [Src.item, hi]
  · rintro i S2 acc hi ⟨D2, k2, hc, as, ls, rfl, hL, hp, hl⟩
    have hlen : as.length + ls.length = 6 := by
      have := hp.length_eq
      simpa [ranks0] using this
    refine ⟨_, set_nm, ?_⟩
    simp [wipeD, isL_cell hL, b_lenL hL]
    refine Ok.imp (r_draw D2 (n := ls.length) (by omega)) ?_
    rintro r S3 ⟨j, rfl, hj, _, D3, k3⟩
    have hj2 := hj (by omega)
    have hL3 := k3.get _ _ fr hL
    have fr2 : S.length + 1 ∉ [kd, kg] := Dk.fresh (by omega)
    have hc3 := k3.get _ _ fr2 hc
    obtain ⟨x, hx⟩ : ∃ x, ls[j]? = some x := ⟨_, List.getElem?_eq_getElem hj2⟩
    rw [m_popAt (d := .int x) hL3 (by simp [hx]) (by simp [lim_eq]; omega)]
    have hc4 : (S3.set S.length (.lst ((ls.map D.int).eraseIdx j)))[S.length + 1]? = some (.lst (as.map D.int)) := by
      rw [List.getElem?_set_ne (by omega)]
      exact hc3
    refine ⟨hc4, by simp [lim_eq]; omega, (D3.set fr _).set fr2 _, ((k2.trans k3).set (.inl (Nat.le_refl _)) _).set (.inl (by omega)) _, get_set hc4, as ++ [x], by simp, ls.eraseIdx j, ?_, ?_, by simp [hl]⟩
    · rw [get_set hL3, map_erase]
    · refine List.Perm.trans ?_ hp
      rw [List.append_assoc]
      refine List.Perm.append_left as ?_
      exact erase_perm hx
  · rintro S2 acc ⟨D2, k2, hc, as, ls, rfl, hL, hp, hl⟩
    simp [b_tupL hc]
    have nd : (as ++ ls).Nodup := hp.symm.nodup ranks0_nd
    refine ⟨⟨D2, k2⟩, as, rfl, hl, (List.nodup_append.mp nd).1, fun x hx => ?_⟩
    exact ranks0_small x (hp.subset (List.mem_append_left _ hx))
end
end Dn
set_option Elab.async false
set_option linter.all false
set_option maxRecDepth 100000
set_option maxHeartbeats 2000000
/-! Lo_k78: the plan. -/
noncomputable section
namespace Dn
open PySem L2
section
variable {S S' : Sto} {kd kg : Nat}
theorem cut_from {xs : List D} {k : Nat} : cutD xs (some (k : Nat)) none = xs.drop k := by
  unfold cutD
  rw [HT.sIx_nat, HT.sIx_none]
  rcases Nat.le_total k xs.length with h | h
  · rw [Nat.min_eq_left h, List.take_of_length_le]
    rw [List.length_drop]
    omega
  · rw [Nat.min_eq_right h, List.drop_of_length_le (Nat.le_refl _), List.drop_of_length_le h]
    simp
theorem cut_last {xs : List D} : cutD xs none (some (-1)) = xs.dropLast := by
  unfold cutD
  rw [HT.sIx_none, List.drop_zero, Nat.sub_zero, List.dropLast_eq_take]
  congr 1
  have e : HT.sIx xs.length xs.length (some (-1)) = ((-1 : Int) + (xs.length : Int)).toNat := rfl
  rw [e]
  omega
theorem cut1 {a b c : D} : cutD [a, b, c] (some 1) none = [b, c] := rfl
theorem r_beyond {w : List Stp} {k : Nat} : ∀ dk0 : D, dk0 = .int (k : Nat) → Ok (d_law_beyond [wayD w, dk0] S) fun r S' => (∃ z : Int, r = .int z) ∧ S' = S := by
  intro dk0 ek
  simp only [d_law_beyond, b_law_beyond, startD, o_fn]
  refine ⟨rfl, ?_⟩
  rw [o_seq, o_par]
  simp
  refine ok_forT (xs := (w.map Stp.d).drop k) (fun i δ S' => S' = S ∧ ∃ (a b : Int) (v4 : Option D), δ = [some (wayD w), some dk0, some (.int a), some (.int b), v4]) ?_ ?_ ?_
  · simp [ek, wayD, cut_from]
  · rintro i δ S' x hx ⟨rfl, a, b, v4, rfl⟩
    have hx2 : x ∈ w.map Stp.d := (List.drop_sublist k _).subset (List.mem_of_getElem? hx)
    obtain ⟨s, _, rfl⟩ := List.mem_map.mp hx2
    refine ⟨_, set_nm, ?_⟩
    have fin : ∀ (z : Int), (if z = 0 then (∃ b' : Int, b + 1 = b') else ∃ a' b' : Int, z = a' ∧ b + 1 = b') := fun z => by split <;> simp
    cases s with
    | out r =>
      simp [Stp.d]
      by_cases hz : a + -1 = 0
      · simp [hz]
      · simp [hz]
    | inn t =>
      simp [Stp.d]
      by_cases hz : a + 1 = 0
      · simp [hz]
      · simp [hz]
  · rintro δ S' ⟨rfl, a, b, v4, rfl⟩
    simp
def rowD (w : List Stp) (k : Nat) (s : Stp) (z : Int) : D := .tup [thsD (heldT w k), (wishT s).elim .non Th.d, .bl false, .int z]
theorem r_law_plan {R : Nat} {ws : List (List Stp)} (H : HOk R ws) : Ok (d_law_plan [houseD R ws] S) fun r S' => Kp [] S S' ∧ ∃ (p : Nat) (cs : List Nat), r = .cell p ∧ S.length ≤ p ∧ S'[p]? = some (.lst (cs.map D.cell)) ∧ cs.length = ws.length ∧
    ∀ (j c : Nat) (w : List Stp), cs[j]? = some c → ws[j]? = some w → S.length ≤ c ∧ ∃ rs, S'[c]? = some (.lst rs) ∧ RowsOk w rs := by
  have w5 := H.w5
  simp only [d_law_plan, b_law_plan, startD, o_fn]
  refine ⟨rfl, ?_⟩
  rw [o_seq, o_set]
  simp [lim_eq]
  have ixh : ∀ (S : Sto), opIx (houseD R ws) (.int 1) S = .ok (.tup (ws.map wayD)) S := fun S => rfl
  refine ok_forT (xs := ws.map wayD) (fun i δ S' => Kp [] S S' ∧ (∃ v2 v3 v4 v5 v6, δ = [some (houseD R ws), some (.cell S.length), v2, v3, v4, v5, v6]) ∧ ∃ cs : List Nat, S'[S.length]? = some (.lst (cs.map D.cell)) ∧ cs.length = i ∧
    ∀ (j c : Nat) (w : List Stp), cs[j]? = some c → ws[j]? = some w → S.length < c ∧ ∃ rs, S'[c]? = some (.lst rs) ∧ RowsOk w rs) ?_ ?_ ?_
  · simp [ixh]
    exact Kp.app _ _ _
  · rintro i δ S1 x hx ⟨k1, ⟨v2, v3, v4, v5, v6, rfl⟩, cs, hcs, hcl, hrows⟩
    obtain ⟨w, hw, rfl⟩ := map_get hx
    have hwm := List.mem_of_getElem? hw
    have hlen := H.len w hwm
    have hi : i < ws.length := (List.getElem?_eq_some_iff.mp hw).1
    refine ⟨_, set_nm, ?_⟩
    simp [lim_eq]
    have hlt := lt_of_get hcs
    refine ok_forET (xs := w.map Stp.d) (fun k δ S' => Kp [] S1 S' ∧ (∃ v5 v6, δ = [some (houseD R ws), some (.cell S.length), some (wayD w), some (.cell S1.length), some (thsD (heldT w k)), v5, v6]) ∧ ∃ rs : List D, S'[S1.length]? = some (.lst rs) ∧ rs.length = k ∧
      ∀ (j : Nat) (s : Stp), j < k → w[j]? = some s → ∃ z : Int, rs[j]? = some (rowD w j s z)) ?_ ?_ ?_
    · simp [wayD, heldT, thsD]
      exact Kp.app _ _ _
    · rintro k δ S2 y hy ⟨k2, ⟨v5, v6, rfl⟩, rs, hrs, hrl, hro⟩
      obtain ⟨s, hs, rfl⟩ := map_get hy
      have hk : k < w.length := (List.getElem?_eq_some_iff.mp hs).1
      have hsucc := heldT_succ hs
      have hhl := heldT_len w k
      simp only [set_tp, setAll_cons, set_nm, setAll_nil, Option.bind_some]
      refine ⟨_, rfl, ?_⟩
      have ext : ∀ (z : Int) (j : Nat) (s' : Stp), j < k + 1 → w[j]? = some s' → ∃ z', (rs ++ [rowD w k s z])[j]? = some (rowD w j s' z') := by
        intro z j s' hj hsj
        by_cases h : j < k
        · obtain ⟨z', hz⟩ := hro j s' h hsj
          refine ⟨z', ?_⟩
          rw [List.getElem?_append_left (by omega)]
          exact hz
        · have : j = k := by omega
          subst this
          rw [hs] at hsj
          cases hsj
          refine ⟨z, ?_⟩
          rw [List.getElem?_append_right (by omega), hrl]
          simp
      cases s with
      | out r =>
        simp [Stp.d, isL_cell hrs, lim_eq]
        rw [m_app hrs (by simp [lim_eq]; omega)]
        simp [thsD, cut_last]
        refine ⟨k2.set (.inl (Nat.le_refl _)) _, ?_, rs ++ [rowD w k (.out r) 0], ?_, by simp [hrl], ext 0⟩
        · rw [hsucc]
          simp [pushT, List.map_dropLast]
        · rw [get_set hrs]
          rfl
      | inn t =>
        have e1 : (Stp.inn t).d = .tup [.str "in", .int (t.1 : Nat), mD t.2] := rfl
        simp [e1, isL_cell hrs, lim_eq, cut1]
        obtain ⟨r, S3, hb, ⟨z, rfl⟩, hS3⟩ := (r_beyond (S := S2) (w := w) (k := k) _ rfl).ex
        subst hS3
        rw [hb]
        simp
        rw [m_app hrs (by simp [lim_eq]; omega)]
        simp [thsD, lim_eq]
        refine ⟨by omega, k2.set (.inl (Nat.le_refl _)) _, ?_, rs ++ [rowD w k (.inn t) z], ?_, by simp [hrl], ext z⟩
        · rw [hsucc]
          simp [pushT, Th.d]
        · rw [get_set hrs]
          rfl
    · rintro δ S2 ⟨k2, ⟨v5, v6, rfl⟩, rs, hrs, hrl, hro⟩
      have hcs2 := k2.get _ _ (by simp) hcs
      simp [isL_cell hcs2]
      rw [m_app hcs2 (by simp [lim_eq]; omega)]
      simp
      have hne : S.length ≠ S1.length := by omega
      refine ⟨(k1.trans k2).set (.inl (Nat.le_refl _)) _, cs ++ [S1.length], ?_, by simp [hcl], fun j c w' hj hw' => ?_⟩
      · rw [get_set hcs2]
        simp
      · by_cases h : j < cs.length
        · rw [List.getElem?_append_left h] at hj
          obtain ⟨a, rs', b, d⟩ := hrows j c w' hj hw'
          refine ⟨a, rs', ?_, d⟩
          rw [List.getElem?_set_ne (by omega)]
          exact k2.get _ _ (by simp) b
        · rw [List.getElem?_append_right (by omega)] at hj
          have hj0 : j - cs.length = 0 := by
            have := (List.getElem?_eq_some_iff.mp hj).1
            simp at this
            omega
          rw [hj0] at hj
          simp at hj
          subst hj
          have hji : j = i := by omega
          subst hji
          rw [hw] at hw'
          cases hw'
          refine ⟨by omega, rs, ?_, ?_⟩
          · rw [List.getElem?_set_ne hne]
            exact hrs
          · refine ⟨by simpa using hrl, fun q s hs => ?_⟩
            have hq : q < w.length := (List.getElem?_eq_some_iff.mp hs).1
            exact hro q s (by simpa using hq) hs
  · rintro δ S1 ⟨k1, ⟨v2, v3, v4, v5, v6, rfl⟩, cs, hcs, hcl, hrows⟩
    simp
    refine ⟨k1, cs, hcs, by simpa using hcl, fun j c w h1 h2 => ?_⟩
    obtain ⟨a, b⟩ := hrows j c w h1 h2
    exact ⟨by omega, b⟩
end
end Dn
set_option Elab.async false
set_option linter.all false
set_option maxRecDepth 100000
set_option maxHeartbeats 2000000
/-! Ls_k78: refusals. -/
noncomputable section
namespace Dn
open PySem L2
def NotCalm (h : D) : Prop := ∀ S : Sto, Ok (d_is_calm [h] S) fun r S' => r = .bl false ∧ Kp [] S S'
section
variable {S S' S1 S2 : Sto} {kd kg : Nat} {h v rk ra hand r : D}
theorem x_calm (n : NotCalm h) : ∃ S', d_calm [h] S = .exc "Unfit" S' ∧ Kp [] S S' := by
  obtain ⟨r, S', e, rfl, k⟩ := (n S).ex
  refine ⟨S', ?_, k⟩
  simp [d_calm, dFn, b_calm, startD, dIfS, dNot, dB, asB, dCall, dCons, dNil, dVar, e, thenS, dRaise, endF]
theorem x_ranks_error (hx : d_calm [h] S = .exc "Unfit" S') : d_ranks_error [h, v] S = .exc "Unfit" S' := by
  simp [d_ranks_error, dFn, b_ranks_error, startD, dSeq, dDrop, dCall, dCons, dNil, dVar, hx, thenS, andThen, endF]
theorem x_ranked (hx : d_ranks_error [h, v] S = .exc "Unfit" S') : d_ranked [h, v] S = .exc "Unfit" S' := by
  simp [d_ranked, dFn, b_ranked, startD, dIfS, dB, asB, dBin, dCall, dCons, dNil, dVar, hx, thenS, endF]
theorem x_ranked2 (hx : d_ranks_error [h, v] S = .ok r S') (hr : isNon r = false) : d_ranked [h, v] S = .exc "Unfit" S' := by
  simp [d_ranked, dFn, b_ranked, startD, dIfS, dB, asB, dBin, dCall, dCons, dNil, dVar, dC, hx, hr, thenS, endF, dRaise]
def RefOk (a b c w hd : D) : Prop := ∀ S : Sto, Ok (d_law_is_refused [a, b, c, w, hd] S) fun r S' => r = .bl true ∧ Kp [] S S'
/-- ranks that are no tuple, or none, or truths -/
theorem r_ranks_form {R : Nat} {ws : List (List Stp)} (H : HOk R ws) (hv : (isT v = false ∧ isRg v = false) ∨ v = .tup [] ∨ v = .tup (List.replicate ws.length (.bl true))) : Ok (d_ranks_error [houseD R ws, v] S) fun r S' => r = .str "form" ∧ Kp [] S S' := by
  have w1 := H.w1
  have w5 := H.w5
  have ixh : ∀ (S : Sto), opIx (houseD R ws) (.int 1) S = .ok (.tup (ws.map wayD)) S := fun S => rfl
  simp [d_ranks_error, b_ranks_error, startD]
  refine Ok.imp (r_calm H) ?_
  rintro _ S1 kp1
  rcases hv with hv | rfl | rfl
  · simp [ixh, hv.1, hv.2, kp1]
  · have : ¬ ((0 : Int) = (ws.length : Int)) := by omega
    simp [ixh, this, kp1]
  · simp [ixh]
    refine ok_lcT (xs := List.replicate ws.length (.bl true)) (fun d => some (D.bl (isI d))) ?_ (by simp [lim_eq]; omega) ?_ ?_
    · simp [Kp.refl]
    · intro x hx S2 kp2
      rw [List.eq_of_mem_replicate hx]
      simp [wipeD, Kp.refl]
    · intro S2 c kp2 hlc hc
      rw [blF_list] at hc
      have e : ((List.replicate ws.length (D.bl true)).map isI).all id = false := by
        rw [List.map_replicate, show isI (.bl true) = false from rfl]
        obtain ⟨n, hn⟩ : ∃ n, ws.length = n + 1 := ⟨ws.length - 1, by omega⟩
        rw [hn, List.replicate_succ]
        rfl
      rw [b_allL hc, e]
      simp [kp1.trans kp2]
end
end Dn
set_option Elab.async false
set_option linter.all false
set_option maxRecDepth 100000
set_option maxHeartbeats 2000000
/-! Lr_k78: odds and ends; choices. -/
noncomputable section
namespace Dn
open PySem L2
theorem lt127 {n : Nat} (h : n < 2 ^ 61) : n < 2 ^ 127 := Nat.lt_of_lt_of_le h (Nat.pow_le_pow_right (by decide) (by decide))
theorem rdi {S : Sto} {K : List Nat} {k w : Nat} {i : Int} (h : i.natAbs < 2 ^ 11) (hw : 11 ≤ w) : Rd K k w S (.int i) := rd_int (b := 10) h (by decide) (by omega)
def choiceD (ch : List (Option Nat)) : D := .tup (ch.map natD)
structure ChOk (ws : List (List Stp)) (ch : List (Option Nat)) : Prop where
  len : ch.length = ws.length
  lt : ∀ (i k : Nat) (w : List Stp), ws[i]? = some w → ch[i]? = some (some k) → k < w.length
def rkAt (ws : List (List Stp)) (rk : List Int) (ra : List Cap) (h : Nat) (o : Option Nat) : Int := match o with
  | none => rk[h]?.getD 0
  | some k => rankT (rk[h]?.getD 0) ra (heldT (ws[h]?.getD []) k)
end Dn
set_option Elab.async false
set_option linter.all false
set_option maxRecDepth 100000
set_option maxHeartbeats 2000000
/-! Lt_k78: a house that is not calm. -/
noncomputable section
namespace Dn
open PySem L2
def badR (x : D) : Bool := match x with
  | .tup [_, .non] => false
  | _ => true
def trW (x : D) : Bool := match x with
  | .tup ss => ss.any hdTry
  | _ => false
theorem p_neP {S : Sto} {x : D} {p : PyData} {b : Bool} (hx : ∀ z, x ≠ .str z) (h1 : toPy 60 S x = some p) (h2 : p.canLay0 = true) (h3 : p.depth ≤ 64) (he : PyData.eqv p (.tuple [.str "store", .none]) = !b) : opNe x (.tup [.str "store", .non]) S = .ok (.bl b) S := by
  have e2 : toPy 60 S (.tup [.str "store", .non]) = some (.tuple [.str "store", .none]) := rfl
  have s2 : SeqAt.shaped (.tuple [.str "store", .none]) = true := by decide +kernel
  have s1 : SeqAt.shaped p = true := by
    unfold SeqAt.shaped
    rw [h2, decide_eq_true h3]
    rfl
  have e0 : opNe x (.tup [.str "store", .non]) S = opEqP true x (.tup [.str "store", .non]) S := by
    cases x with
    | str z => exact absurd rfl (hx z)
    | _ => rfl
  rw [e0]
  unfold opEqP
  simp only [h1, e2, s1, s2, he, Bool.and_self, if_true, Bool.not_not]
section
variable {S S' : Sto} {kd kg : Nat}
theorem rooms_ok (x : D) (h : x = roomD) : (∀ S', opNe x (.tup [.str "store", .non]) S' = .ok (.bl (badR x)) S') ∧ ∀ S', Rd [] 20 5000 S' x := by
  subst h
  exact ⟨fun S' => p_room, fun S' => rd_room.le (by decide) (by decide)⟩
def bookL : List D := [.str "ahead", .str "kept", .str "first", .str "one", .str "given", .str "back", .str "left", .str "passes", .str "behind", .str "first"]
def bookD : D := .tup bookL
theorem rd_word {K : List Nat} {x : Str} (h : PyData.strOk x = true) (hw : x.cps.size ≤ 9) : Rd K 0 20 S (.str x) := (rd_str (w := 9) h hw).le (Nat.le_refl _) (by decide)
theorem rd_book {K : List Nat} : Rd K 1 300 S bookD := by
  refine rd_tup (k := 0) (w := 20) (fun x hx => ?_) (by decide) (by show 10 * (20 + 1) ≤ 300; decide)
  unfold bookL at hx
  simp only [List.mem_cons, List.not_mem_nil, or_false] at hx
  rcases hx with rfl | rfl | rfl | rfl | rfl | rfl | rfl | rfl | rfl | rfl <;> exact rd_word (by decide +kernel) (by decide +kernel)
theorem book_ok : (∀ S', opNe (.tup [.str "store", bookD]) (.tup [.str "store", .non]) S' = .ok (.bl true) S') ∧ ∀ S', Rd [] 20 5000 S' (.tup [.str "store", bookD]) := by
  have rd : ∀ S', Rd [] 2 700 S' (.tup [.str "store", bookD]) := fun S' => rd_tup (k := 1) (w := 300) (fun x hx => by
    simp only [List.mem_cons, List.not_mem_nil, or_false] at hx
    rcases hx with rfl | rfl
    · exact (rd_word (by decide +kernel) (by decide +kernel)).le (by decide) (by decide)
    · exact rd_book) (by decide) (by show 2 * (300 + 1) ≤ 700; decide)
  refine ⟨fun S' => ?_, fun S' => (rd S').le (by decide) (by decide)⟩
  obtain ⟨p, h1, h2, h3, h4, h5⟩ := rd S'
  obtain ⟨q, g1, g2, g3, g4, g5⟩ := rd_book (K := []) (S := S')
  have e := h1 S' (Kp.refl _ _) 60 (by decide)
  have eq := g1 S' (Kp.refl _ _) 59 (by decide)
  have e2 : toPy 60 S' (.tup [.str "store", bookD]) = some (.tuple [.str "store", q]) := by
    show (allPy (toPy 59 S') [.str "store", bookD]).map PyData.tuple = _
    have es : toPy 59 S' (.str "store") = some (.str "store") := rfl
    simp only [allPy, es, eq]
    rfl
  rw [e2] at e
  cases e
  obtain ⟨ys, hys⟩ : ∃ ys, q = .tuple ys := by
    have : (allPy (toPy 58 S') bookL).map PyData.tuple = some q := eq
    obtain ⟨ys, _, h⟩ := Option.map_eq_some_iff.mp this
    exact ⟨ys, h.symm⟩
  refine p_neP (fun z => by simp) e2 h2 (by omega) ?_
  rw [hys]
  simp [PyData.eqv, PyData.eqvAll]
theorem door_ok {t o : D} (ht : ∀ S', Rd [] 2 1000 S' t) (ho : ∀ S', Rd [] 2 1000 S' o) : (∀ S', opNe (.tup [.str "door", t, o]) (.tup [.str "store", .non]) S' = .ok (.bl true) S') ∧ ∀ S', Rd [] 20 5000 S' (.tup [.str "door", t, o]) := by
  have rd : ∀ S', Rd [] 3 4000 S' (.tup [.str "door", t, o]) := fun S' => rd_tup (k := 2) (w := 1000) (fun x hx => by
    simp only [List.mem_cons, List.not_mem_nil, or_false] at hx
    rcases hx with rfl | rfl | rfl
    · exact (rd_word (by decide +kernel) (by decide +kernel)).le (by decide) (by decide)
    · exact ht S'
    · exact ho S') (by decide) (by show 3 * (1000 + 1) ≤ 4000; decide)
  refine ⟨fun S' => ?_, fun S' => (rd S').le (by decide) (by decide)⟩
  obtain ⟨p, h1, h2, h3, h4, h5⟩ := rd S'
  obtain ⟨q, g1, _⟩ := ht S'
  obtain ⟨q2, g2, _⟩ := ho S'
  have e := h1 S' (Kp.refl _ _) 60 (by decide)
  have eq := g1 S' (Kp.refl _ _) 59 (by decide)
  have eq2 := g2 S' (Kp.refl _ _) 59 (by decide)
  have e2 : toPy 60 S' (.tup [.str "door", t, o]) = some (.tuple [.str "door", q, q2]) := by
    show (allPy (toPy 59 S') [.str "door", t, o]).map PyData.tuple = _
    have es : toPy 59 S' (.str "door") = some (.str "door") := rfl
    simp only [allPy, es, eq, eq2]
    rfl
  rw [e2] at e
  cases e
  refine p_neP (fun z => by simp) e2 h2 (by omega) ?_
  have hs : ((("door" : Str) == "store") = false) := by decide +kernel
  simp [PyData.eqv, PyData.eqvAll, hs]
def rowO (n i : Nat) : List D := ((List.range n).map fun j => D.int (j : Nat)).filterMap fun d => match d with
  | .int z => if z = (i : Int) then none else some d
  | _ => none
def rowT (n i : Nat) : List D := ((List.range n).map fun j => D.int (j : Nat)).filterMap fun d => match d with
  | .int z => some (if z = (i : Int) then .str "-" else .str "bow")
  | _ => none
theorem rowO_rd {n i : Nat} (h : n ≤ 5) : Rd [] 1 150 S (.tup (rowO n i)) := by
  refine rd_tup (k := 0) (w := 20) (fun x hx => ?_) (by decide) ?_
  · obtain ⟨a, h1, h2⟩ := List.mem_filterMap.mp hx
    obtain ⟨j, h3, rfl⟩ := List.mem_map.mp h1
    simp only at h2
    split at h2
    · cases h2
    · cases h2
      have := List.mem_range.mp h3
      exact rdi (by omega) (by decide)
  · have := List.length_filterMap_le (fun d => match d with
      | D.int z => if z = (i : Int) then none else some d
      | _ => none) ((List.range n).map fun j => D.int (j : Nat))
    rw [List.length_map, List.length_range] at this
    unfold rowO
    omega
theorem rowT_rd {n i : Nat} (h : n ≤ 5) : Rd [] 1 150 S (.tup (rowT n i)) := by
  refine rd_tup (k := 0) (w := 20) (fun x hx => ?_) (by decide) ?_
  · obtain ⟨a, h1, h2⟩ := List.mem_filterMap.mp hx
    obtain ⟨j, h3, rfl⟩ := List.mem_map.mp h1
    simp only at h2
    cases h2
    split
    · exact rd_word (by decide +kernel) (by decide +kernel)
    · exact rd_word (by decide +kernel) (by decide +kernel)
  · have := List.length_filterMap_le (fun d => match d with
      | D.int z => some (if z = (i : Int) then D.str "-" else D.str "bow")
      | _ => none) ((List.range n).map fun j => D.int (j : Nat))
    rw [List.length_map, List.length_range] at this
    unfold rowT
    omega
theorem rows_rd {n : Nat} {f : Nat → List D} (h : n ≤ 5) (hf : ∀ i S, Rd [] 1 150 S (.tup (f i))) : ∀ S, Rd [] 2 1000 S (.tup (((List.range n).map fun j => D.int (j : Nat)).filterMap fun d => match d with
    | .int z => some (.tup (f z.toNat))
    | _ => none)) := fun S => by
  refine rd_tup (k := 1) (w := 150) (fun x hx => ?_) (by decide) ?_
  · obtain ⟨a, h1, h2⟩ := List.mem_filterMap.mp hx
    obtain ⟨j, h3, rfl⟩ := List.mem_map.mp h1
    simp only at h2
    cases h2
    exact hf _ _
  · have := List.length_filterMap_le (fun d => match d with
      | D.int z => some (D.tup (f z.toNat))
      | _ => none) ((List.range n).map fun j => D.int (j : Nat))
    rw [List.length_map, List.length_range] at this
    omega
theorem ways_ok {R : Nat} {ws : List (List Stp)} (H : HOk R ws) {x : D} (hx : x ∈ ws.map wayD) : (∀ S', Rd [] 20 5000 S' x) ∧ ∃ ss, x = .tup ss ∧ ss.length ≤ 1000 ∧ (∀ s ∈ ss, ∃ x r, s = D.tup (.str x :: r)) ∧ trW x = ss.any hdTry := by
  obtain ⟨h1, ss, rfl, h2, h3, h4⟩ := way_ok H hx
  exact ⟨h1, ss, rfl, h2, h3, rfl⟩
def tryWay : D := .tup [.tup [.str "try", .int 0, .str "alone"], .tup [.str "out", .int 0]]
theorem try_ok : (∀ S', Rd [] 20 5000 S' tryWay) ∧ ∃ ss, tryWay = .tup ss ∧ ss.length ≤ 1000 ∧ (∀ s ∈ ss, ∃ x r, s = D.tup (.str x :: r)) ∧ trW tryWay = ss.any hdTry := by
  refine ⟨fun S' => ?_, _, rfl, by decide, fun s hs => ?_, rfl⟩
  · refine rd_tup (k := 1) (w := 100) (fun x hx => ?_) (by decide) (by show 2 * (100 + 1) ≤ 5000; decide)
    simp only [List.mem_cons, List.not_mem_nil, or_false] at hx
    rcases hx with rfl | rfl
    · refine rd_tup (k := 0) (w := 20) (fun x hx => ?_) (by decide) (by show 3 * (20 + 1) ≤ 100; decide)
      simp only [List.mem_cons, List.not_mem_nil, or_false] at hx
      rcases hx with rfl | rfl | rfl
      · exact rd_word (by decide +kernel) (by decide +kernel)
      · exact rdi (by decide) (by decide)
      · exact rd_word (by decide +kernel) (by decide +kernel)
    · refine rd_tup (k := 0) (w := 20) (fun x hx => ?_) (by decide) (by show 2 * (20 + 1) ≤ 100; decide)
      simp only [List.mem_cons, List.not_mem_nil, or_false] at hx
      rcases hx with rfl | rfl
      · exact rd_word (by decide +kernel) (by decide +kernel)
      · exact rdi (by decide) (by decide)
  · simp only [List.mem_cons, List.not_mem_nil, or_false] at hs
    rcases hs with rfl | rfl <;> exact ⟨_, _, rfl⟩
theorem not_calm {rooms ways : List D} (h1 : ∀ x ∈ rooms, (∀ S', opNe x (.tup [.str "store", .non]) S' = .ok (.bl (badR x)) S') ∧ ∀ S', Rd [] 20 5000 S' x)
    (h2 : ∀ w ∈ ways, (∀ S', Rd [] 20 5000 S' w) ∧ ∃ ss, w = .tup ss ∧ ss.length ≤ 1000 ∧ (∀ s ∈ ss, ∃ x r, s = D.tup (.str x :: r)) ∧ trW w = ss.any hdTry) (hl1 : rooms.length ≤ 1000) (hl2 : ways.length ≤ 1000)
    (hb : (∃ x ∈ rooms, badR x = true) ∨ ∃ w ∈ ways, trW w = true) : NotCalm (.tup [.tup rooms, .tup ways]) := fun S => by
  have := r_is_calm (S := S) badR trW h1 h2 hl1 hl2
  have e : (!rooms.any badR && !ways.any trW) = false := by
    rcases hb with hb | hb
    · have : rooms.any badR = true := List.any_eq_true.mpr hb
      rw [this]
      rfl
    · have : ways.any trW = true := List.any_eq_true.mpr hb
      rw [this]
      simp
  rw [e] at this
  exact this
theorem r_no_calm {R : Nat} {ws : List (List Stp)} (Dk : Deck kd kg S) (H : HOk R ws) : ∀ dH : D, dH = houseD R ws → Ok (d_law_no_calm [.cell kd, dH] S) fun r S' => NotCalm r ∧ Dw kd kg S S' := by
  intro dH eH
  have r5 := H.r5
  have w5 := H.w5
  have hrl : (List.replicate R roomD).length = R := List.length_replicate ..
  have rok : ∀ x ∈ List.replicate R roomD, (∀ S', opNe x (.tup [.str "store", .non]) S' = .ok (.bl (badR x)) S') ∧ ∀ S', Rd [] 20 5000 S' x := fun x hx => rooms_ok x (List.mem_replicate.mp hx).2
  have wok : ∀ x ∈ ws.map wayD, _ := fun x hx => ways_ok H hx
  simp only [d_law_no_calm, b_law_no_calm, startD, o_fn]
  refine ⟨rfl, ?_⟩
  rw [o_seq, o_asg, eH]
  simp [houseD]
  have dr : Ok (d_law_draw [.cell kd, .int 3] S) fun r S' => ∃ i : Nat, r = .int (i : Nat) ∧ (1 ≤ 3 → i < 3) ∧ (i < 3 ∨ i = 0) ∧ Dw kd kg S S' := r_draw Dk (n := 3) (by omega)
  refine Ok.imp dr ?_
  rintro _ S1 ⟨sort, rfl, hs, _, D1, k1⟩
  have hs3 := hs (by omega)
  have hsort : sort = 0 ∨ sort = 1 ∨ sort = 2 := by omega
  rcases hsort with rfl | rfl | rfl
  · simp [lim_eq, cut_last]
    refine ⟨by omega, ⟨?_, D1, k1⟩⟩
    refine not_calm (fun x hx => ?_) (fun x hx => wok x hx) (by simp; omega) (by simp; omega) (.inl ⟨.tup [.str "store", bookD], ?_, rfl⟩)
    · rcases List.mem_append.mp hx with hx | hx
      · exact rok x ((List.mem_replicate.mpr ⟨by have := List.mem_replicate.mp hx; omega, (List.mem_replicate.mp hx).2⟩))
      · rw [List.mem_singleton.mp hx]
        exact book_ok
    · exact List.mem_append_right _ (List.mem_singleton.mpr rfl)
  · simp [lim_eq, cut_last]
    refine ⟨by omega, ?_, D1, k1⟩
    refine not_calm rok (fun x hx => ?_) (by simp; omega) (by simp; omega) (.inr ⟨tryWay, ?_, by decide +kernel⟩)
    · rcases List.mem_append.mp hx with hx | hx
      · exact wok x ((List.dropLast_sublist _).subset hx)
      · rw [List.mem_singleton.mp hx]
        exact try_ok
    · exact List.mem_append_right _ (List.mem_singleton.mpr rfl)
  · simp [lim_eq]
    have hn : ws.length ≤ 100000 := by omega
    refine ok_lcR (n := ws.length) (fun d => match d with | .int z => some (.tup (rowO ws.length z.toNat)) | _ => none) hn ?_ ?_ ?_
    · simp [Kp.refl]
    · intro i hi S2 k2
      refine ⟨_, set_nm, ?_⟩
      simp [wipeD]
      refine ⟨Kp.refl _ _, ?_⟩
      refine ok_lcR (n := ws.length) (fun d => match d with | .int z => if z = (i : Int) then none else some d | _ => none) hn ?_ ?_ ?_
      · simp [Kp.refl]
      · intro j hj S3 k3
        refine ⟨_, set_nm, ?_⟩
        by_cases hji : j = i
        · subst hji
          simp [wipeD, Kp.refl]
        · have h2 : ¬ ((j : Int) = (i : Int)) := fun z => hji (by omega)
          simp [wipeD, hji, h2, Kp.refl]
      · intro S3 c3 k3 hl3 hc3
        rw [b_tupL hc3]
        exact ⟨k3, rfl⟩
    · intro S2 c2 k2 hl2 hc2
      rw [b_tupL hc2, Ok_ok]
      refine ok_lcR (n := ws.length) (fun d => match d with | .int z => some (.tup (rowT ws.length z.toNat)) | _ => none) hn ?_ ?_ ?_
      · simp [Kp.refl]
      · intro i hi S3 k3
        refine ⟨_, set_nm, ?_⟩
        simp [wipeD]
        refine ⟨Kp.refl _ _, ?_⟩
        refine ok_lcR (n := ws.length) (fun d => match d with | .int z => some (if z = (i : Int) then .str "-" else .str "bow") | _ => none) hn ?_ ?_ ?_
        · simp [Kp.refl]
        · intro j hj S4 k4
          refine ⟨_, set_nm, ?_⟩
          by_cases hji : j = i
          · subst hji
            simp [wipeD, Kp.refl]
          · have h2 : ¬ ((j : Int) = (i : Int)) := fun z => hji (by omega)
            simp [wipeD, hji, h2, Kp.refl]
        · intro S4 c4 k4 hl4 hc4
          rw [b_tupL hc4]
          exact ⟨k4, rfl⟩
      · intro S3 c3 k3 hl3 hc3
        rw [b_tupL hc3, Ok_ok]
        have oT := rows_rd (n := ws.length) (f := rowT ws.length) w5 (fun i S => rowT_rd w5)
        have oO := rows_rd (n := ws.length) (f := rowO ws.length) w5 (fun i S => rowO_rd w5)
        generalize (((List.range ws.length).map fun j => D.int (j : Nat)).filterMap fun d => match d with | .int z => some (D.tup (rowT ws.length z.toNat)) | _ => none) = tT at *
        generalize (((List.range ws.length).map fun j => D.int (j : Nat)).filterMap fun d => match d with | .int z => some (D.tup (rowO ws.length z.toNat)) | _ => none) = tO at *
        refine ⟨by omega, ?_, (D1.kp k2).kp k3, k1.trans (k2.trans k3).of⟩
        refine not_calm (fun x hx => ?_) (fun x hx => wok x hx) (by simp; omega) (by simp; omega) (.inl ⟨_, List.mem_append_right _ (List.mem_singleton.mpr rfl), rfl⟩)
        rcases List.mem_append.mp hx with hx | hx
        · exact rok x hx
        · rw [List.mem_singleton.mp hx]
          exact door_ok oT oO
end
end Dn
set_option Elab.async false
set_option linter.all false
set_option maxRecDepth 100000
set_option maxHeartbeats 2000000
/-! Me_k78: the program's barred_foremost: the first breach. -/
noncomputable section
namespace Dn
open PySem L2
section
variable {S S' : Sto} {K : List Nat}
theorem flat_at {α : Type} {f : Nat → List α} {n i : Nat} (h : i < n) : ∃ T, (List.range n).flatMap f = (List.range i).flatMap f ++ (f i ++ T) := by
  obtain ⟨m, rfl⟩ : ∃ m, n = (i + 1) + m := ⟨n - (i + 1), by omega⟩
  rw [List.range_add, List.range_succ, List.flatMap_append, List.flatMap_append]
  exact ⟨_, by simp; rfl⟩
theorem filt_at {α : Type} {f : Nat → Option α} {n i : Nat} (h : i < n) : ∃ T, (List.range n).filterMap f = (List.range i).filterMap f ++ ((f i).toList ++ T) := by
  obtain ⟨m, rfl⟩ : ∃ m, n = (i + 1) + m := ⟨n - (i + 1), by omega⟩
  rw [List.range_add, List.range_succ, List.filterMap_append, List.filterMap_append]
  refine ⟨List.filterMap f (List.map (fun x => i + 1 + x) (List.range m)), ?_⟩
  cases hx : f i <;> simp [hx]
/-! ### who bars, a step -/
def barsT (ws : List (List Stp)) (ch : List (Option Nat)) (hand : Nat) (t : Th) (i : Nat) : Bool := match ch[i]? with
  | some (some k) => decide (i ≠ hand) && meetsT t (heldT (ws[i]?.getD []) k)
  | _ => false
theorem r_law_bars {R p0 hand : Nat} {ws : List (List Stp)} {cs : List Nat} {ch : List (Option Nat)} {t : Th} (H : HOk R ws) (P : PlanAt K S p0 ws cs) (hc : ChOk ws ch) :
    Ok (d_law_bars [houseD R ws, .cell p0, choiceD ch, .int (hand : Nat), t.d] S) fun r S' => Kp [] S S' ∧ ∃ c, r = .cell c ∧ S.length ≤ c ∧ S'[c]? = some (.lst (((List.range ws.length).filter (barsT ws ch hand t)).map fun i => D.int (i : Nat))) := by
  have w5 := H.w5
  have P0 := P.nil
  simp only [d_law_bars, b_law_bars, startD, o_fn]
  refine ⟨rfl, ?_⟩
  rw [o_seq, o_set]
  simp [lim_eq]
  refine ok_forET (xs := ch.map natD) ?I ?_ ?_ ?_
  case I => exact (fun i δ S' => Kp [] S S' ∧ (∃ v6 v7, δ = [some (houseD R ws), some (.cell p0), some (choiceD ch), some (.int (hand : Nat)), some t.d, some (.cell S.length), v6, v7]) ∧ S'[S.length]? = some (.lst (((List.range i).filter (barsT ws ch hand t)).map fun i => D.int (i : Nat))))
  · simp [choiceD]
    exact Kp.app _ _ _
  · rintro i δ S1 x hx ⟨k1, ⟨v6, v7, rfl⟩, hS⟩
    obtain ⟨o, ho, rfl⟩ := map_get hx
    have hi : i < ws.length := by
      rw [← hc.len]
      exact (List.getElem?_eq_some_iff.mp ho).1
    obtain ⟨w, hw⟩ : ∃ w, ws[i]? = some w := ⟨_, List.getElem?_eq_getElem hi⟩
    have hwm := List.mem_of_getElem? hw
    simp only [set_tp, setAll_cons, set_nm, setAll_nil, Option.bind_some]
    refine ⟨_, rfl, ?_⟩
    have eS : (List.range (i + 1)).filter (barsT ws ch hand t) = (List.range i).filter (barsT ws ch hand t) ++ (if barsT ws ch hand t i = true then [i] else []) := by
      rw [List.range_succ, List.filter_append]
      congr 1
      by_cases h : barsT ws ch hand t i = true <;> simp [h]
    have fl := List.length_filter_le (barsT ws ch hand t) (List.range i)
    rw [List.length_range] at fl
    by_cases c1 : i = hand
    · have hb : barsT ws ch hand t i = false := by
        unfold barsT
        rw [ho]
        cases o <;> simp [c1]
      rw [hb] at eS
      have c2 : ((i : Nat) : Int) = (hand : Int) := by omega
      simp [c2, k1, eS]
      simpa using hS
    · have c2 : ¬ ((i : Nat) : Int) = (hand : Int) := by omega
      cases o with
      | none =>
        have hb : barsT ws ch hand t i = false := by
          unfold barsT
          rw [ho]
        rw [hb] at eS
        simp [c2, natD, k1, eS]
        simpa using hS
      | some k =>
        have hb : barsT ws ch hand t i = meetsT t (heldT w k) := by
          unfold barsT
          rw [ho, hw]
          simp [c1]
        have hk := hc.lt i k w hw ho
        have P1 := P0.mono k1
        obtain ⟨cc, rs, h1, _, h2, h3, h4⟩ := P1.get hw
        obtain ⟨s, hs⟩ : ∃ s, w[k]? = some s := ⟨_, List.getElem?_eq_getElem hk⟩
        obtain ⟨z, hz⟩ := h4 k s hs
        have hin : ∀ u ∈ heldT w k, u.1 < R := fun u hu => H.inr w hwm u (heldT_mem k u hu)
        simp [c2, natD, P1.ix h1, p_ixL h2 hz, r_law_meets hin]
        rw [hb] at eS
        cases hm : meetsT t (heldT w k) with
        | false =>
          rw [hm] at eS
          simp [k1, eS]
          simpa using hS
        | true =>
          rw [hm] at eS
          simp [eS]
          refine ⟨isL_cell hS, ?_⟩
          rw [m_app hS (by rw [List.length_map, lim_eq]; omega)]
          refine ⟨k1.set (.inl (Nat.le_refl _)) _, ?_⟩
          rw [get_set hS]
  · rintro δ S1 ⟨k1, ⟨v6, v7, rfl⟩, hS⟩
    rw [List.length_map, hc.len] at hS
    simp
    exact ⟨k1, hS⟩
def putT (ws : List (List Stp)) (ch : List (Option Nat)) (hand k : Nat) : List (Option Nat) := ch.set hand (if k = (ws[hand]?.getD []).length then none else some k)
theorem set_cut {α : Type} {l : List α} {n : Nat} {a : α} (h : n < l.length) : l.set n a = l.take n ++ [a] ++ l.drop (n + 1) := by
  rw [List.set_eq_take_append_cons_drop, if_pos h]
  simp
theorem r_law_put {R p0 hand k : Nat} {ws : List (List Stp)} {cs : List Nat} {ch : List (Option Nat)} {w : List Stp} (H : HOk R ws) (P : PlanAt K S p0 ws cs) (hc : ch.length = ws.length) (hw : ws[hand]? = some w) :
    d_law_put [.cell p0, choiceD ch, .int (hand : Nat), .int (k : Nat)] S = .ok (choiceD (putT ws ch hand k)) S := by
  have w5 := H.w5
  refine eqOf ?_
  have hh : hand < ws.length := (List.getElem?_eq_some_iff.mp hw).1
  obtain ⟨cc, rs, h1, _, h2, h3, h4⟩ := P.get hw
  have hlen : ((ch.map natD).length) = ws.length := by rw [List.length_map, hc]
  have e1 : cutD (ch.map natD) none (some (hand : Nat)) = (ch.map natD).take hand := cut_to
  have e2 : cutD (ch.map natD) (some ((hand : Int) + 1)) none = (ch.map natD).drop (hand + 1) := by
    have a1 : (hand : Int) + 1 = ((hand + 1 : Nat) : Int) := by omega
    rw [a1]
    exact cut_from
  have e3 : ∀ d : D, (ch.map natD).take hand ++ (d :: (ch.map natD).drop (hand + 1)) = (ch.map natD).set hand d := fun d => by
    rw [set_cut (by omega)]
    simp
  simp [d_law_put, b_law_put, startD, P.ix h1, b_lenL h2, h3]
  by_cases c1 : k = w.length
  · have c2 : (k : Int) = (w.length : Int) := by omega
    simp [c2, choiceD, e1, e2, lim_eq, putT, hw, c1]
    exact ⟨by omega, by omega, e3 _⟩
  · have c2 : ¬ (k : Int) = (w.length : Int) := by omega
    simp [c2, choiceD, e1, e2, lim_eq, putT, hw, c1]
    exact ⟨by omega, by omega, e3 _⟩
end
end Dn
set_option Elab.async false
set_option linter.all false
set_option maxRecDepth 100000
set_option maxHeartbeats 2000000
/-! Mf_k78: drawn choices. -/
noncomputable section
namespace Dn
open PySem L2
section
variable {S S' : Sto} {K : List Nat} {kd kg : Nat}
theorem p_mulT1 {x : D} {n : Nat} (h1 : 1 ≤ n) (h2 : n ≤ 1000) : opMul (.tup [x]) (.int (n : Nat)) S = .ok (.tup (List.replicate n x)) S := by
  unfold opMul
  have h3 : decide ([x] ≠ [] ∧ 1 ≤ ((n : Nat) : Int) ∧ ((n : Nat) : Int) ≤ 1000 ∧ [x].length ≤ 100) = true := decide_eq_true ⟨by simp, by omega, by omega, by simp⟩
  have e : (List.replicate ((n : Nat) : Int).toNat [x]).flatten = List.replicate n x := by
    rw [Int.toNat_natCast]
    clear h3 h1 h2
    induction n with
    | zero => rfl
    | succ n ih => rw [List.replicate_succ, List.flatten_cons, ih]; rfl
  simp only [h3, if_true, e]
theorem restD {n : Nat} : D.tup (List.replicate n .non) = choiceD (List.replicate n none) := by
  unfold choiceD
  rw [List.map_replicate]
  rfl
theorem rest_ok {ws : List (List Stp)} : ChOk ws (List.replicate ws.length none) := ⟨List.length_replicate .., fun i k w _ h => by
  rw [List.getElem?_replicate] at h
  split at h <;> cases h⟩
theorem put_ok {ws : List (List Stp)} {ch : List (Option Nat)} {hand k : Nat} {w : List Stp} (hc : ChOk ws ch) (hw : ws[hand]? = some w) (hk : k ≤ w.length) : ChOk ws (putT ws ch hand k) := by
  refine ⟨by rw [putT, List.length_set]; exact hc.len, fun i j u hu h => ?_⟩
  unfold putT at h
  rw [hw, Option.getD_some] at h
  by_cases hi : hand = i
  · subst hi
    rw [hw] at hu
    cases hu
    have hl : hand < ch.length := by
      rw [hc.len]
      exact (List.getElem?_eq_some_iff.mp hw).1
    rw [List.getElem?_set_self hl] at h
    have h' := Option.some.inj h
    split at h'
    · cases h'
    · cases h'
      omega
  · rw [List.getElem?_set_ne hi] at h
    exact hc.lt i j u hu h
def thG (ws : List (List Stp)) (ch : List (Option Nat)) (hand : Nat) (d : D) : Option D := match d with
  | .tup [.int r, .str m] => if (((List.range ws.length).filter (barsT ws ch hand (r.toNat, decide (m = "beside")))).map fun i => D.int (i : Nat)).isEmpty = true then none else some d
  | _ => none
theorem rd_nats {l : List Nat} (h : ∀ i ∈ l, i < 64) : ∀ x ∈ l.map (fun i => D.int (i : Nat)), Rd K 0 8 S x := fun x hx => by
  obtain ⟨i, hi, rfl⟩ := List.mem_map.mp hx
  refine rd_int (b := 5) ?_ (by decide) (by decide)
  have := h i hi
  show ((i : Nat) : Int).natAbs < 2 ^ 6
  simpa using this
theorem r_law_choice {R p0 : Nat} {ws : List (List Stp)} {cs : List Nat} (Dk : Deck kd kg S) (H : HOk R ws) (P : PlanAt [kd, kg] S p0 ws cs) :
    ∀ dH : D, dH = houseD R ws → Ok (d_law_choice [.cell kd, dH, .cell p0] S) fun r S' => Dw kd kg S S' ∧ ∃ ch, r = choiceD ch ∧ ChOk ws ch := by
  intro dH eH
  have w1 := H.w1
  have w5 := H.w5
  simp only [d_law_choice, b_law_choice, startD, o_fn]
  refine ⟨rfl, ?_⟩
  rw [o_seq, o_set]
  simp [P.nil.len', lim_eq]
  rw [p_mulT1 (by omega) (by omega), Ok_ok, restD]
  have hn : ws.length ≤ 1000000 := by omega
  refine ok_forR hn ?I ?_ ?_ ?_
  case I => exact (fun i δ S' => Dw kd kg S S' ∧ ∃ ch v4 v5 v6 v7, δ = [some (.cell kd), some dH, some (.cell p0), some (choiceD ch), v4, v5, v6, v7] ∧ ChOk ws ch)
  · simp [P.nil.len']
    exact ⟨⟨Dk, Kp.refl _ _⟩, _, rfl, rest_ok⟩
  · rintro i δ S1 hi ⟨⟨D1, k1⟩, ch, v4, v5, v6, v7, rfl, hc⟩
    obtain ⟨w, hw⟩ : ∃ w, ws[i]? = some w := ⟨_, List.getElem?_eq_getElem hi⟩
    have hwm := List.mem_of_getElem? hw
    have hlen := H.len w hwm
    have hlen1 := H.len1 w hwm
    have P1 := P.mono k1
    obtain ⟨cc, rs, h1, hcK, h2, h3, h4⟩ := P1.get hw
    refine ⟨_, set_nm, ?_⟩
    simp [P1.nil.ix h1, b_lenL h2, h3]
    refine Ok.imp (r_draw D1 (n := w.length) (by omega)) ?_
    rintro r S2 ⟨pl, rfl, hpl, _, D2, k2⟩
    have hp := hpl hlen1
    have P2 := P1.mono k2
    obtain ⟨s, hs⟩ : ∃ s, w[pl]? = some s := ⟨_, List.getElem?_eq_getElem hp⟩
    obtain ⟨z, hz⟩ := h4 pl s hs
    have h2' := k2.get _ _ hcK h2
    have hhl := heldT_len w pl
    refine ok_lcT (xs := (heldT w pl).map Th.d) (thG ws ch i) ?_ (by rw [List.length_map, lim_eq]; omega) ?_ ?_
    · simp [P2.nil.ix h1, p_ixL h2' hz, thsD, Kp.refl]
    · intro x hx S3 k3
      obtain ⟨t, ht, rfl⟩ := List.mem_map.mp hx
      have P3 := P2.mono (k3.of (K := [kd, kg]))
      refine ⟨_, set_nm, ?_⟩
      simp [wipeD]
      rw [eH]
      refine Ok.imp (r_law_bars H P3 hc) ?_
      rintro r S4 ⟨k4, c4, rfl, hl4, hc4⟩
      have hc5 := (Kp.app [] S4 [C.lst []]).get _ _ (by simp) hc4
      have e := p_neNil (S := S4 ++ [.lst []]) (k := 0) (w := 8) hc5 (rd_nats fun i hi => by
        have := List.mem_range.mp (List.mem_filter.mp hi).1
        omega) (by decide) (get_push S4 _)
      rw [e, Ok_ok]
      have k45 := k4.push [C.lst []]
      have ed : decide ((if t.2 = true then ("beside" : Str) else "alone") = "beside") = t.2 := by cases t.2 <;> simp
      have eg : thG ws ch i t.d = if (((List.range ws.length).filter (barsT ws ch i t)).map fun i => D.int (i : Nat)).isEmpty = true then none else some t.d := by
        show (if (((List.range ws.length).filter (barsT ws ch i (((t.1 : Nat) : Int).toNat, decide ((if t.2 = true then ("beside" : Str) else "alone") = "beside")))).map fun i => D.int (i : Nat)).isEmpty = true then none else some t.d) = _
        rw [ed, Int.toNat_natCast]
      rw [eg]
      generalize (((List.range ws.length).filter (barsT ws ch i t)).map fun i => D.int (i : Nat)).isEmpty = b
      cases b <;> simp [k45]
    · intro S3 c3 k3 hl3 hc3
      have k13 := k1.trans (k2.trans (k3.of (K := [kd, kg])))
      have D3 := (D2.kp k3)
      have hc3' := (Kp.app [] S3 [C.lst []]).get _ _ (by simp) hc3
      have e := p_eqNil (S := S3 ++ [.lst []]) (k := 1) (w := 40) hc3' (fun x hx => by
        obtain ⟨a, h5, h6⟩ := List.mem_filterMap.mp hx
        obtain ⟨t, ht, rfl⟩ := List.mem_map.mp h5
        have ex : x = t.d := by
          unfold thG at h6
          split at h6
          · split at h6
            · cases h6
            · exact (Option.some.inj h6).symm
          · cases h6
        rw [ex]
        exact rd_th (H.inr w hwm t (heldT_mem pl t ht)) H.r5) (by decide) (get_push S3 _)
      have D4 := D3.push [C.lst []]
      have k14 := k13.push [C.lst []]
      have P4 := P.mono k14
      generalize (List.filterMap (thG ws ch i) ((heldT w pl).map Th.d)).isEmpty = b at e
      simp [lim_eq, e]
      cases b with
      | false => exact Or.inl ⟨rfl, ⟨D4, k14⟩, ch, rfl, hc⟩
      | true =>
        refine Or.inr ⟨rfl, ?_⟩
        refine Ok.imp (r_draw D4 (n := 4) (by omega)) ?_
        rintro r S5 ⟨j, rfl, hj, _, D5, k5⟩
        have P5 := P4.mono k5
        have k15 := k14.trans k5
        rw [p_gt, Ok_ok]
        by_cases hj0 : 0 < ((j : Nat) : Int)
        · refine Or.inr ⟨by simp; omega, ?_⟩
          rw [r_law_put H P5 hc.len hw, Ok_ok]
          exact ⟨⟨D5, k15⟩, _, rfl, put_ok hc hw (by omega)⟩
        · exact Or.inl ⟨by simp; omega, ⟨D5, k15⟩, ch, rfl, hc⟩
  · rintro δ S1 ⟨D1, ch, v4, v5, v6, v7, rfl, hc⟩
    simp
    exact ⟨D1, ch, rfl, hc⟩
end
end Dn
set_option Elab.async false
set_option linter.all false
set_option maxRecDepth 100000
set_option maxHeartbeats 2000000
/-! Mg_k78: things_at, blockers, movers_at. -/
noncomputable section
namespace Dn
open PySem L2
section
variable {S S' : Sto} {K : List Nat}
/-- what a hand holds at a choice -/
def atT (ws : List (List Stp)) (ch : List (Option Nat)) (i : Nat) : List Th := match ch[i]? with
  | some (some k) => heldT (ws[i]?.getD []) k
  | _ => []
theorem r_things_at {R i : Nat} {ws : List (List Stp)} {ch : List (Option Nat)} (H : HOk R ws) (hc : ChOk ws ch) (hi : i < ws.length) :
    Ok (d_things_at [houseD R ws, choiceD ch, .int (i : Nat)] S) fun r S' => r = thsD (atT ws ch i) ∧ Kp [] S S' := by
  obtain ⟨w, hw⟩ : ∃ w, ws[i]? = some w := ⟨_, List.getElem?_eq_getElem hi⟩
  have hwm := List.mem_of_getElem? hw
  obtain ⟨o, ho⟩ : ∃ o, ch[i]? = some o := ⟨_, List.getElem?_eq_getElem (by rw [hc.len]; exact hi)⟩
  have ixh : ∀ (S : Sto), opIx (houseD R ws) (.int 1) S = .ok (.tup (ws.map wayD)) S := fun S => rfl
  have ixw : ∀ (S : Sto), opIx (.tup (ws.map wayD)) (.int (i : Nat)) S = .ok (wayD w) S := fun S => p_ixT (by simp [hw])
  have ixc : ∀ (S : Sto), opIx (choiceD ch) (.int (i : Nat)) S = .ok (natD o) S := fun S => p_ixT (by simp [ho])
  have hlen := H.len w hwm
  cases o with
  | none =>
    have e : atT ws ch i = [] := by simp [atT, ho]
    simp [d_things_at, b_things_at, startD, ixc, natD, e, lim_eq, thsD, Kp.refl]
  | some k =>
    have hk := hc.lt i k w hw ho
    have e : atT ws ch i = heldT w k := by simp [atT, ho, hw]
    simp [d_things_at, b_things_at, startD, ixh, ixw, ixc, natD, e]
    exact r_held (H.nest w hwm) (by omega) (by omega)
def wishC (ws : List (List Stp)) (ch : List (Option Nat)) (hand : Nat) : Option Th := match ch[hand]? with
  | some (some k) => match (ws[hand]?.getD [])[k]? with
    | some s => wishT s
    | none => none
  | _ => none
def blkT (ws : List (List Stp)) (ch : List (Option Nat)) (hand : Nat) : List Nat := match wishC ws ch hand with
  | none => []
  | some t => (List.range ws.length).filter (barsT ws ch hand t)
theorem barsT_at {ws : List (List Stp)} {ch : List (Option Nat)} {hand i : Nat} {t : Th} : barsT ws ch hand t i = (decide (i ≠ hand) && meetsT t (atT ws ch i)) := by
  unfold barsT atT
  cases h : ch[i]? with
  | none => simp [meetsT]
  | some o => cases o with
    | none => simp [meetsT]
    | some k => rfl
theorem filt_rng {n : Nat} (p : Nat → Bool) (F : D → Option D) (hF : ∀ i, i < n → F (.int (i : Nat)) = if p i = true then some (.int (i : Nat)) else none) : ((List.range n).map fun i => D.int (i : Nat)).filterMap F = ((List.range n).filter p).map fun i => D.int (i : Nat) := by
  have gen : ∀ l : List Nat, (∀ i ∈ l, i < n) → (l.map fun i => D.int (i : Nat)).filterMap F = (l.filter p).map fun i => D.int (i : Nat) := by
    intro l
    induction l with
    | nil => intro _; rfl
    | cons i l ih =>
      intro h
      rw [List.map_cons, List.filterMap_cons, hF i (h i List.mem_cons_self), List.filter_cons, ih fun j hj => h j (List.mem_cons_of_mem _ hj)]
      by_cases hp : p i = true
      · rw [if_pos hp, if_pos hp]
        rfl
      · rw [if_neg hp, if_neg hp]
  exact gen _ fun i hi => List.mem_range.mp hi
theorem filt_lst {l : List Nat} (p : Nat → Bool) (F : D → Option D) (hF : ∀ i, i ∈ l → F (.int (i : Nat)) = if p i = true then some (.int (i : Nat)) else none) : (l.map fun i => D.int (i : Nat)).filterMap F = (l.filter p).map fun i => D.int (i : Nat) := by
  induction l with
  | nil => rfl
  | cons i l ih =>
    rw [List.map_cons, List.filterMap_cons, hF i List.mem_cons_self, List.filter_cons, ih fun j hj => hF j (List.mem_cons_of_mem _ hj)]
    by_cases hp : p i = true
    · rw [if_pos hp, if_pos hp]
      rfl
    · rw [if_neg hp, if_neg hp]
def intF (p : Nat → Bool) : D → Option D
  | .int i => if p i.toNat = true then some (.int i) else none
  | _ => none
theorem intF_n {p : Nat → Bool} {i : Nat} : intF p (.int (i : Nat)) = if p i = true then some (.int (i : Nat)) else none := by simp [intF]
theorem r_blockers {R hand : Nat} {ws : List (List Stp)} {ch : List (Option Nat)} (H : HOk R ws) (hc : ChOk ws ch) (hh : hand < ws.length) :
    Ok (d_blockers [houseD R ws, choiceD ch, .int (hand : Nat)] S) fun r S' => Kp [] S S' ∧ ∃ c, r = .cell c ∧ S.length ≤ c ∧ S'[c]? = some (.lst ((blkT ws ch hand).map fun i => D.int (i : Nat))) := by
  have w5 := H.w5
  obtain ⟨w, hw⟩ : ∃ w, ws[hand]? = some w := ⟨_, List.getElem?_eq_getElem hh⟩
  have hwm := List.mem_of_getElem? hw
  obtain ⟨o, ho⟩ : ∃ o, ch[hand]? = some o := ⟨_, List.getElem?_eq_getElem (by rw [hc.len]; exact hh)⟩
  have ixh : ∀ (S : Sto), opIx (houseD R ws) (.int 1) S = .ok (.tup (ws.map wayD)) S := fun S => rfl
  have ixw : ∀ (S : Sto), opIx (.tup (ws.map wayD)) (.int (hand : Nat)) S = .ok (wayD w) S := fun S => p_ixT (by simp [hw])
  have ixc : ∀ (S : Sto), opIx (choiceD ch) (.int (hand : Nat)) S = .ok (natD o) S := fun S => p_ixT (by simp [ho])
  have lenc : ∀ (S : Sto), bLen [choiceD ch] S = .ok (.int (ws.length : Nat)) S := fun S => by simp [choiceD, hc.len]
  have nothing : wishC ws ch hand = none → Ok (dLst dNil (([some (houseD R ws), some (choiceD ch), some (.int (hand : Nat)), some .non, none, none]) : En) S) fun r S' => Kp [] S S' ∧ ∃ c, r = .cell c ∧ S.length ≤ c ∧ S'[c]? = some (.lst ((blkT ws ch hand).map fun i => D.int (i : Nat))) := fun z => by
    have e : blkT ws ch hand = [] := by simp [blkT, z]
    simp [e, lim_eq]
    exact Kp.app _ _ _
  cases o with
  | none =>
    have z : wishC ws ch hand = none := by simp [wishC, ho]
    have e : blkT ws ch hand = [] := by simp [blkT, z]
    simp [d_blockers, b_blockers, startD, ixc, natD, e, lim_eq]
    exact Kp.app _ _ _
  | some k =>
    have hk := hc.lt hand k w hw ho
    obtain ⟨s, hs⟩ : ∃ s, w[k]? = some s := ⟨_, List.getElem?_eq_getElem hk⟩
    have zw : wishC ws ch hand = wishT s := by simp [wishC, ho, hw, hs]
    have ew : ∀ (S : Sto), d_wish [wayD w, .int (k : Nat)] S = .ok ((wishT s).elim .non Th.d) S := fun S => r_wish hs
    cases ht : wishT s with
    | none =>
      rw [ht] at zw ew
      have e : blkT ws ch hand = [] := by simp [blkT, zw]
      simp [d_blockers, b_blockers, startD, ixc, natD, ixh, ixw, ew, e, lim_eq]
      exact Kp.app _ _ _
    | some t =>
      rw [ht] at zw ew
      have e : blkT ws ch hand = (List.range ws.length).filter (barsT ws ch hand t) := by simp [blkT, zw]
      have htR : t.1 < R := by
        cases s with
        | out r => cases ht
        | inn u =>
          cases ht
          exact H.inr w hwm _ (List.mem_of_getElem? hs)
      have nd : isNon t.d = false := rfl
      simp [d_blockers, b_blockers, startD, ixc, natD, ixh, ixw, ew, nd]
      refine ok_lcR (n := ws.length) (intF fun i => decide (i ≠ hand)) (by omega) ?_ ?_ ?_
      · simp [lenc, Kp.refl]
      · intro i hi S1 k1
        refine ⟨_, set_nm, ?_⟩
        simp [wipeD, intF_n]
        by_cases q : i = hand
        · have q2 : (i : Int) = (hand : Int) := by omega
          simp [q, q2, Kp.refl]
        · have q2 : ¬ (i : Int) = (hand : Int) := by omega
          simp [q, q2, Kp.refl]
      · intro S1 c k1 hl1 hc1
        rw [filt_rng (fun i => decide (i ≠ hand)) _ fun i hi => intF_n] at hc1
        have lmem : ∀ i ∈ (List.range ws.length).filter (fun i => decide (i ≠ hand)), i < ws.length ∧ i ≠ hand := fun i hi => by
          obtain ⟨h1, h2⟩ := List.mem_filter.mp hi
          exact ⟨List.mem_range.mp h1, of_decide_eq_true h2⟩
        have ll : ((List.range ws.length).filter (fun i => decide (i ≠ hand))).length ≤ ws.length := by
          have := List.length_filter_le (fun i => decide (i ≠ hand)) (List.range ws.length)
          rw [List.length_range] at this
          exact this
        refine ok_lcL (c0 := c) (xs := ((List.range ws.length).filter (fun i => decide (i ≠ hand))).map fun i => D.int (i : Nat)) (intF (barsT ws ch hand t)) ?_ hc1 (by rw [List.length_map, lim_eq]; omega) ?_ ?_
        · simp [Kp.refl]
        · intro x hx S2 k2
          obtain ⟨i, hi, rfl⟩ := List.mem_map.mp hx
          obtain ⟨hi1, hi2⟩ := lmem i hi
          refine ⟨_, set_nm, ?_⟩
          simp [wipeD, intF_n]
          refine Ok.imp (r_things_at H hc hi1) ?_
          rintro r S3 ⟨rfl, k3⟩
          have hal : (atT ws ch i).length ≤ 1000 := by
            unfold atT
            split
            · rename_i k' hk'
              obtain ⟨wi, hwi⟩ : ∃ w, ws[i]? = some w := ⟨_, List.getElem?_eq_getElem hi1⟩
              have h1 := heldT_len (ws[i]?.getD []) k'
              have h2 := hc.lt i k' wi hwi hk'
              have h3 := H.len wi (List.mem_of_getElem? hwi)
              omega
            · simp
          refine Ok.imp (r_does_clash htR hal) ?_
          rintro r S4 ⟨rfl, k4⟩
          rw [barsT_at]
          have hd : decide (i ≠ hand) = true := decide_eq_true hi2
          rw [hd, Bool.true_and]
          have k34 := k3.trans k4
          cases meetsT t (atT ws ch i) <;> simp [k34]
        · intro S2 c2 k2 hl2 hc2
          rw [filt_lst (barsT ws ch hand t) _ fun i hi => intF_n] at hc2
          rw [e]
          have ef : ((List.range ws.length).filter (fun i => decide (i ≠ hand))).filter (barsT ws ch hand t) = (List.range ws.length).filter (barsT ws ch hand t) := by
            rw [List.filter_filter]
            congr 1
            funext i
            rw [barsT_at]
            cases decide (i ≠ hand) <;> simp
          rw [ef] at hc2
          have le := k1.le
          exact ⟨k1.trans k2, c2, rfl, by omega, hc2⟩
end
end Dn
set_option Elab.async false
set_option linter.all false
set_option maxRecDepth 100000
set_option maxHeartbeats 2000000
/-! Mh_k78: movers_at, highest. -/
noncomputable section
namespace Dn
open PySem L2
section
variable {S S' : Sto} {K : List Nat}
def actB (ch : List (Option Nat)) (h : Nat) : Bool := match ch[h]? with
  | some (some _) => true
  | _ => false
def movB (ws : List (List Stp)) (ch : List (Option Nat)) (h : Nat) : Bool := actB ch h && (blkT ws ch h).isEmpty
def movT (ws : List (List Stp)) (ch : List (Option Nat)) : List Nat := (List.range ws.length).filter (movB ws ch)
def actF : D → Option D
  | .tup [i, d] => if isNon d = true then none else some i
  | _ => none
theorem act_list : ∀ ch : List (Option Nat), ((ch.map natD).mapIdx fun i x => D.tup [.int (i : Nat), x]).filterMap actF = ((List.range ch.length).filter (actB ch)).map fun i => D.int (i : Nat) := by
  intro ch
  have gen : ∀ (l : List (Option Nat)) (o : Nat), ((l.map natD).mapIdx fun i x => D.tup [.int ((o + i : Nat) : Int), x]).filterMap actF = ((List.range l.length).filter (actB l)).map fun i => D.int ((o + i : Nat) : Int) := by
    intro l
    induction l with
    | nil => intro o; rfl
    | cons s l ih =>
      intro o
      have e1 : (List.range (l.length + 1)).filter (actB (s :: l)) = (if actB (s :: l) 0 = true then [0] else []) ++ ((List.range l.length).filter (actB l)).map (· + 1) := by
        have e3 : (actB (s :: l) ∘ fun x => x + 1) = actB l := by
          funext i
          simp [actB]
        rw [List.range_succ_eq_map, List.filter_cons, List.filter_map]
        show (if actB (s :: l) 0 = true then 0 :: _ else _) = _
        have e4 : (actB (s :: l) ∘ Nat.succ) = actB l := e3
        rw [e4]
        split <;> rfl
      have ih2 := ih (o + 1)
      have e2 : (fun (i : Nat) (x : D) => D.tup [.int ((o + (i + 1) : Nat) : Int), x]) = fun (i : Nat) (x : D) => D.tup [.int ((o + 1 + i : Nat) : Int), x] := by
        funext i x
        have : o + (i + 1) = o + 1 + i := by omega
        rw [this]
      have e5 : (fun (i : Nat) => D.int ((o + (i + 1) : Nat) : Int)) = fun (i : Nat) => D.int ((o + 1 + i : Nat) : Int) := by
        funext i
        have : o + (i + 1) = o + 1 + i := by omega
        rw [this]
      rw [List.map_cons, List.mapIdx_cons, List.length_cons, e1, List.map_append, List.map_map, List.filterMap_cons]
      have e6 : ((fun (i : Nat) => D.int ((o + i : Nat) : Int)) ∘ fun x => x + 1) = fun (i : Nat) => D.int ((o + 1 + i : Nat) : Int) := e5
      rw [e2, ih2, e6]
      cases s with
      | none => simp [actB, actF, natD, isNon]
      | some k => simp [actB, actF, natD, isNon]
  have := gen ch 0
  simpa using this
theorem r_movers_at {R : Nat} {ws : List (List Stp)} {ch : List (Option Nat)} (H : HOk R ws) (hc : ChOk ws ch) :
    Ok (d_movers_at [houseD R ws, choiceD ch] S) fun r S' => Kp [] S S' ∧ ∃ c, r = .cell c ∧ S.length ≤ c ∧ S'[c]? = some (.lst ((movT ws ch).map fun i => D.int (i : Nat))) := by
  have w5 := H.w5
  have hcl := hc.len
  simp [d_movers_at, b_movers_at, startD]
  refine ok_lcET (xs := ch.map natD) actF ?_ (by simp [lim_eq]; omega) ?_ ?_
  · simp [choiceD, Kp.refl]
  · intro i x hx S1 k1
    obtain ⟨o, ho, rfl⟩ := map_get hx
    simp [wipeD]
    cases o <;> simp [natD, actF, isNon, Kp.refl]
  · intro S1 c k1 hl1 hc1
    rw [act_list] at hc1
    have lmem : ∀ i ∈ (List.range ch.length).filter (actB ch), i < ws.length ∧ actB ch i = true := fun i hi => by
      obtain ⟨h1, h2⟩ := List.mem_filter.mp hi
      exact ⟨by rw [← hcl]; exact List.mem_range.mp h1, h2⟩
    have ll : ((List.range ch.length).filter (actB ch)).length ≤ ws.length := by
      have := List.length_filter_le (actB ch) (List.range ch.length)
      rw [List.length_range, hcl] at this
      rw [hcl]
      exact this
    refine ok_lcL (c0 := c) (xs := ((List.range ch.length).filter (actB ch)).map fun i => D.int (i : Nat)) (intF (fun h => (blkT ws ch h).isEmpty)) ?_ hc1 (by rw [List.length_map, lim_eq]; omega) ?_ ?_
    · simp [Kp.refl]
    · intro x hx S2 k2
      obtain ⟨i, hi, rfl⟩ := List.mem_map.mp hx
      obtain ⟨hi1, hi2⟩ := lmem i hi
      refine ⟨_, set_nm, ?_⟩
      simp [wipeD, intF_n]
      refine Ok.imp (r_blockers H hc hi1) ?_
      rintro r S3 ⟨k3, cb, rfl, hlb, hcb⟩
      have hcb' := (Kp.app [] S3 [C.lst []]).get _ _ (by simp) hcb
      have e := p_eqNil (S := S3 ++ [.lst []]) (k := 0) (w := 8) hcb' (rd_nats fun j hj => by
        unfold blkT at hj
        split at hj
        · cases hj
        · have := List.mem_range.mp (List.mem_filter.mp hj).1
          omega) (by decide) (get_push S3 _)
      rw [e, Ok_ok]
      have k34 := k3.push [C.lst []]
      have em : ((blkT ws ch i).map fun i => D.int (i : Nat)).isEmpty = (blkT ws ch i).isEmpty := by cases blkT ws ch i <;> rfl
      rw [em]
      have em2 : (blkT ws ch i = []) = ((blkT ws ch i).isEmpty = true) := by cases blkT ws ch i <;> simp
      simp only [em2]
      generalize (blkT ws ch i).isEmpty = b
      cases b <;> simp [k34]
    · intro S2 c2 k2 hl2 hc2
      rw [filt_lst (fun h => (blkT ws ch h).isEmpty) _ fun i hi => intF_n] at hc2
      have ef : ((List.range ch.length).filter (actB ch)).filter (fun h => (blkT ws ch h).isEmpty) = movT ws ch := by
        rw [List.filter_filter, hcl]
        unfold movT
        congr 1
        funext i
        unfold movB
        exact Bool.and_comm _ _
      rw [ef] at hc2
      have le := k1.le
      exact ⟨k1.trans k2, c2, rfl, by omega, hc2⟩
/-! ### the first of the greatest -/
def stepF (r : Nat → Int) (acc : Option Nat) (h : Nat) : Option Nat := match acc with
  | none => some h
  | some f => if r h > r f then some h else some f
def topF (r : Nat → Int) (l : List Nat) : Option Nat := l.foldl (stepF r) none
theorem best_fold {r : Nat → Int} {l : List Nat} {bt : Nat → Nat → Bool} (hbt : ∀ i j a b, l[i]? = some a → l[j]? = some b → bt i j = decide (r a > r b)) : ∀ k, k < l.length → ∃ x, l[PySem.argBest bt k]? = some x ∧ topF r (l.take (k + 1)) = some x
  | 0, h => by
    obtain ⟨a, l', rfl⟩ : ∃ a l', l = a :: l' := by
      cases l with
      | nil => simp at h
      | cons a l' => exact ⟨a, l', rfl⟩
    exact ⟨a, rfl, rfl⟩
  | k + 1, h => by
    obtain ⟨x, hx, hf⟩ := best_fold hbt k (by omega)
    have hk : l[k + 1]? = some l[k + 1] := List.getElem?_eq_getElem h
    have eT : l.take (k + 1 + 1) = l.take (k + 1) ++ [l[k + 1]] := by
      rw [List.take_succ, hk]
      rfl
    have e2 : topF r (l.take (k + 1 + 1)) = stepF r (some x) l[k + 1] := by
      unfold topF at hf ⊢
      rw [eT, List.foldl_append, hf]
      rfl
    have hb := hbt (k + 1) (PySem.argBest bt k) _ _ hk hx
    unfold stepF at e2
    unfold PySem.argBest
    by_cases c : r l[k + 1] > r x
    · rw [decide_eq_true c] at hb
      dsimp only at e2
      rw [if_pos c] at e2
      rw [hb]
      exact ⟨_, hk, e2⟩
    · rw [decide_eq_false c] at hb
      dsimp only at e2
      rw [if_neg c] at e2
      rw [hb]
      exact ⟨_, hx, e2⟩
theorem keys_rk {rk : List Int} {l : List Nat} (h : ∀ i ∈ l, i < rk.length) : keysIx S (ranksD rk) (l.map fun i => D.int (i : Nat)) = some (l.map fun i => rk[i]?.getD 0) := by
  induction l with
  | nil => rfl
  | cons i l ih =>
    have hi := h i List.mem_cons_self
    have e : opIx (ranksD rk) (.int (i : Nat)) S = .ok (.int (rk[i]?.getD 0)) S := p_ixT (by simp [hi])
    have e1 : keyIx S (ranksD rk) (.int (i : Nat)) = some (rk[i]?.getD 0) := by
      unfold keyIx
      rw [e]
    rw [List.map_cons, keysIx, e1, ih fun j hj => h j (List.mem_cons_of_mem _ hj)]
    rfl
theorem o_maxIx {δ : En} {P : D → Sto → Prop} {da : DA} {i : Nat} : Ok (dMaxIx i da δ S) P = Ok (da δ S) fun vs S1 => Ok (match vs with
  | [x] => match items S1 x, δ[i]? with
    | some ds, some (some r) => match keysIx S1 r ds with
      | some ks => if ds = [] then .bad else match ds[bestOf ks]? with
        | some d => .ok d S1
        | none => .bad
      | none => .bad
    | _, _ => .bad
  | _ => .bad) P := by
  unfold dMaxIx
  rw [Ok_bnd] <;> rfl
theorem best_top {r : Nat → Int} {l : List Nat} (h : l ≠ []) : ∃ x, l[bestOf (l.map r)]? = some x ∧ topF r l = some x := by
  have hl : 0 < l.length := List.length_pos_iff.mpr h
  obtain ⟨x, h1, h2⟩ := best_fold (r := r) (l := l) (bt := fun i j => decide ((l.map r).getD i 0 > (l.map r).getD j 0)) (fun i j a b ha hb => by simp [ha, hb]) (l.length - 1) (by omega)
  have e : l.length - 1 + 1 = l.length := by omega
  rw [e, List.take_length] at h2
  refine ⟨x, ?_, h2⟩
  unfold bestOf
  rw [List.length_map]
  exact h1
theorem r_highest {rk : List Int} {l : List Nat} {c : Nat} (h : ∀ i ∈ l, i < rk.length) (hr : rk.length ≤ 10) (hc : S[c]? = some (.lst (l.map fun i => D.int (i : Nat)))) :
    Ok (d_highest [ranksD rk, .cell c] S) fun r S' => r = natD (topF (fun i => rk[i]?.getD 0) l) ∧ Kp [] S S' := by
  have hcb' := (Kp.app [] S [C.lst []]).get _ _ (by simp) hc
  have e := p_neNil (S := S ++ [.lst []]) (k := 0) (w := 8) hcb' (rd_nats fun j hj => by
    have := h j hj
    omega) (by decide) (get_push S _)
  simp [d_highest, b_highest, startD, lim_eq, e]
  cases l with
  | nil =>
    simp
    exact ⟨rfl, Kp.app _ _ _⟩
  | cons a l' =>
    simp only [o_maxIx]
    simp
    obtain ⟨x, hx, ht⟩ := best_top (r := fun i => rk[i]?.getD 0) (l := a :: l') (by simp)
    have hi : items (S ++ [C.lst []]) (.cell c) = some ((a :: l').map fun i => D.int (i : Nat)) := by simp only [items, hcb']
    have hk := keys_rk (S := S ++ [C.lst []]) h
    have hg : ((a :: l').map fun i => D.int (i : Nat))[bestOf ((a :: l').map fun i => rk[i]?.getD 0)]? = some (.int (x : Nat)) := by
      rw [List.getElem?_map, hx]
      rfl
    have hne : ¬ ((a :: l').map fun i => D.int (i : Nat)) = [] := by simp
    simp only [hi, hk, hne, hg, if_false, Ok_ok]
    refine ⟨?_, Kp.app _ _ _⟩
    rw [ht]
    rfl
end
end Dn
set_option Elab.async false
set_option linter.all false
set_option maxRecDepth 100000
set_option maxHeartbeats 2000000
/-! Mi_k78: the law's foremost. -/
noncomputable section
namespace Dn
open PySem L2
section
variable {S S' : Sto} {K : List Nat}
theorem topF_snoc {r : Nat → Int} {l : List Nat} {i : Nat} : topF r (l ++ [i]) = stepF r (topF r l) i := by
  unfold topF
  rw [List.foldl_append]
  rfl
theorem topF_mem {r : Nat → Int} {l : List Nat} : ∀ {f : Nat}, topF r l = some f → f ∈ l := by
  have gen : ∀ (n : Nat) (l : List Nat), l.length = n → ∀ f, topF r l = some f → f ∈ l := by
    intro n
    induction n with
    | zero =>
      intro l hl f h
      rw [List.length_eq_zero_iff.mp hl] at h
      cases h
    | succ n ih =>
      intro l hl f h
      have hne : l ≠ [] := fun z => by rw [z] at hl; cases hl
      obtain ⟨l', a, e⟩ : ∃ l' a, l = l' ++ [a] := ⟨l.dropLast, l.getLast hne, (List.dropLast_concat_getLast hne).symm⟩
      subst e
      rw [topF_snoc] at h
      have hl' : l'.length = n := by simp at hl; exact hl
      cases q : topF r l' with
      | none =>
        rw [q] at h
        unfold stepF at h
        cases h
        simp
      | some g =>
        rw [q] at h
        have hg := ih l' hl' g q
        unfold stepF at h
        dsimp only at h
        split at h
        · cases h
          simp
        · cases h
          simp [hg]
  intro f h
  exact gen _ l rfl f h
def bF : DS := (dSeq (dSet 7 (dBin opIx (dBin opIx (dBin opIx (dVar 1) (dVar 5)) (dVar 6)) (dC (.int 1)))) (dIfS (dOr (dB (dBin (opIsN false) (dVar 7) (dC .non))) (dB (dBin opEq (dCall d_law_bars (dCons (dVar 0) (dCons (dVar 1) (dCons (dVar 3) (dCons (dVar 5) (dCons (dVar 7) dNil)))))) (dLst dNil)))) (dSet 4 (dVar 5)) dSkip))
def cF : DT := (dAnd (dB (dBin (opIsN true) (dVar 6) (dC .non))) (dOr (dB (dBin (opIsN false) (dVar 4) (dC .non))) (dB (dBin opGt (dBin opIx (dVar 2) (dVar 5)) (dBin opIx (dVar 2) (dVar 4))))))
theorem fore_split : b_law_foremost = dSeq (dSet 4 (dC .non)) (dSeq (dFor (enT (dCons (dVar 3) dNil)) (.tp [(.nm 5), (.nm 6)]) (dIfS cF bF dSkip)) (dRet (dVar 4))) := rfl
theorem r_law_foremost {R p0 : Nat} {ws : List (List Stp)} {cs : List Nat} {rk : List Int} {ch : List (Option Nat)} (H : HOk R ws) (P : PlanAt K S p0 ws cs) (hc : ChOk ws ch) (hrk : rk.length = ws.length) :
    Ok (d_law_foremost [houseD R ws, .cell p0, ranksD rk, choiceD ch] S) fun r S' => r = natD (topF (fun i => rk[i]?.getD 0) (movT ws ch)) ∧ Kp [] S S' := by
  have w5 := H.w5
  have P0 := P.nil
  have hcl := hc.len
  obtain ⟨rf, hrf⟩ : ∃ rf : Nat → Int, rf = fun i => rk[i]?.getD 0 := ⟨_, rfl⟩
  rw [← hrf]
  have ixr : ∀ (S : Sto) (i : Nat), i < ws.length → opIx (ranksD rk) (.int (i : Nat)) S = .ok (.int (rf i)) S := fun S i hi => by
    rw [hrf]
    exact p_ixT (by simp [show i < rk.length by omega])
  simp only [d_law_foremost, startD, o_fn]
  rw [fore_split]
  refine ⟨rfl, ?_⟩
  rw [o_seq, o_set]
  simp only [o_c]
  rw [o_seq]
  refine ok_forET (xs := ch.map natD) ?I ?_ ?_ ?_
  case I => exact (fun i δ S' => Kp [] S S' ∧ ∃ v5 v6 v7, δ = [some (houseD R ws), some (.cell p0), some (ranksD rk), some (choiceD ch), some (natD (topF rf ((List.range i).filter (movB ws ch)))), v5, v6, v7])
  · simp [choiceD, topF, natD, Kp.refl]
  · rintro i δ S1 x hx ⟨k1, v5, v6, v7, rfl⟩
    obtain ⟨o, ho, rfl⟩ := map_get hx
    have hi : i < ws.length := by
      rw [← hcl]
      exact (List.getElem?_eq_some_iff.mp ho).1
    obtain ⟨w, hw⟩ : ∃ w, ws[i]? = some w := ⟨_, List.getElem?_eq_getElem hi⟩
    have hwm := List.mem_of_getElem? hw
    simp only [set_tp, setAll_cons, set_nm, setAll_nil, Option.bind_some]
    refine ⟨_, rfl, ?_⟩
    have eT : topF rf ((List.range (i + 1)).filter (movB ws ch)) = if movB ws ch i = true then stepF rf (topF rf ((List.range i).filter (movB ws ch))) i else topF rf ((List.range i).filter (movB ws ch)) := by
      rw [List.range_succ, List.filter_append]
      by_cases h : movB ws ch i = true
      · rw [if_pos h]
        have e : List.filter (movB ws ch) [i] = [i] := by simp [h]
        rw [e, topF_snoc]
      · rw [if_neg h]
        have e : List.filter (movB ws ch) [i] = [] := by simp [h]
        rw [e, List.append_nil]
    have hfm : ∀ f, topF rf ((List.range i).filter (movB ws ch)) = some f → f < ws.length := fun f hf => by
      have := List.mem_range.mp (List.mem_filter.mp (topF_mem hf)).1
      omega
    generalize topF rf ((List.range i).filter (movB ws ch)) = found at eT hfm
    suffices hs : ∀ Qm : Po, (∀ δ S', (Kp [] S S' ∧ ∃ v5 v6 v7, δ = [some (houseD R ws), some (.cell p0), some (ranksD rk), some (choiceD ch), some (natD (topF rf ((List.range (i + 1)).filter (movB ws ch)))), v5, v6, v7]) → Qm.nx δ S') → OkS (dIfS cF bF dSkip [some (houseD R ws), some (.cell p0), some (ranksD rk), some (choiceD ch), some (natD found), some (.int (i : Nat)), some (natD o), v7] S1) Qm from hs _ fun _ _ z => z
    intro Qm hQm
    cases o with
    | none =>
      have hm : movB ws ch i = false := by simp [movB, actB, ho]
      rw [hm, if_neg (by decide)] at eT
      unfold cF
      simp [natD, isNon]
      exact hQm _ _ ⟨k1, _, _, _, by rw [eT] <;> rfl⟩
    | some k =>
      have hk := hc.lt i k w hw ho
      have P1 := P0.mono k1
      obtain ⟨cc, rs, h1, _, h2, h3, h4⟩ := P1.get hw
      obtain ⟨s, hs⟩ : ∃ s, w[k]? = some s := ⟨_, List.getElem?_eq_getElem hk⟩
      obtain ⟨z, hz⟩ := h4 k s hs
      have zw : wishC ws ch i = wishT s := by simp [wishC, ho, hw, hs]
      have hm : movB ws ch i = (blkT ws ch i).isEmpty := by simp [movB, actB, ho]
      have nk : isNon (natD (some k)) = false := rfl
      have tail : ∀ (S2 : Sto) (v7 : Option D), S2 = S1 → stepF rf found i = some i → OkS (bF [some (houseD R ws), some (.cell p0), some (ranksD rk), some (choiceD ch), some (natD found), some (.int (i : Nat)), some (.int (k : Nat)), v7] S2) Qm := by
        rintro S2 v7 rfl hst
        unfold bF
        rw [o_seq, o_set]
        simp [P1.ix h1, p_ixL h2 hz]
        cases ht : wishT s with
        | none =>
          have e : (blkT ws ch i).isEmpty = true := by simp [blkT, zw, ht]
          rw [hm, e, if_pos rfl, hst] at eT
          simp [isNon]
          exact hQm _ _ ⟨k1, _, _, _, by rw [eT] <;> rfl⟩
        | some t =>
          have e : blkT ws ch i = (List.range ws.length).filter (barsT ws ch i t) := by simp [blkT, zw, ht]
          have nd : isNon t.d = false := rfl
          simp [nd]
          refine Ok.imp (r_law_bars H P1 hc) ?_
          rintro r S4 ⟨k4, c4, rfl, hl4, hc4⟩
          have hc5 := (Kp.app [] S4 [C.lst []]).get _ _ (by simp) hc4
          have ee := p_eqNil (S := S4 ++ [.lst []]) (k := 0) (w := 8) hc5 (rd_nats fun i hi => by
            have := List.mem_range.mp (List.mem_filter.mp hi).1
            omega) (by decide) (get_push S4 _)
          rw [ee, Ok_ok]
          have k45 := (k1.trans k4).push [C.lst []]
          have em : (((List.range ws.length).filter (barsT ws ch i t)).map fun i => D.int (i : Nat)).isEmpty = (blkT ws ch i).isEmpty := by rw [e]; cases (List.range ws.length).filter (barsT ws ch i t) <;> rfl
          rw [em]
          cases hb : (blkT ws ch i).isEmpty with
          | false =>
            rw [hm, hb, if_neg (by decide)] at eT
            simp
            exact hQm _ _ ⟨k45, _, _, _, by rw [eT] <;> rfl⟩
          | true =>
            rw [hm, hb, if_pos rfl, hst] at eT
            simp
            exact hQm _ _ ⟨k45, _, _, _, by rw [eT] <;> rfl⟩
      unfold cF
      cases found with
      | none =>
        have f2 := tail S1 v7 rfl rfl
        simp [natD, isNon] at f2 ⊢
        exact f2
      | some f =>
        have hf := hfm f rfl
        by_cases c1 : rf i > rf f
        · have f2 := tail S1 v7 rfl (if_pos c1)
          have c2 : rf f < rf i := c1
          simp [natD, isNon, ixr _ _ hf, ixr _ _ hi, c2] at f2 ⊢
          exact f2
        · have e2 : stepF rf (some f) i = some f := if_neg c1
          have c2 : ¬ rf f < rf i := c1
          have eT2 : topF rf ((List.range (i + 1)).filter (movB ws ch)) = some f := by
            rw [eT, e2]
            split <;> rfl
          simp [natD, isNon, ixr _ _ hf, ixr _ _ hi, c2]
          exact hQm _ _ ⟨k1, _, _, _, by rw [eT2] <;> rfl⟩
  · rintro δ S1 ⟨k1, v5, v6, v7, rfl⟩
    have e : (List.map natD ch).length = ws.length := by rw [List.length_map, hcl]
    simp [e, movT, k1, hcl]
end
end Dn
set_option Elab.async false
set_option linter.all false
set_option maxRecDepth 100000
set_option maxHeartbeats 2000000
/-! Lu_k78: drawn values of any kind. -/
noncomputable section
namespace Dn
open PySem L2
section
variable {kd kg : Nat}
theorem r_any : ∀ (j n : Nat), n < j → ∀ (S : Sto), Deck kd kg S → Ok (d_law_any j [.cell kd, .int (n : Nat)] S) fun r S' => Dw kd kg S S' ∧ Rd (List.range S.length) (n + 1) (wAny n) S' r
  | 0, n, h, S, Dk => absurd h (Nat.not_lt_zero _)
  | j + 1, n, hn, S, Dk => by
    have hw := wAny_ge n
    unfold d_law_any
    simp only [b_law_any, startD, o_fn, o_seq, o_set, o_call, o_cons, o_var, o_nil, o_if, o_B, o_bin, o_c]
    simp
    have leaf : ∀ (S2 : Sto) (i : Nat), i < 6 → Dw kd kg S S2 → Ok (opPow (D.int 10) (D.int 18) S2) fun x S1 => 6 ≤ lim ∧ Ok (d_law_pick [D.cell kd, D.cell (List.length S1)] (S1 ++ [C.lst [D.int 0, D.int 1, D.int 2, D.int 3, D.int (-1), x]])) fun x S1 =>
        6 ≤ lim ∧ Ok (opIx (D.cell (List.length S1)) (.int (i : Nat)) (S1 ++ [C.lst [D.non, D.bl true, x, D.str (Str.ofString ""), D.str (Str.ofString "on"), D.str (Str.ofString "in")]])) fun r S' => Dw kd kg S S' ∧ Rd (List.range S.length) (n + 1) (wAny n) S' r := by
      intro S2 i hi ⟨D2, k2⟩
      rw [p_pow mpw18, Ok_ok]
      have hb := big18
      generalize (10 : Int) ^ ((18 : Int).toNat) = big at hb
      refine ⟨by simp [lim_eq], ?_⟩
      refine Ok.imp (r_pick (D2.push _) (get_push _ _) (D2.fresh (Nat.le_refl _)) (by simp) (by simp)) ?_
      rintro x S3 ⟨hx, D3, k3⟩
      have k3' : Kp [kd, kg] S S3 := (k2.push _).trans k3
      refine ⟨by simp [lim_eq], ?_⟩
      have hl : i < [D.non, D.bl true, x, D.str (Str.ofString ""), D.str (Str.ofString "on"), D.str (Str.ofString "in")].length := by simpa using hi
      rw [p_ixL (get_push _ _) (List.getElem?_eq_getElem hl)]
      refine ⟨⟨D3.push _, k3'.push _⟩, ?_⟩
      have all : ∀ (K : List Nat) (S : Sto), ∀ y ∈ [D.non, D.bl true, x, D.str (Str.ofString ""), D.str (Str.ofString "on"), D.str (Str.ofString "in")], Rd K (n + 1) (wAny n) S y := by
        intro K S y hy
        simp only [List.mem_cons, List.not_mem_nil, or_false] at hy
        rcases hy with rfl | rfl | rfl | rfl | rfl | rfl
        · exact rd_non
        · exact rd_bl
        · simp only [List.mem_cons, List.not_mem_nil, or_false] at hx
          rcases hx with rfl | rfl | rfl | rfl | rfl | rfl
          · exact rd_int (b := 3) (by decide) (by decide) (by omega)
          · exact rd_int (b := 3) (by decide) (by decide) (by omega)
          · exact rd_int (b := 3) (by decide) (by decide) (by omega)
          · exact rd_int (b := 3) (by decide) (by decide) (by omega)
          · exact rd_int (b := 3) (by decide) (by decide) (by omega)
          · exact rd_int (b := 60) hb (by decide) (by omega)
        · exact (rd_str (w := 9) (by decide +kernel) (by decide +kernel)).le (Nat.le_refl _) (by omega)
        · exact (rd_str (w := 9) (by decide +kernel) (by decide +kernel)).le (Nat.le_refl _) (by omega)
        · exact (rd_str (w := 9) (by decide +kernel) (by decide +kernel)).le (Nat.le_refl _) (by omega)
      exact all _ _ _ (List.getElem_mem hl)
    by_cases h0 : n = 0
    · refine Or.inl ⟨h0, ?_⟩
      refine Ok.imp (r_draw Dk (n := 6) (by omega)) ?_
      rintro r S1 ⟨i, rfl, hi, _, D1, k1⟩
      have hi6 := hi (by omega)
      rw [p_lt, Ok_ok]
      refine Or.inr ⟨?_, leaf S1 i hi6 ⟨D1, k1⟩⟩
      have : (i : Int) < 6 := by omega
      rw [decide_eq_true this]
    · refine Or.inr ⟨Nat.pos_of_ne_zero h0, ?_⟩
      refine Ok.imp (r_draw Dk (n := 9) (by omega)) ?_
      rintro r S1 ⟨i, rfl, hi, _, D1, k1⟩
      have hi9 := hi (by omega)
      rw [p_lt, Ok_ok]
      by_cases h6 : i < 6
      · refine Or.inr ⟨?_, leaf S1 i h6 ⟨D1, k1⟩⟩
        have : (i : Int) < 6 := by omega
        rw [decide_eq_true this]
      · refine Or.inl ⟨?_, ?_⟩
        · have : ¬ (i : Int) < 6 := by omega
          rw [decide_eq_false this]
        · obtain ⟨n', rfl⟩ : ∃ n', n = n' + 1 := ⟨n - 1, by omega⟩
          have ih := r_any j n' (by omega)
          have dr : Ok (d_law_draw [.cell kd, .int 4] S1) fun r S' => ∃ i : Nat, r = .int (i : Nat) ∧ (1 ≤ 4 → i < 4) ∧ (i < 4 ∨ i = 0) ∧ Dw kd kg S1 S' := r_draw D1 (n := 4) (by omega)
          obtain ⟨r, S2, e, m, rfl, hm, _, D2, k2⟩ := dr.ex
          have hm4 := hm (by omega)
          refine ok_lc (s0 := .rng 0 (m : Nat)) (N := m) (c := S2.length) (item := fun i => .int (i : Nat)) (fun i S' acc => Deck kd kg S' ∧ Kp [kd, kg] S2 S' ∧ S'[S2.length]? = some (.lst acc) ∧ acc.length = i ∧ ∀ x ∈ acc, Rd (List.range (S2.length + 1)) (n' + 1) (wAny n') S' x) ?_ ?_ ?_ ?_ ?_
          · simp
            rw [e]
            simp [D2.push, Kp.app]
            exact inRng_of (by omega) (by omega)
          · intro i S' acc h
            simp [Src.len]
          · intro i S' acc hi h
            simp [Src.item, hi]
          · rintro i' S3 acc hi' ⟨D3, k3, hc, hal, hall⟩
            refine ⟨_, set_nm, ?_⟩
            simp [wipeD]
            refine Ok.imp (ih S3 D3) ?_
            rintro r S4 ⟨⟨D4, k4⟩, hr⟩
            have hc4 := k4.get _ _ (D2.fresh (Nat.le_refl _)) hc
            refine ⟨hc4, by simp [lim_eq]; omega, D4.set (D2.fresh (Nat.le_refl _)) _, (k3.trans k4).set (.inl (Nat.le_refl _)) _, get_set hc4, by simp [hal], fun x hx => ?_⟩
            have l2 := D2.lt
            have k5 : Kp (List.range (S2.length + 1)) S4 (S4.set S2.length (.lst (acc ++ [r]))) := (Kp.refl _ _).set (.inr (by simp)) _
            have k4' : Kp (List.range (S2.length + 1)) S3 S4 := k4.sub fun c hc => by
              simp at hc
              rw [List.mem_range]
              omega
            have hlt : S2.length < S3.length := lt_of_get hc
            rcases hx with hx | hx
            · exact ((hall x hx).mono k4').mono k5
            · rw [hx]
              refine (hr.anti fun c hc => ?_).mono k5
              rw [List.mem_range] at hc ⊢
              omega
          · rintro S3 acc ⟨D3, k3, hc, hal, hall⟩
            have kk : Kp [kd, kg] S S3 := (k1.trans k2).trans k3
            have le : S.length ≤ S2.length := (k1.trans k2).le
            have hall' : ∀ x ∈ acc, Rd (List.range S.length) (n' + 1) (wAny n') S3 x := fun x hx => (hall x hx).anti fun c hc => by
              rw [List.mem_range] at hc ⊢
              omega
            rw [p_lt, Ok_ok]
            by_cases h8 : (i : Int) < 8
            · refine Or.inr ⟨by rw [decide_eq_true h8], ?_⟩
              rw [b_tupL hc]
              refine ⟨⟨D3, kk⟩, rd_tup (k := n' + 1) (w := wAny n') hall' (by omega) ?_⟩
              rw [hal]
              exact Nat.mul_le_mul_right _ (by omega)
            · refine Or.inl ⟨by rw [decide_eq_false h8], ⟨D3, kk⟩, rd_cell (k := n' + 1) (w := wAny n') hc (by rw [List.mem_range]; omega) hall' (by omega) ?_⟩
              rw [hal]
              exact Nat.mul_le_mul_right _ (by omega)
theorem any3 {S : Sto} (Dk : Deck kd kg S) : Ok (d_law_any 5 [.cell kd, .int 3] S) fun r S' => Dw kd kg S S' ∧ Rd [kd, kg] 4 2600 S' r := by
  have h : Ok (d_law_any 5 [.cell kd, .int 3] S) fun r S' => Dw kd kg S S' ∧ Rd (List.range S.length) 4 (wAny 3) S' r := r_any 5 3 (by decide) S Dk
  refine Ok.imp h ?_
  rintro r S1 ⟨D1, h⟩
  refine ⟨D1, (h.anti fun c hc => ?_).le (Nat.le_refl _) (by decide)⟩
  have := Dk.lt
  simp at hc
  rw [List.mem_range]
  omega
end
end Dn
set_option Elab.async false
set_option linter.all false
set_option maxRecDepth 100000
set_option maxHeartbeats 2000000
/-! Mj_k78: what is wrong with ranks: the program's words and the law's. -/
noncomputable section
namespace Dn
open PySem L2
section
variable {S S' : Sto} {K : List Nat}
def hitB (xs : List D) (i j : Nat) : Bool := decide (i < j) && (match xs[i]?, xs[j]? with
  | some (.int a), some (.int b) => decide (a = b)
  | _, _ => false)
def samD (xs : List D) (n : Nat) : D := match (List.range n).find? (fun i => (List.range n).any (hitB xs i)) with
  | none => .non
  | some i => match (List.range n).find? (hitB xs i) with
    | some j => .tup [.str "same", .int (i : Nat), .int (j : Nat)]
    | none => .non
def errV (n : Nat) (v : D) : D := match v with
  | .tup xs => if xs.length = n ∧ xs.all isI = true then samD xs n else .str "form"
  | _ => .str "form"
theorem errV_tup {n : Nat} {xs : List D} : errV n (.tup xs) = if xs.length = n ∧ xs.all isI = true then samD xs n else .str "form" := rfl
theorem sam_none {xs : List D} {n : Nat} (h : ∀ a, a < n → ∀ b, b < n → hitB xs a b = false) : samD xs n = .non := by
  have e : (List.range n).find? (fun i => (List.range n).any (hitB xs i)) = none := by
    rw [List.find?_eq_none]
    intro i hi
    have h1 : (List.range n).any (hitB xs i) = false := by
      rw [List.any_eq_false]
      intro j hj
      rw [h i (List.mem_range.mp hi) j (List.mem_range.mp hj)]
      decide
    rw [h1]
    decide
  unfold samD
  rw [e]
theorem sam_some {xs : List D} {n i j : Nat} (hi : i < n) (hj : j < n) (h0 : ∀ a, a < i → ∀ b, b < n → hitB xs a b = false) (h1 : ∀ b, b < j → hitB xs i b = false) (h2 : hitB xs i j = true) : samD xs n = .tup [.str "same", .int (i : Nat), .int (j : Nat)] := by
  have e1 : (List.range n).find? (fun i => (List.range n).any (hitB xs i)) = some i := by
    rw [List.find?_range_eq_some]
    refine ⟨List.any_eq_true.mpr ⟨j, List.mem_range.mpr hj, h2⟩, List.mem_range.mpr hi, fun a ha => ?_⟩
    have h3 : (List.range n).any (hitB xs a) = false := by
      rw [List.any_eq_false]
      intro b hb
      rw [h0 a ha b (List.mem_range.mp hb)]
      decide
    rw [h3]
    rfl
  have e2 : (List.range n).find? (hitB xs i) = some j := by
    rw [List.find?_range_eq_some]
    refine ⟨h2, List.mem_range.mpr hj, fun b hb => ?_⟩
    rw [h1 b hb]
    rfl
  unfold samD
  rw [e1]
  dsimp only
  rw [e2]
def loopS (c : Nat) : DS := dFor (rng1 (dCons (dVar c) dNil)) (.nm 3) (dFor (rng2 (dCons (dBin opAdd (dVar 3) (dC (.int 1))) (dCons (dVar c) dNil))) (.nm 4) (dIfS (dB (dBin opEq (dBin opIx (dVar 1) (dVar 3)) (dBin opIx (dVar 1) (dVar 4)))) (dRet (dTup (dCons (dC (.str "same")) (dCons (dVar 3) (dCons (dVar 4) dNil))))) dSkip))
theorem same_loop {Q : Po} {δ : En} {c n : Nat} {xs : List D} (c3 : c ≠ 3) (c4 : c ≠ 4) (hl : 5 ≤ δ.length) (h1 : δ[1]? = some (some (.tup xs))) (hcn : δ[c]? = some (some (.int (n : Nat)))) (hxl : xs.length = n) (hall : xs.all isI = true) (hn : n ≤ 1000)
    (hrt : Q.rt (samD xs n) S) (hnx : samD xs n = .non → ∀ δ', δ'.length = δ.length → Q.nx δ' S) : OkS (loopS c δ S) Q := by
  have isint : ∀ i, i < n → ∃ a, xs[i]? = some (.int a) := fun i hi => by
    obtain ⟨x, hx⟩ : ∃ x, xs[i]? = some x := ⟨_, List.getElem?_eq_getElem (by omega)⟩
    have := List.all_eq_true.mp hall x (List.mem_of_getElem? hx)
    cases x with
    | int a => exact ⟨a, hx⟩
    | _ => cases this
  unfold loopS
  refine ok_forR (n := n) (by omega) ?I ?_ ?_ ?_
  case I => exact fun i δ' S' => S' = S ∧ δ'.length = δ.length ∧ (∀ j, j ≠ 3 → j ≠ 4 → δ'[j]? = δ[j]?) ∧ ∀ a, a < i → ∀ b, b < n → hitB xs a b = false
  · simp [hcn]
  · rintro i δ' S' hi ⟨rfl, hl2, hag, h0⟩
    refine ⟨_, set_nm, ?_⟩
    have t1 : i + 1 ≤ n := hi
    have l3 : 3 < δ'.length := by omega
    refine ok_forR2 t1 (by omega) ?I ?_ ?_ ?_
    case I => exact fun j δ2 S2 => S2 = S' ∧ δ2.length = δ.length ∧ (∀ k, k ≠ 3 → k ≠ 4 → δ2[k]? = δ[k]?) ∧ δ2[3]? = some (some (.int (i : Nat))) ∧ ∀ b, b < j → hitB xs i b = false
    · have e1 : (δ'.set 3 (some (.int (i : Nat))))[c]? = some (some (.int (n : Nat))) := by
        rw [List.getElem?_set_ne (Ne.symm c3), hag c c3 c4]
        exact hcn
      have e2 : (δ'.set 3 (some (D.int (i : Nat))))[3]? = some (some (.int (i : Nat))) := List.getElem?_set_self l3
      simp [e1, e2]
      refine ⟨hl2, fun k k3 k4 => ?_, fun b hb => ?_⟩
      · rw [List.getElem?_set_ne (Ne.symm k3)]
        exact hag k k3 k4
      · unfold hitB
        rw [decide_eq_false (by omega)]
        rfl
    · rintro j δ2 S2 hj1 hj ⟨rfl, hl3, hag3, h3, hb0⟩
      refine ⟨_, set_nm, ?_⟩
      obtain ⟨a, ha⟩ := isint i (by omega)
      obtain ⟨b, hb⟩ := isint j hj
      have e1 : (δ2.set 4 (some (D.int (j : Nat))))[1]? = some (some (.tup xs)) := by
        rw [List.getElem?_set_ne (by decide), hag3 1 (by decide) (by decide)]
        exact h1
      have e3 : (δ2.set 4 (some (D.int (j : Nat))))[3]? = some (some (.int (i : Nat))) := by
        rw [List.getElem?_set_ne (by decide)]
        exact h3
      have e4 : (δ2.set 4 (some (D.int (j : Nat))))[4]? = some (some (.int (j : Nat))) := List.getElem?_set_self (by omega)
      have hh : hitB xs i j = decide (a = b) := by
        unfold hitB
        rw [ha, hb, decide_eq_true (show i < j by omega)]
        rfl
      simp only [o_ifS, o_B, o_bin, o_var, e1, e3, e4, Option.some.injEq, exists_eq_left', p_ixT ha, p_ixT hb, Ok_ok, p_eqI]
      by_cases hab : a = b
      · rw [decide_eq_true hab] at hh
        rw [sam_some (by omega) hj h0 hb0 hh] at hrt
        simp [hab, e3, e4, lim_eq]
        exact hrt
      · rw [decide_eq_false hab] at hh
        simp [hab]
        refine ⟨hl3, fun k k3 k4 => ?_, ?_, fun b' hb' => ?_⟩
        · rw [List.getElem?_set_ne (Ne.symm k4)]
          exact hag3 k k3 k4
        · exact h3
        · by_cases q : b' = j
          · rw [q]
            exact hh
          · exact hb0 b' (by omega)
    · rintro δ2 S2 ⟨rfl, hl3, hag3, h3, hb0⟩
      refine ⟨rfl, hl3, hag3, fun a ha b hb => ?_⟩
      by_cases q : a = i
      · rw [q]
        exact hb0 b hb
      · exact h0 a (by omega) b hb
  · rintro δ' S' ⟨rfl, hl2, hag, h0⟩
    exact hnx (sam_none h0) δ' hl2
/-- what a value must be: read by isinstance -/
def NoR (v : D) : Prop := isRg v = false ∧ ∀ xs, v = .tup xs → (∀ x ∈ xs, isRg x = false) ∧ xs.length ≤ 3000
theorem rd_len {xs : List D} {k w : Nat} (h : Rd K k w S (.tup xs)) : xs.length ≤ w := by
  obtain ⟨p, h1, h2, h3, h4, h5⟩ := h
  have e := h1 S (Kp.refl _ _) (k + 1) (by omega)
  have e : (allPy (toPy k S) xs).map PyData.tuple = some p := e
  obtain ⟨ps, e1, rfl⟩ := Option.map_eq_some_iff.mp e
  have gen : ∀ (xs : List D) (ps : List PyData), allPy (toPy k S) xs = some ps → xs.length = ps.length := by
    intro xs
    induction xs with
    | nil => intro ps h; cases h; rfl
    | cons x xs ih =>
      intro ps h
      unfold allPy at h
      split at h
      · rename_i p qs h1 h2
        cases h
        rw [List.length_cons, List.length_cons, ih _ h2]
      · cases h
  have gw : ∀ ps : List PyData, ps.length ≤ PyData.weightAll ps := by
    intro ps
    induction ps with
    | nil => exact Nat.zero_le _
    | cons p ps ih =>
      simp only [PyData.weightAll, List.length_cons]
      omega
  have h6 := gw ps
  simp only [PyData.weight] at h5
  rw [gen xs ps e1]
  omega
theorem noR_of {v : D} {k w : Nat} (h : Rd K k w S v) (hw : ∀ xs, v = .tup xs → xs.length ≤ 3000) : NoR v := ⟨h.rg, fun xs e => by
  subst e
  exact ⟨fun x hx => (rd_inv h hx).rg, hw xs rfl⟩⟩
theorem tup_dec (v : D) : (∃ xs, v = .tup xs) ∨ (isT v = false ∧ ∀ n, errV n v = .str "form") := by
  cases v with
  | tup xs => exact .inl ⟨xs, rfl⟩
  | _ => exact .inr ⟨rfl, fun _ => rfl⟩
theorem r_err_prog {R : Nat} {ws : List (List Stp)} {v : D} (H : HOk R ws) (hv : NoR v) : Ok (d_ranks_error [houseD R ws, v] S) fun r S' => r = errV ws.length v ∧ Kp [] S S' := by
  have w5 := H.w5
  have ixh : ∀ (S : Sto), opIx (houseD R ws) (.int 1) S = .ok (.tup (ws.map wayD)) S := fun S => rfl
  simp only [d_ranks_error, startD, o_fn]
  refine ⟨rfl, ?_⟩
  have split : b_ranks_error = dSeq (dDrop (dCall d_calm (dCons (dVar 0) dNil))) (dSeq (dSet 2 (dCall bLen (dCons (dBin opIx (dVar 0) (dC (.int 1))) dNil))) (dSeq (dIfS (dOr (dNot (dB (dIsI "tuple" (dVar 1)))) (dOr (dB (dBin opNe (dCall bLen (dCons (dVar 1) dNil)) (dVar 2))) (dNot (dB (dCall bAll (dCons (dLc (srcT (dVar 1)) (.nm 5) dYes (dCall d_is_integer (dCons (dVar 5) dNil)) [5]) dNil)))))) (dRet (dC (.str "form"))) dSkip) (dSeq (loopS 2) (dRet (dC .non))))) := rfl
  rw [split]
  simp only [o_seq, o_drop, o_call, o_cons, o_nil, o_var]
  simp only [List.map_cons, List.map_nil, List.length_cons, List.length_nil, List.cons_append, List.nil_append, List.getElem?_cons_zero, List.getElem?_cons_succ, Option.some.injEq, exists_eq_left']
  refine Ok.imp (r_calm H) ?_
  rintro _ S1 kp1
  rcases tup_dec v with ⟨xs, rfl⟩ | ⟨h1, h2⟩
  · obtain ⟨hx1, hx2⟩ := hv.2 xs rfl
    simp [ixh]
    by_cases hl : xs.length = ws.length
    · have hl2 : (xs.length : Int) = (ws.length : Int) := by omega
      simp [hl]
      refine ok_lcT (xs := xs) (fun d => some (D.bl (isI d))) ?_ (by rw [lim_eq]; omega) ?_ ?_
      · simp [Kp.refl]
      · intro x hx S2 kp2
        have hr := hx1 x hx
        simp [wipeD, hr, Kp.refl]
      · intro S2 c kp2 hlc hc
        rw [blF_list] at hc
        have ea : (xs.map isI).all id = xs.all isI := by rw [List.all_map]; rfl
        rw [b_allL hc, ea]
        have k12 := kp1.trans kp2
        cases hall : xs.all isI with
        | false =>
          have e : errV ws.length (.tup xs) = .str "form" := by
            rw [errV_tup, if_neg (fun z => by rw [hall] at z; cases z.2)]
          simp [e, k12]
        | true =>
          have e : errV ws.length (.tup xs) = samD xs ws.length := by
            rw [errV_tup, if_pos ⟨hl, hall⟩]
          simp only [Ok_ok]
          simp
          rw [e]
          refine same_loop (c := 2) (n := ws.length) (xs := xs) (by decide) (by decide) (by simp) (by simp) (by simp) hl hall (by omega) ?_ ?_
          · exact ⟨rfl, k12⟩
          · intro hn δ' hl'
            simp [hn, k12]
    · have hl2 : ¬ (xs.length : Int) = (ws.length : Int) := by omega
      have e : errV ws.length (.tup xs) = .str "form" := by
        rw [errV_tup, if_neg (fun z => hl z.1)]
      simp [hl, hl2, e, kp1]
  · have hr := hv.1
    simp [ixh, h1, hr, h2, kp1]
theorem r_err_law {n : Nat} {v : D} (hn : n ≤ 1000) (hv : NoR v) : Ok (d_law_error [.int (n : Nat), v] S) fun r S' => r = errV n v ∧ S' = S := by
  simp only [d_law_error, startD, o_fn]
  refine ⟨rfl, ?_⟩
  have split : b_law_error = dSeq (dIfS (dOr (dNot (dB (dIsI "tuple" (dVar 1)))) (dB (dBin opNe (dCall bLen (dCons (dVar 1) dNil)) (dVar 0)))) (dRet (dC (.str "form"))) dSkip) (dSeq (dFor (srcT (dVar 1)) (.nm 2) (dIfS (dOr (dNot (dB (dIsI "int" (dVar 2)))) (dB (dIsI "bool" (dVar 2)))) (dRet (dC (.str "form"))) dSkip)) (dSeq (loopS 0) (dRet (dC .non)))) := rfl
  rw [split]
  rcases tup_dec v with ⟨xs, rfl⟩ | ⟨h1, h2⟩
  · obtain ⟨hx1, hx2⟩ := hv.2 xs rfl
    by_cases hl : xs.length = n
    · have hl2 : (xs.length : Int) = (n : Int) := by omega
      simp only [o_seq]
      simp [hl]
      refine ok_forT (xs := xs) (fun i δ S' => S' = S ∧ (∃ v2, δ = [some (.int (n : Nat)), some (.tup xs), v2, none, none]) ∧ (xs.take i).all isI = true) ?_ ?_ ?_
      · simp
      · rintro i δ S' x hx ⟨rfl, ⟨v2, rfl⟩, ha⟩
        refine ⟨_, set_nm, ?_⟩
        have hr := hx1 x (List.mem_of_getElem? hx)
        have et : (xs.take (i + 1)).all isI = isI x := by
          rw [List.take_succ, hx, List.all_append, ha]
          simp
        have bad : isI x = false → errV n (.tup xs) = .str "form" := fun z => by
          rw [errV_tup, if_neg]
          rintro ⟨_, q⟩
          rw [List.all_eq_true.mp q x (List.mem_of_getElem? hx)] at z
          cases z
        cases x with
        | rng a b => cases hr
        | int a => simp [et, isI, isB]
        | bl a => simp [bad rfl, isI, isB]
        | _ => simp [bad rfl, isI, isB]
      · rintro δ S' ⟨rfl, ⟨v2, rfl⟩, ha⟩
        rw [List.take_length] at ha
        have e : errV n (.tup xs) = samD xs n := by rw [errV_tup, if_pos ⟨hl, ha⟩]
        rw [e]
        refine same_loop (c := 0) (n := n) (xs := xs) (by decide) (by decide) (by simp) (by simp) (by simp) hl ha hn ?_ ?_
        · exact ⟨rfl, rfl⟩
        · intro hn δ' hl'
          exact ⟨hn.symm, rfl⟩
    · have hl2 : ¬ (xs.length : Int) = (n : Int) := by omega
      have e : errV n (.tup xs) = .str "form" := by rw [errV_tup, if_neg (fun z => hl z.1)]
      simp [hl, hl2, e]
  · have hr := hv.1
    simp [h1, hr, h2]
end
end Dn
set_option Elab.async false
set_option linter.all false
set_option maxRecDepth 100000
set_option maxHeartbeats 2000000
/-! Mk_k78: values that are no ranks; refusals. -/
noncomputable section
namespace Dn
open PySem L2
section
variable {S S' : Sto} {kd kg : Nat}
theorem noR_rd {K : List Nat} {k : Nat} {v : D} (h : Rd K k 2600 S v) : NoR v := noR_of h fun xs e => by
  subst e
  have := rd_len h
  omega
theorem cut_mem {xs : List D} {lo hi : Option Int} : (∀ x ∈ cutD xs lo hi, x ∈ xs) ∧ (cutD xs lo hi).length ≤ xs.length := by
  unfold cutD
  refine ⟨fun x hx => List.mem_of_mem_drop (List.mem_of_mem_take hx), ?_⟩
  rw [List.length_take, List.length_drop]
  omega
theorem rd_smi {K : List Nat} {i : Int} (h : i.natAbs < 2 ^ 61) : Rd K 0 61 S (.int i) := rd_int (b := 60) h (by decide) (by decide)
theorem rd_tl {K : List Nat} {xs : List D} (hl : xs.length ≤ 8) (h : ∀ x ∈ xs, Rd K 0 61 S x) : Rd K 4 2600 S (.tup xs) := rd_tup (k := 0) (w := 61) h (by decide) (by
  have : xs.length * (61 + 1) ≤ 8 * 62 := Nat.mul_le_mul_right _ hl
  omega)
theorem p_mulL {c n : Nat} {xs : List D} (h : S[c]? = some (.lst xs)) (hl : xs.length ≤ 100) (hn : n ≤ 1000) : opMul (.cell c) (.int (n : Nat)) S = mkLst (List.replicate n xs).flatten S := by
  unfold opMul
  have e : decide (0 ≤ ((n : Nat) : Int) ∧ ((n : Nat) : Int) ≤ 1000 ∧ xs.length ≤ 100) = true := decide_eq_true ⟨by omega, by omega, hl⟩
  simp only [h, e, if_true, Int.toNat_natCast]
theorem r_no_ranks {rk : List Int} (Dk : Deck kd kg S) (hl1 : 1 ≤ rk.length) (hl5 : rk.length ≤ 5) (hs : ∀ x ∈ rk, x.natAbs < 2 ^ 61) : ∀ dr : D, dr = ranksD rk → Ok (d_law_no_ranks [.cell kd, dr] S) fun r S' => Rd [kd, kg] 4 2600 S' r ∧ Dw kd kg S S' := by
  intro dr er
  have rint : ∀ (K : List Nat) (S : Sto), ∀ x ∈ rk.map D.int, Rd K 0 61 S x := fun K S x hx => by
    obtain ⟨i, hi, rfl⟩ := List.mem_map.mp hx
    exact rd_smi (hs i hi)
  have rl : (rk.map D.int).length ≤ 5 := by rw [List.length_map]; exact hl5
  simp [d_law_no_ranks, b_law_no_ranks, startD, er, ranksD, lim_eq]
  have c1 := cut_mem (xs := rk.map D.int) (lo := some 1) (hi := none)
  have c2 := cut_mem (xs := rk.map D.int) (lo := some 2) (hi := none)
  have c3 := cut_mem (xs := rk.map D.int) (lo := none) (hi := some (-1))
  refine ⟨by omega, by omega, ?_⟩
  have e1 : cutD (rk.map D.int) none (some 1) = [(rk.map D.int)[0]'(by rw [List.length_map]; omega)] := by
    have a : cutD (rk.map D.int) none (some 1) = (rk.map D.int).take 1 := cut_to (xs := rk.map D.int) (k := 1)
    rw [a]
    cases rk with
    | nil => cases hl1
    | cons x l => rfl
  obtain ⟨x0, hx0⟩ : ∃ x0, x0 = (rk.map D.int)[0]'(by rw [List.length_map]; omega) := ⟨_, rfl⟩
  have hx0m : x0 ∈ rk.map D.int := by rw [hx0]; exact List.getElem_mem _
  rw [e1, ← hx0]
  generalize cutD (rk.map D.int) (some 1) none = l1 at c1
  generalize cutD (rk.map D.int) (some 2) none = l2 at c2
  generalize cutD (rk.map D.int) none (some (-1)) = l3 at c3
  have em := fun S => p_mulT1 (S := S) (x := x0) (n := 2) (by decide) (by decide)
  have em : ∀ S, opMul (.tup [x0]) (.int 2) S = .ok (.tup [x0, x0]) S := em
  rw [em, Ok_ok]
  have l2l : l2.length ≤ 5 := Nat.le_trans c2.2 rl
  have l1l : l1.length ≤ 5 := Nat.le_trans c1.2 rl
  have l3l : l3.length ≤ 5 := Nat.le_trans c3.2 rl
  simp [lim_eq]
  refine ⟨by omega, ?_⟩
  obtain ⟨n, hn1, hn2⟩ : ∃ n : Nat, (if (1 : Int) < (rk.length : Int) then (1 : Int) else 0) = (n : Int) ∧ n ≤ 1 := by
    by_cases h : (1 : Int) < (rk.length : Int)
    · exact ⟨1, by rw [if_pos h]; rfl, by decide⟩
    · exact ⟨0, by rw [if_neg h]; rfl, by decide⟩
  rw [hn1]
  obtain ⟨odd, hodd⟩ : ∃ odd : List D, odd = [D.non, D.cell S.length, D.tup (rk.map D.int ++ [D.int 77]), D.tup l3, D.tup (D.bl true :: l1), D.tup (D.str (Str.ofString "1") :: l1), D.tup []] := ⟨_, rfl⟩
  rw [← hodd]
  have ho7 : odd.length = 7 := by rw [hodd]; rfl
  obtain ⟨S3, hS3⟩ : ∃ S3 : Sto, S3 = S ++ [C.lst (rk.map D.int), C.lst odd, C.lst [D.tup (x0 :: x0 :: l2)]] := ⟨_, rfl⟩
  rw [← hS3]
  have g0 : S3[S.length]? = some (.lst (rk.map D.int)) := by rw [hS3, List.getElem?_append_right (by omega)]; simp
  have g1 : S3[S.length + 1]? = some (.lst odd) := by rw [hS3, List.getElem?_append_right (by omega)]; simp
  have g2 : S3[S.length + 2]? = some (.lst [D.tup (x0 :: x0 :: l2)]) := by rw [hS3, List.getElem?_append_right (by omega)]; simp
  have D3 : Deck kd kg S3 := by rw [hS3]; exact Dk.push _
  have k3 : Kp [kd, kg] S S3 := by rw [hS3]; exact Kp.app _ _ _
  rw [p_mulL g2 (by simp) (by omega), o_mkL]
  have lm : ((List.replicate n [D.tup (x0 :: x0 :: l2)]).flatten).length ≤ 1 := by simp; omega
  have mm : ∀ x ∈ (List.replicate n [D.tup (x0 :: x0 :: l2)]).flatten, x = D.tup (x0 :: x0 :: l2) := fun x hx => by
    obtain ⟨l, hl, hxl⟩ := List.mem_flatten.mp hx
    rw [(List.mem_replicate.mp hl).2] at hxl
    exact List.mem_singleton.mp hxl
  generalize (List.replicate n [D.tup (x0 :: x0 :: l2)]).flatten = ml at lm mm
  refine ⟨by rw [lim_eq]; omega, ?_⟩
  rw [p_addL ((Kp.app [] S3 [C.lst ml]).get _ _ (by simp) g1) (get_push S3 (C.lst ml)), o_mkL]
  refine ⟨by rw [lim_eq, List.length_append]; omega, ?_⟩
  have D4 := (D3.push [C.lst ml]).push [C.lst (odd ++ ml)]
  have k4 : Kp [kd, kg] S3 ((S3 ++ [C.lst ml]) ++ [C.lst (odd ++ ml)]) := (Kp.app _ _ _).push _
  have le3 := k3.le
  refine Ok.imp (r_pick D4 (get_push _ _) (Dk.fresh (by rw [List.length_append]; omega)) (by rw [hodd]; simp) (by rw [List.length_append]; omega)) ?_
  rintro r S5 ⟨hr, D5, k5⟩
  have k05 := (k3.trans k4).trans k5
  refine ⟨?_, D5, k05⟩
  have g5 : S5[S.length]? = some (.lst (rk.map D.int)) := (k4.trans k5).get _ _ (Dk.fresh (Nat.le_refl _)) g0
  have r1 : ∀ {l : List D}, (∀ x ∈ l, x ∈ rk.map D.int) → ∀ x ∈ l, Rd [kd, kg] 0 61 S5 x := fun h x hx => rint _ _ x (h x hx)
  have rcons : ∀ {a : D} {l : List D}, Rd [kd, kg] 0 61 S5 a → (∀ x ∈ l, Rd [kd, kg] 0 61 S5 x) → ∀ x ∈ a :: l, Rd [kd, kg] 0 61 S5 x := fun ha h x hx => by
    rcases List.mem_cons.mp hx with rfl | hx
    · exact ha
    · exact h x hx
  rcases List.mem_append.mp hr with hr | hr
  · rw [hodd] at hr
    simp only [List.mem_cons, List.not_mem_nil, or_false] at hr
    rcases hr with rfl | rfl | rfl | rfl | rfl | rfl | rfl
    · exact rd_non
    · exact rd_cell (k := 0) (w := 61) g5 (Dk.fresh (Nat.le_refl _)) (rint _ _) (by decide) (by
        have : (rk.map D.int).length * (61 + 1) ≤ 5 * 62 := Nat.mul_le_mul_right _ rl
        omega)
    · refine rd_tl (by rw [List.length_append]; show _ + 1 ≤ 8; omega) fun x hx => ?_
      rcases List.mem_append.mp hx with hx | hx
      · exact rint _ _ x hx
      · rw [List.mem_singleton.mp hx]
        exact rdi (by decide) (by decide)
    · exact rd_tl (by omega) (r1 c3.1)
    · exact rd_tl (by rw [List.length_cons]; omega) (rcons rd_bl (r1 c1.1))
    · exact rd_tl (by rw [List.length_cons]; omega) (rcons (rd_str (by decide +kernel) (by decide +kernel)) (r1 c1.1))
    · exact rd_tl (by simp) (fun x hx => by cases hx)
  · rw [mm r hr]
    exact rd_tl (by rw [List.length_cons, List.length_cons]; omega) (rcons (rint _ _ _ hx0m) (rcons (rint _ _ _ hx0m) (r1 c2.1)))
end
end Dn
set_option Elab.async false
set_option linter.all false
set_option maxRecDepth 100000
set_option maxHeartbeats 2000000
/-! Np_k78: foremost, refusals. -/
noncomputable section
namespace Dn
open PySem L2
section
variable {S S' : Sto} {kd kg : Nat} {h v c r : D}
theorem r_foremost {R : Nat} {ws : List (List Stp)} {rk : List Int} {ch : List (Option Nat)} (H : HOk R ws) (hc : ChOk ws ch) (hl : rk.length = ws.length) (hd : rk.Nodup) :
    Ok (d_foremost [houseD R ws, ranksD rk, choiceD ch] S) fun r S' => r = natD (topF (fun i => rk[i]?.getD 0) (movT ws ch)) ∧ Kp [] S S' := by
  have w5 := H.w5
  simp [d_foremost, b_foremost, startD]
  refine Ok.imp (r_ranked H hl hd) ?_
  rintro _ S1 k1
  refine Ok.imp (r_movers_at H hc) ?_
  rintro _ S2 ⟨k2, cc, rfl, hcl, hcc⟩
  refine Ok.imp (r_highest (l := movT ws ch) (fun i hi => ?_) (by omega) hcc) ?_
  · rw [hl]
    exact List.mem_range.mp (List.mem_filter.mp hi).1
  · rintro _ S3 ⟨rfl, k3⟩
    exact ⟨rfl, (k1.trans k2).trans k3⟩
theorem x_fore (hx : d_ranked [h, v] S = .exc "Unfit" S') : d_foremost [h, v, c] S = .exc "Unfit" S' := by
  simp [d_foremost, dFn, b_foremost, startD, dSeq, dDrop, dCall, dCons, dNil, dVar, hx, thenS, andThen, endF]
def RefO (a b c w : D) : Prop := ∀ S : Sto, Ok (d_law_is_refused [a, b, c, w] S) fun r S' => r = .bl true ∧ Kp [] S S'
theorem x_ref0 (hx : d_ranks_error [h, v] S = .exc "Unfit" S') : d_law_is_refused [h, v, c, .int 0] S = .ok (.bl true) S' := by
  simp [d_law_is_refused, dFn, b_law_is_refused, startD, dSeq, dTryR, dIfS, dB, asB, dBin, dDrop, dCall, dCons, dNil, dVar, dC, hx, thenS, andThen, endF]
theorem x_ref1 (hx : d_foremost [h, v, c] S = .exc "Unfit" S') : d_law_is_refused [h, v, c, .int 1] S = .ok (.bl true) S' := by
  simp [d_law_is_refused, dFn, b_law_is_refused, startD, dSeq, dTryR, dIfS, dB, asB, dBin, dDrop, dCall, dCons, dNil, dVar, dC, hx, thenS, andThen, endF]
theorem ref_calm0 (n : NotCalm h) : RefO h v c (.int 0) := fun S => by
  obtain ⟨S1, e1, k1⟩ := x_calm (S := S) n
  rw [x_ref0 (x_ranks_error e1)]
  exact ⟨rfl, k1⟩
theorem ref_calm1 (n : NotCalm h) : RefO h v c (.int 1) := fun S => by
  obtain ⟨S1, e1, k1⟩ := x_calm (S := S) n
  rw [x_ref1 (x_fore (x_ranked (x_ranks_error e1)))]
  exact ⟨rfl, k1⟩
theorem err_isNon {n : Nat} : isNon (errV n v) = false ∨ errV n v = .non := by
  cases e : errV n v with
  | non => exact .inr rfl
  | _ => exact .inl rfl
theorem ref_err {R : Nat} {ws : List (List Stp)} (H : HOk R ws) (hv : NoR v) (he : isNon (errV ws.length v) = false) : RefO (houseD R ws) v c (.int 1) := fun S => by
  obtain ⟨r, S1, e, rfl, k⟩ := (r_err_prog (S := S) H hv).ex
  rw [x_ref1 (x_fore (x_ranked2 e he))]
  exact ⟨rfl, k⟩
end
end Dn
set_option Elab.async false
set_option linter.all false
set_option maxRecDepth 100000
set_option maxHeartbeats 2000000
/-! Nq_k78: the law, cut into its statements; its stages. -/
noncomputable section
namespace Dn
open PySem L2
def e_0 : DE := (dCall d_law_pick (dCons (dVar 1) (dCons (dLst (dCons (dC (.int 1)) (dCons (dC (.int 2)) (dCons (dC (.int 3)) (dCons (dC (.int 4)) (dCons (dC (.int 5)) dNil)))))) dNil)))
def q_0 : DS := dSet 3 e_0
def e_1 : DE := (dCall d_law_calm (dCons (dVar 1) (dCons (dVar 3) (dCons (dBin opAdd (dC (.int 1)) (dCall d_law_draw (dCons (dVar 1) (dCons (dC (.int 4)) dNil)))) (dCons (dCall d_law_pick (dCons (dVar 1) (dCons (dLst (dCons (dC (.int 2)) (dCons (dC (.int 6)) (dCons (dC (.int 12)) (dCons (dC (.int 24)) dNil))))) dNil))) dNil)))))
def q_1 : DS := dSet 4 e_1
def a_2 : DA := (dCons (dCall d_law_plan (dCons (dVar 4) dNil)) (dCons (dCall d_law_ranked (dCons (dVar 1) (dCons (dVar 3) dNil))) (dCons (dCall bRepr (dCons (dVar 4) dNil)) dNil)))
def q_2 : DS := dPar [5, 6, 7] a_2
def e_3 : DE := (dCall bList (dCons (dVar 6) dNil))
def q_3 : DS := dSet 8 e_3
def q_4 : DS := (dIPut (dVar 8) (dCall d_law_draw (dCons (dVar 1) (dCons (dVar 3) dNil))) (dBin opIx (dVar 6) (dCall d_law_draw (dCons (dVar 1) (dCons (dVar 3) dNil)))))
def a_5_0 : DA := (dCons (dCall d_law_error (dCons (dVar 3) (dCons (dVar 9) dNil))) (dCons (dCall bRepr (dCons (dVar 9) dNil)) dNil))
def q_5_0 : DS := dPar [10, 11] a_5_0
def e_5_1 : DE := (dLst (dCons (dCall d_ranks_error (dCons (dVar 4) (dCons (dVar 9) dNil))) (dCons (dCallK d_ranks_error [1, 0] (dCons (dVar 9) (dCons (dVar 4) dNil))) dNil)))
def q_5_1 : DS := dSet 12 e_5_1
def q_5_2 : DS := (dIfS (dOr (dB (dBin opNe (dCall bRepr (dCons (dVar 12) dNil)) (dCall bRepr (dCons (dLst (dCons (dVar 10) (dCons (dVar 10) dNil))) dNil)))) (dB (dBin opNe (dCall bRepr (dCons (dVar 9) dNil)) (dVar 11)))) (dRet (dC (.bl false))) dSkip)
def body_5 : DS := (dSeq q_5_0 (dSeq q_5_1 q_5_2))
def src_5 : DSrc := (srcT (dTup (dCons (dVar 6) (dCons (dCall bTuple (dCons (dVar 8) dNil)) (dCons (dBin opMul (dTup (dCons (dBin opIx (dVar 6) (dC (.int 0))) dNil)) (dVar 3)) (dCons (dCall d_law_no_ranks (dCons (dVar 1) (dCons (dVar 6) dNil))) (dCons (dCall (d_law_any 5) (dCons (dVar 1) (dCons (dC (.int 3)) dNil))) dNil)))))))
def q_5 : DS := dFor src_5 (.nm 9) body_5
def e_6_0 : DE := (dCall d_law_choice (dCons (dVar 1) (dCons (dVar 4) (dCons (dVar 5) dNil))))
def q_6_0 : DS := dSet 14 e_6_0
def e_6_1 : DE := (dCall d_law_foremost (dCons (dVar 4) (dCons (dVar 5) (dCons (dVar 6) (dCons (dVar 14) dNil)))))
def q_6_1 : DS := dSet 10 e_6_1
def e_6_2 : DE := (dLst (dCons (dCall d_foremost (dCons (dVar 4) (dCons (dVar 6) (dCons (dVar 14) dNil)))) (dCons (dCallK d_foremost [2, 1, 0] (dCons (dVar 14) (dCons (dVar 6) (dCons (dVar 4) dNil)))) dNil)))
def q_6_2 : DS := dSet 12 e_6_2
def q_6_3 : DS := (dIfS (dB (dBin opNe (dCall bRepr (dCons (dVar 12) dNil)) (dCall bRepr (dCons (dLst (dCons (dVar 10) (dCons (dVar 10) dNil))) dNil)))) (dRet (dC (.bl false))) dSkip)
def body_6 : DS := (dSeq q_6_0 (dSeq q_6_1 (dSeq q_6_2 q_6_3)))
def src_6 : DSrc := (rng1 (dCons (dC (.int 4)) dNil))
def q_6 : DS := dFor src_6 (.nm 13) body_6
def a_7 : DA := (dCons (dBin opMul (dTup (dCons (dC .non) dNil)) (dVar 3)) (dCons (dCall d_law_no_calm (dCons (dVar 1) (dCons (dVar 4) dNil))) dNil))
def q_7 : DS := dPar [15, 16] a_7
def q_8 : DS := (dIfS (dOr (dNot (dB (dCall d_law_is_refused (dCons (dVar 16) (dCons (dVar 6) (dCons (dVar 15) (dCons (dC (.int 0)) dNil))))))) (dNot (dB (dCall d_law_is_refused (dCons (dVar 16) (dCons (dVar 6) (dCons (dVar 15) (dCons (dC (.int 1)) dNil)))))))) (dRet (dC (.bl false))) dSkip)
def e_9 : DE := (dCall d_law_pick (dCons (dVar 1) (dCons (dLst (dCons (dCall d_law_no_ranks (dCons (dVar 1) (dCons (dVar 6) dNil))) (dCons (dCall d_law_no_ranks (dCons (dVar 1) (dCons (dVar 6) dNil))) dNil))) dNil)))
def q_9 : DS := dSet 17 e_9
def q_10 : DS := (dIfS (dOr (dAnd (dB (dBin (opIsN true) (dCall d_law_error (dCons (dVar 3) (dCons (dVar 17) dNil))) (dC .non))) (dNot (dB (dCall d_law_is_refused (dCons (dVar 4) (dCons (dVar 17) (dCons (dVar 15) (dCons (dC (.int 1)) dNil)))))))) (dB (dBin opNe (dCall bRepr (dCons (dVar 4) dNil)) (dVar 7)))) (dRet (dC (.bl false))) dSkip)
def b_turn : DS := (dSeq q_0 (dSeq q_1 (dSeq q_2 (dSeq q_3 (dSeq q_4 (dSeq q_5 (dSeq q_6 (dSeq q_7 (dSeq q_8 (dSeq q_9 q_10))))))))))
theorem law_split : b_law = dSeq (dSet 1 (dCall d_law_deck (dCons (dVar 0) dNil))) (dSeq (dFor (rng1 (dCons (dC (.int 3)) dNil)) (.nm 2) b_turn) (dRet (dC (.bl true)))) := rfl
section
variable {S : Sto}
/-- the text of a list whose items read as data -/
theorem repr_lst {K : List Nat} {k w : Nat} {xs : List D} (h : ∀ x ∈ xs, Rd K k w S x) (hk : k + 1 ≤ 50) (hw : xs.length * (w + 1) ≤ 8000) : ∃ t : Str, ∀ (S2 : Sto) (c : Nat), Kp K S S2 → S2[c]? = some (.lst xs) → bRepr [.cell c] S2 = .ok (.str t) S2 := by
  obtain ⟨ps, g1, g2, g3, g4, g5, g6⟩ := rd_all h
  have ok : reprOk (.list ps) = true := by
    refine reprOk_of ?_ ?_ ?_ ?_
    · simpa only [PyData.canLay0] using g2
    · simpa only [PyData.showable] using g3
    · simp only [PyData.depth]
      omega
    · simp only [PyData.weight]
      omega
  refine ⟨PyData.shown (.list ps), fun S2 c kp hc => ?_⟩
  have e : toPy 60 S2 (.cell c) = some (.list ps) := by
    rw [toPy_succ_cell hc, g1 S2 kp 59 (by omega)]
    rfl
  unfold bRepr
  simp only [e, ok, if_true]
end
section
variable {δ : En} {S S' : Sto} {kd kg : Nat}
theorem stepSet {i : Nat} {e : DE} {rest : DS} {Q : Po} {P : D → Sto → Prop} (he : Ok (e δ S) P) (hk : ∀ d S' δ', P d S' → δ'.length = δ.length → (∀ j, j ≠ i → δ'[j]? = δ[j]?) → (i < δ.length → δ'[i]? = some (some d)) → OkS (rest δ' S') Q) : OkS (dSeq (dSet i e) rest δ S) Q := by
  rw [o_seq, o_set]
  refine Ok.imp he fun d S' h => ?_
  exact hk d S' _ h List.length_set (fun j hj => List.getElem?_set_ne (Ne.symm hj)) (fun hi => List.getElem?_set_self hi)
theorem stepS {a rest : DS} {Q : Po} (h : OkS (a δ S) ⟨fun δ S => OkS (rest δ S) Q, Q.rt, Q.bk, Q.ct⟩) : OkS (dSeq a rest δ S) Q := by
  rw [o_seq]
  exact h
structure Tn (kd kg : Nat) (S : Sto) (R : Nat) (ws : List (List Stp)) (p : Nat) (cs : List Nat) : Prop where
  dk : Deck kd kg S
  h : HOk R ws
  pl : PlanAt [kd, kg] S p ws cs
theorem Tn.mono {R p : Nat} {ws : List (List Stp)} {cs : List Nat} (t : Tn kd kg S R ws p cs) (d : Dw kd kg S S') : Tn kd kg S' R ws p cs := ⟨d.1, t.h, t.pl.mono d.2⟩
theorem Tn.kp {R p : Nat} {ws : List (List Stp)} {cs : List Nat} (t : Tn kd kg S R ws p cs) (k : Kp [] S S') : Tn kd kg S' R ws p cs := t.mono ⟨t.dk.kp k, k.of⟩
/-- ranks -/
structure Rn (ws : List (List Stp)) (rk : List Int) : Prop where
  rl : rk.length = ws.length
  nd : rk.Nodup
  sm : ∀ x ∈ rk, x.natAbs < 2 ^ 61
theorem rd_two {K : List Nat} {k w : Nat} {x y : D} (hx : Rd K k w S x) (hy : Rd K k w S y) : ∀ z ∈ [x, y], Rd K k w S z := fun z hz => by
  simp only [List.mem_cons, List.not_mem_nil, or_false] at hz
  rcases hz with rfl | rfl
  · exact hx
  · exact hy
/-- two lists alike have one text -/
theorem same_text {t u : Str} (P : D → Sto → Prop) (h : t = u) (hP : P (.bl false) S) : Ok (opNe (.str t) (.str u) S) P := by
  rw [p_neS, Ok_ok, h, decide_eq_true rfl]
  exact hP
theorem t0 (Dk : Deck kd kg S) (h1 : δ[1]? = some (some (.cell kd))) : Ok (e_0 δ S) fun d S' => ∃ hands : Nat, d = .int (hands : Nat) ∧ 1 ≤ hands ∧ hands ≤ 5 ∧ Dw kd kg S S' := by
  simp [e_0, h1, lim_eq]
  refine Ok.imp (r_pick (Dk.push _) (get_push _ _) (Dk.fresh (Nat.le_refl _)) (by simp) (by simp)) ?_
  rintro r S1 ⟨hr, D1, k1⟩
  have k01 : Kp [kd, kg] S S1 := (Kp.app _ _ _).trans k1
  simp only [List.mem_cons, List.not_mem_nil, or_false] at hr
  rcases hr with rfl | rfl | rfl | rfl | rfl
  · exact ⟨1, rfl, by omega, by omega, D1, k01⟩
  · exact ⟨2, rfl, by omega, by omega, D1, k01⟩
  · exact ⟨3, rfl, by omega, by omega, D1, k01⟩
  · exact ⟨4, rfl, by omega, by omega, D1, k01⟩
  · exact ⟨5, rfl, by omega, by omega, D1, k01⟩
theorem t1 (Dk : Deck kd kg S) (h1 : δ[1]? = some (some (.cell kd))) {hands : Nat} (h3 : δ[3]? = some (some (.int (hands : Nat)))) (hh1 : 1 ≤ hands) (hh5 : hands ≤ 5) :
    Ok (e_1 δ S) fun d S' => ∃ (R : Nat) (ws : List (List Stp)), d = houseD R ws ∧ HOk R ws ∧ ws.length = hands ∧ Dw kd kg S S' := by
  simp [e_1, h1, h3, lim_eq]
  have dr : Ok (d_law_draw [.cell kd, .int 4] S) fun r S' => ∃ i : Nat, r = .int (i : Nat) ∧ (1 ≤ 4 → i < 4) ∧ (i < 4 ∨ i = 0) ∧ Dw kd kg S S' := r_draw Dk (n := 4) (by omega)
  refine Ok.imp dr ?_
  rintro _ S1 ⟨i, rfl, hi, _, D1, k1⟩
  have hi4 := hi (by omega)
  rw [p_add, Ok_ok]
  have eR : (1 : Int) + (i : Int) = ((1 + i : Nat) : Int) := by omega
  rw [eR]
  refine Ok.imp (r_pick (D1.push _) (get_push _ _) (D1.fresh (Nat.le_refl _)) (by simp) (by simp)) ?_
  rintro m S2 ⟨hm, D2, k2⟩
  have k02 : Kp [kd, kg] S S2 := (k1.push _).trans k2
  have fin : ∀ (m : Nat) (dm : D), dm = .int (m : Nat) → 2 ≤ m → m ≤ 24 → Ok (d_law_calm [.cell kd, .int (hands : Nat), .int ((1 + i : Nat) : Int), dm] S2) fun d S' => ∃ (R : Nat) (ws : List (List Stp)), d = houseD R ws ∧ HOk R ws ∧ ws.length = hands ∧ Dw kd kg S S' := by
    intro m dm em hm2 hm24
    refine Ok.imp (r_law_calm D2 (R := 1 + i) (by omega) (by omega) hh1 hh5 hm2 hm24 _ _ _ rfl rfl em) ?_
    rintro r S3 ⟨⟨D3, k3⟩, ws, rfl, H, hl, hM⟩
    exact ⟨_, ws, rfl, H, hl, D3, k02.trans k3⟩
  simp only [List.mem_cons, List.not_mem_nil, or_false] at hm
  rcases hm with rfl | rfl | rfl | rfl
  · exact fin 2 _ rfl (by omega) (by omega)
  · exact fin 6 _ rfl (by omega) (by omega)
  · exact fin 12 _ rfl (by omega) (by omega)
  · exact fin 24 _ rfl (by omega) (by omega)
theorem t2 (Dk : Deck kd kg S) {R : Nat} {ws : List (List Stp)} (H : HOk R ws) (h3 : δ[3]? = some (some (.int (ws.length : Nat)))) (h1 : δ[1]? = some (some (.cell kd))) (h4 : δ[4]? = some (some (houseD R ws))) :
    Ok (a_2 δ S) fun ds S' => ∃ (p : Nat) (cs : List Nat) (rk : List Int) (t : Str), ds = [.cell p, ranksD rk, .str t] ∧ Rn ws rk ∧ Tn kd kg S' R ws p cs ∧ Kp [kd, kg] S S' ∧ ∀ S2, Kp [kd, kg] S' S2 → bRepr [houseD R ws] S2 = .ok (.str t) S2 := by
  have w5 := H.w5
  simp [a_2, h1, h3, h4]
  refine Ok.imp (r_law_plan H) ?_
  rintro _ S1 ⟨k1, p, cs, rfl, hp, hpc, hcl, hrow⟩
  have D1 := Dk.kp k1
  have P1 : PlanAt [kd, kg] S1 p ws cs := ⟨Dk.fresh hp, hpc, hcl, fun j c w a b => ⟨Dk.fresh (hrow j c w a b).1, (hrow j c w a b).2⟩⟩
  refine Ok.imp (r_law_ranked D1 w5 _ rfl) ?_
  rintro _ S2 ⟨⟨D2, k2⟩, rk, rfl, hl, nd, sm⟩
  obtain ⟨q, hq, hok, hrep⟩ := b_repr (K := [kd, kg]) (S := S2) (rd_house H) (by decide) (by decide)
  rw [hrep S2 (Kp.refl _ _)]
  exact ⟨p, cs, rk, q.shown, ⟨rfl, rfl, rfl⟩, ⟨hl, nd, sm⟩, ⟨D2, H, P1.mono k2⟩, k1.of.trans k2, fun S3 k3 => hrep S3 k3⟩
theorem t3 {rk : List Int} (h6 : δ[6]? = some (some (ranksD rk))) : Ok (e_3 δ S) fun d S' => d = .cell S.length ∧ S' = S ++ [.lst (rk.map D.int)] := by
  simp [e_3, h6, ranksD]
theorem putL {c j : Nat} {xs : List D} {d : D} (h : S[c]? = some (.lst xs)) (hj : j < xs.length) : putAt (.cell c) (.int (j : Nat)) d S = some (S.set c (.lst (xs.set j d))) := by
  unfold putAt
  have e : ixN xs.length (j : Int) = some j := by
    unfold ixN
    rw [if_pos (by omega), if_pos (by omega)]
    simp
  simp only [h, e]
theorem t4 {Q : Po} {c : Nat} {ws : List (List Stp)} {rk : List Int} (Dk : Deck kd kg S) (N : Rn ws rk) (w1 : 1 ≤ ws.length) (w5 : ws.length ≤ 5) (h1 : δ[1]? = some (some (.cell kd))) (h3 : δ[3]? = some (some (.int (ws.length : Nat)))) (h6 : δ[6]? = some (some (ranksD rk))) (h8 : δ[8]? = some (some (.cell c))) (hc : S[c]? = some (.lst (rk.map D.int))) (hn : c ∉ [kd, kg])
    (hQ : ∀ S' (l : List Int), Deck kd kg S' → Kp [c, kd, kg] S S' → S'[c]? = some (.lst (l.map D.int)) → l.length = rk.length → (∀ x ∈ l, x.natAbs < 2 ^ 61) → Q.nx δ S') : OkS (q_4 δ S) Q := by
  have rl := N.rl
  unfold q_4
  simp [h1, h3, h6, h8]
  refine Ok.imp (r_draw Dk (n := ws.length) (by omega)) ?_
  rintro _ S1 ⟨i, rfl, hi, _, D1, k1⟩
  have hi1 := hi w1
  have ei : (rk.map D.int)[i]? = some (.int (rk[i]'(by omega))) := by simp [show i < rk.length by omega]
  have e6 : opIx (ranksD rk) (.int (i : Nat)) S1 = .ok (.int (rk[i]'(by omega))) S1 := p_ixT ei
  rw [e6, Ok_ok]
  refine Ok.imp (r_draw D1 (n := ws.length) (by omega)) ?_
  rintro _ S2 ⟨j, rfl, hj, _, D2, k2⟩
  have hj1 := hj w1
  have hc2 := (k1.trans k2).get _ _ hn hc
  have pt := putL (d := .int (rk[i]'(by omega))) hc2 (j := j) (by simp; omega)
  simp [putI, pt]
  have k3 : Kp [c, kd, kg] S2 (S2.set c (.lst ((rk.map D.int).set j (.int (rk[i]'(by omega)))))) := (Kp.refl _ _).set (.inr (by simp)) _
  refine hQ _ (rk.set j (rk[i]'(by omega))) (D2.set hn _) (((k1.trans k2).sub fun x hx => List.mem_cons_of_mem _ hx).trans k3) ?_ (by simp) fun x hx => ?_
  · rw [get_set hc2, List.map_set]
  · rcases List.mem_or_eq_of_mem_set hx with h | h
    · exact N.sm x h
    · rw [h]
      exact N.sm _ (List.getElem_mem _)
end
end Dn
set_option Elab.async false
set_option linter.all false
set_option maxRecDepth 100000
set_option maxHeartbeats 2000000
/-! Nr_k78: the loops, the refusals. -/
noncomputable section
namespace Dn
open PySem L2
section
variable {δ : En} {S S' : Sto} {kd kg : Nat}
theorem errV_rd {K : List Nat} {n : Nat} {v : D} (hn : n ≤ 64) : Rd K 1 60 S (errV n v) := by
  have hf : Rd K 1 60 S (.str "form") := rd_str (by decide +kernel) (by decide +kernel)
  have hs : ∀ xs : List D, Rd K 1 60 S (samD xs n) := fun xs => by
    unfold samD
    cases h1 : (List.range n).find? (fun i => (List.range n).any (hitB xs i)) with
    | none => exact rd_non
    | some i =>
      dsimp only
      cases h2 : (List.range n).find? (hitB xs i) with
      | none => exact rd_non
      | some j =>
        have hi := List.mem_range.mp (List.mem_of_find?_eq_some h1)
        have hj := List.mem_range.mp (List.mem_of_find?_eq_some h2)
        refine rd_tup (k := 0) (w := 11) (fun x hx => ?_) (by decide) (by show 3 * (11 + 1) ≤ 60; decide)
        simp only [List.mem_cons, List.not_mem_nil, or_false] at hx
        rcases hx with rfl | rfl | rfl
        · exact rd_str (by decide +kernel) (by decide +kernel)
        · exact rdi (by show ((i : Nat) : Int).natAbs < 2048; omega) (by decide)
        · exact rdi (by show ((j : Nat) : Int).natAbs < 2048; omega) (by decide)
  rcases tup_dec v with ⟨xs, rfl⟩ | ⟨_, h2⟩
  · rw [errV_tup]
    split
    · exact hs xs
    · exact hf
  · rw [h2]
    exact hf
theorem t5b {Q : Po} {R : Nat} {ws : List (List Stp)} {v : D} (H : HOk R ws) (hl : δ.length = 18) (h3 : δ[3]? = some (some (.int (ws.length : Nat)))) (h4 : δ[4]? = some (some (houseD R ws))) (h9 : δ[9]? = some (some v)) (hv : Rd [kd, kg] 4 2600 S v)
    (hQ : ∀ a b c S', Kp [] S S' → Q.nx (((δ.set 10 a).set 11 b).set 12 c) S') : OkS (body_5 δ S) Q := by
  have w5 := H.w5
  have nv := noR_rd hv
  obtain ⟨q, hq, hok, hrep⟩ := b_repr hv (by decide) (by decide)
  have l10 : 10 < δ.length := by rw [hl]; decide
  have l11 : 11 < δ.length := by rw [hl]; decide
  have l12 : 12 < δ.length := by rw [hl]; decide
  obtain ⟨tt, htt⟩ : ∃ tt, tt = errV ws.length v := ⟨_, rfl⟩
  have hel : ∀ S : Sto, d_law_error [.int (ws.length : Nat), v] S = .ok tt S := fun S => by
    obtain ⟨r, S1, e, e1, e2⟩ := (r_err_law (S := S) (n := ws.length) (by omega) nv).ex
    rw [e, e1, e2, htt]
  have rt : ∀ (K : List Nat) (S : Sto), Rd K 1 60 S tt := fun K S => by rw [htt]; exact errV_rd (by omega)
  obtain ⟨t, ht⟩ := repr_lst (S := S) (K := []) (rd_two (rt [] S) (rt [] S)) (by decide) (by show 2 * (60 + 1) ≤ 8000; decide)
  have tin : ∀ S1, Kp [] S S1 → ∀ P : D → Sto → Prop, (∀ S', Kp [] S1 S' → P tt S') → Ok (d_ranks_error [houseD R ws, v] S1) P := fun S1 k1 P h => by
    refine Ok.imp (r_err_prog H nv) ?_
    rintro r S2 ⟨rfl, k2⟩
    rw [← htt]
    exact h S2 k2
  unfold body_5
  refine stepS ?_
  unfold q_5_0
  rw [o_par]
  simp only [a_5_0, o_cons, o_call, o_var, o_nil, h3, h9, Option.some.injEq, exists_eq_left', hel, Ok_ok, hrep S (Kp.refl _ _)]
  refine ⟨(δ.set 10 (some tt)).set 11 (some (.str q.shown)), by simp, ?_⟩
  obtain ⟨δ1, hδ1⟩ : ∃ δ1, (δ.set 10 (some tt)).set 11 (some (.str q.shown)) = δ1 := ⟨_, rfl⟩
  have g4 : δ1[4]? = some (some (houseD R ws)) := by rw [← hδ1, List.getElem?_set_ne (by decide), List.getElem?_set_ne (by decide)]; exact h4
  have g9 : δ1[9]? = some (some v) := by rw [← hδ1, List.getElem?_set_ne (by decide), List.getElem?_set_ne (by decide)]; exact h9
  have g10 : δ1[10]? = some (some tt) := by rw [← hδ1, List.getElem?_set_ne (by decide)]; exact List.getElem?_set_self l10
  have g11 : δ1[11]? = some (some (.str q.shown)) := by rw [← hδ1]; exact List.getElem?_set_self (by rw [List.length_set]; exact l11)
  have hQ1 : ∀ c S', Kp [] S S' → Q.nx (δ1.set 12 c) S' := fun c S' k => by
    rw [← hδ1]
    exact hQ _ _ c S' k
  have m12 : 12 < δ1.length := by rw [← hδ1, List.length_set, List.length_set]; exact l12
  rw [hδ1]
  clear hδ1
  unfold q_5_1
  refine stepSet (P := fun d S' => ∃ c, d = .cell c ∧ S'[c]? = some (.lst [tt, tt]) ∧ Kp [] S S') ?_ ?_
  · simp [e_5_1, g4, g9, lim_eq, permD]
    refine tin S (Kp.refl _ _) _ fun S1 k1 => ?_
    refine tin S1 k1 _ fun S2 k2 => ?_
    exact ⟨⟨rfl, rfl⟩, (k1.trans k2).push _⟩
  · rintro _ S1 δ2 ⟨c, rfl, hc, k1⟩ l2 ag2 at2
    have f9 := (ag2 9 (by decide)).trans g9
    have f10 := (ag2 10 (by decide)).trans g10
    have f11 := (ag2 11 (by decide)).trans g11
    have f12 : δ2[12]? = some (some (.cell c)) := at2 m12
    have e2 : δ2 = δ1.set 12 (some (.cell c)) := by
      refine List.ext_getElem? fun j => ?_
      by_cases hj : j = 12
      · rw [hj, f12, List.getElem?_set_self m12]
      · rw [ag2 j hj, List.getElem?_set_ne (Ne.symm hj)]
    unfold q_5_2
    simp [f9, f10, f11, f12, lim_eq]
    rw [ht _ _ k1 hc, Ok_ok]
    have k2 := k1.push [C.lst [tt, tt]]
    rw [ht _ _ k2 (get_push S1 _), Ok_ok]
    rw [p_neS, Ok_ok]
    refine Or.inl ⟨by simp, ?_⟩
    rw [hrep _ (k2.of), Ok_ok, p_neS, Ok_ok]
    refine Or.inl ⟨by simp, ?_⟩
    rw [e2]
    exact hQ1 _ _ k2
theorem ints_rd {K : List Nat} {l : List Int} (hl : l.length ≤ 8) (h : ∀ x ∈ l, x.natAbs < 2 ^ 61) : Rd K 4 2600 S (.tup (l.map D.int)) := rd_tl (by rw [List.length_map]; exact hl) fun x hx => by
  obtain ⟨i, hi, rfl⟩ := List.mem_map.mp hx
  exact rd_smi (h i hi)
theorem t5 {Q : Po} {R p c : Nat} {ws : List (List Stp)} {cs : List Nat} {rk l : List Int} (T : Tn kd kg S R ws p cs) (N : Rn ws rk) (hlen : δ.length = 18) (h1 : δ[1]? = some (some (.cell kd))) (h3 : δ[3]? = some (some (.int (ws.length : Nat)))) (h4 : δ[4]? = some (some (houseD R ws))) (h6 : δ[6]? = some (some (ranksD rk)))
    (h8 : δ[8]? = some (some (.cell c))) (hc : S[c]? = some (.lst (l.map D.int))) (hll : l.length = rk.length) (hls : ∀ x ∈ l, x.natAbs < 2 ^ 61)
    (hq : ∀ δ' S', δ'.length = δ.length → (∀ i, i ≠ 9 → i ≠ 10 → i ≠ 11 → i ≠ 12 → δ'[i]? = δ[i]?) → Dw kd kg S S' → Q.nx δ' S') : OkS (q_5 δ S) Q := by
  have w1 := T.h.w1
  have w5 := T.h.w5
  have rl := N.rl
  have e0 : opIx (ranksD rk) (.int 0) S = .ok (.int (rk[0]'(by omega))) S := p_ixT (n := 0) (by simp [show 0 < rk.length by omega])
  have hsrc : Ok (src_5 δ S) fun s S1 => ∃ vs, s = .seq (.tup vs) ∧ vs.length = 5 ∧ (∀ x ∈ vs, Rd [kd, kg] 4 2600 S1 x) ∧ Dw kd kg S S1 := by
    simp [src_5, h1, h3, h6, h8, b_tupL hc, e0, lim_eq]
    rw [p_mulT1 (by omega) (by omega), Ok_ok]
    refine Ok.imp (r_no_ranks T.dk (by omega) (by omega) N.sm _ rfl) ?_
    rintro v3 S1 ⟨rd3, ⟨D1, k1⟩⟩
    refine Ok.imp (any3 D1) ?_
    rintro v4 S2 ⟨⟨D2, k2⟩, rd4⟩
    refine ⟨⟨ints_rd (by omega) N.sm, ints_rd (by omega) hls, ?_, rd3.mono k2, rd4⟩, D2, k1.trans k2⟩
    refine rd_tl (by rw [List.length_replicate]; omega) fun x hx => ?_
    rw [(List.mem_replicate.mp hx).2]
    exact rd_smi (N.sm _ (List.getElem_mem _))
  obtain ⟨s, S1, e, vs, rfl, hl, hrd, D1, k1⟩ := hsrc.ex
  unfold q_5
  refine ok_for (s0 := .seq (.tup vs)) (N := 5) (item := fun i => vs[i]?.getD .non) (fun i δ' S' => δ'.length = δ.length ∧ (∀ j, j ≠ 9 → j ≠ 10 → j ≠ 11 → j ≠ 12 → δ'[j]? = δ[j]?) ∧ Deck kd kg S' ∧ Kp [kd, kg] S S' ∧ ∀ x ∈ vs, Rd [kd, kg] 4 2600 S' x) ?_ ?_ ?_ ?_ ?_
  · rw [e]
    exact ⟨rfl, rfl, fun _ _ _ _ _ => rfl, D1, k1, hrd⟩
  · intro i δ' S' h
    simp [Src.len, hl]
  · intro i δ' S' hi h
    simp [Src.item, hl, hi]
  · rintro i δ' S2 hi ⟨hl2, hag, D2, k2, hrd2⟩
    obtain ⟨x, hx⟩ : ∃ x, vs[i]? = some x := ⟨_, List.getElem?_eq_getElem (by omega)⟩
    refine ⟨_, set_nm, ?_⟩
    rw [hx, Option.getD_some]
    have g : ∀ j, j ≠ 9 → j ≠ 10 → j ≠ 11 → j ≠ 12 → (δ'.set 9 (some x))[j]? = δ[j]? := fun j a b d e => by
      rw [List.getElem?_set_ne (Ne.symm a)]
      exact hag j a b d e
    refine t5b (v := x) T.h ?_ ?_ ?_ ?_ (hrd2 x (List.mem_of_getElem? hx)) ?_
    · rw [List.length_set, hl2, hlen]
    · rw [g 3 (by decide) (by decide) (by decide) (by decide)]; exact h3
    · rw [g 4 (by decide) (by decide) (by decide) (by decide)]; exact h4
    · exact List.getElem?_set_self (by rw [hl2, hlen]; decide)
    · intro a b d S3 k3
      refine ⟨by rw [List.length_set, List.length_set, List.length_set, List.length_set]; exact hl2, fun j a1 a2 a3 a4 => ?_, D2.kp k3, k2.trans k3.of, fun y hy => (hrd2 y hy).mono k3.of⟩
      rw [List.getElem?_set_ne (Ne.symm a4), List.getElem?_set_ne (Ne.symm a3), List.getElem?_set_ne (Ne.symm a2)]
      exact g j a1 a2 a3 a4
  · rintro δ' S2 ⟨hl2, hag, D2, k2, _⟩
    exact hq δ' S2 hl2 hag ⟨D2, k2⟩
/-! ### choices -/
theorem natD_rd {K : List Nat} {o : Option Nat} (h : ∀ i, o = some i → i < 64) : Rd K 0 11 S (natD o) := by
  cases o with
  | none => exact rd_non
  | some i =>
    have := h i rfl
    exact rdi (by show ((i : Nat) : Int).natAbs < 2048; omega) (by decide)
theorem t6b {Q : Po} {R p : Nat} {ws : List (List Stp)} {cs : List Nat} {rk : List Int} (T : Tn kd kg S R ws p cs) (N : Rn ws rk) (hlen : δ.length = 18) (h1 : δ[1]? = some (some (.cell kd))) (h4 : δ[4]? = some (some (houseD R ws))) (h5 : δ[5]? = some (some (.cell p))) (h6 : δ[6]? = some (some (ranksD rk)))
    (hq : ∀ δ' S', δ'.length = δ.length → (∀ i, i ≠ 10 → i ≠ 12 → i ≠ 14 → δ'[i]? = δ[i]?) → Dw kd kg S S' → Q.nx δ' S') : OkS (body_6 δ S) Q := by
  have w5 := T.h.w5
  unfold body_6
  refine stepSet (P := fun d S' => Dw kd kg S S' ∧ ∃ ch, d = choiceD ch ∧ ChOk ws ch) ?_ ?_
  · simp [e_6_0, h1, h4, h5]
    exact r_law_choice T.dk T.h T.pl _ rfl
  · rintro _ S1 δ1 ⟨d1, ch, rfl, hch⟩ l1 ag1 at1
    have T1 := T.mono d1
    have a4 := (ag1 4 (by decide)).trans h4
    have a5 := (ag1 5 (by decide)).trans h5
    have a6 := (ag1 6 (by decide)).trans h6
    have a14 : δ1[14]? = some (some (choiceD ch)) := at1 (by rw [hlen]; decide)
    obtain ⟨tt, htt⟩ : ∃ tt, tt = natD (topF (fun i => rk[i]?.getD 0) (movT ws ch)) := ⟨_, rfl⟩
    have rt : ∀ (K : List Nat) (S : Sto), Rd K 0 11 S tt := fun K S => by
      rw [htt]
      refine natD_rd fun i hi => ?_
      have := List.mem_range.mp (List.mem_filter.mp (topF_mem hi)).1
      omega
    obtain ⟨t, ht⟩ := repr_lst (S := S1) (K := []) (rd_two (rt [] S1) (rt [] S1)) (by decide) (by show 2 * (11 + 1) ≤ 8000; decide)
    refine stepSet (P := fun d S' => d = tt ∧ Kp [] S1 S') ?_ ?_
    · simp [e_6_1, a4, a5, a6, a14]
      rw [htt]
      exact r_law_foremost T1.h T1.pl hch N.rl
    · rintro d2 S2 δ2 ⟨hd2, k2⟩ l2 ag2 at2
      rw [hd2] at at2
      have b4 := (ag2 4 (by decide)).trans a4
      have b6 := (ag2 6 (by decide)).trans a6
      have b14 := (ag2 14 (by decide)).trans a14
      have b10 : δ2[10]? = some (some tt) := at2 (by rw [l1, hlen]; decide)
      have tin : ∀ S3 (P : D → Sto → Prop), (∀ S', Kp [] S3 S' → P tt S') → Ok (d_foremost [houseD R ws, ranksD rk, choiceD ch] S3) P := fun S3 P h => by
        refine Ok.imp (r_foremost T1.h hch N.rl N.nd) ?_
        rintro r S4 ⟨rfl, k4⟩
        rw [← htt]
        exact h S4 k4
      refine stepSet (P := fun d S' => ∃ c, d = .cell c ∧ S'[c]? = some (.lst [tt, tt]) ∧ Kp [] S2 S') ?_ ?_
      · simp [e_6_2, b4, b6, b14, lim_eq, permD]
        refine tin S2 _ fun S3 k3 => ?_
        refine tin S3 _ fun S4 k4 => ?_
        exact ⟨⟨rfl, rfl⟩, (k3.trans k4).push _⟩
      · rintro _ S3 δ3 ⟨c, rfl, hc, k3⟩ l3 ag3 at3
        have c10 := (ag3 10 (by decide)).trans b10
        have c12 : δ3[12]? = some (some (.cell c)) := at3 (by rw [l2, l1, hlen]; decide)
        have k13 := k2.trans k3
        unfold q_6_3
        simp [c10, c12, lim_eq]
        rw [ht _ _ k13 hc, Ok_ok]
        have k4 := k13.push [C.lst [tt, tt]]
        rw [ht _ _ k4 (get_push S3 _), Ok_ok]
        rw [p_neS, Ok_ok]
        refine Or.inl ⟨by simp, ?_⟩
        refine hq δ3 _ (l3.trans (l2.trans l1)) (fun j j1 j2 j3 => ?_) ⟨d1.1.kp k4, d1.2.trans k4.of⟩
        exact (ag3 j j2).trans ((ag2 j j1).trans (ag1 j j3))
theorem t6 {Q : Po} {R p : Nat} {ws : List (List Stp)} {cs : List Nat} {rk : List Int} (T : Tn kd kg S R ws p cs) (N : Rn ws rk) (hlen : δ.length = 18) (h1 : δ[1]? = some (some (.cell kd))) (h4 : δ[4]? = some (some (houseD R ws))) (h5 : δ[5]? = some (some (.cell p))) (h6 : δ[6]? = some (some (ranksD rk)))
    (hq : ∀ δ' S', δ'.length = δ.length → (∀ i, i ≠ 10 → i ≠ 12 → i ≠ 13 → i ≠ 14 → δ'[i]? = δ[i]?) → Dw kd kg S S' → Q.nx δ' S') : OkS (q_6 δ S) Q := by
  unfold q_6 src_6
  have hn : (4 : Nat) ≤ 1000000 := by decide
  refine ok_forR hn ?I ?_ ?_ ?_
  case I => exact fun _ δ' S' => δ'.length = δ.length ∧ (∀ j, j ≠ 10 → j ≠ 12 → j ≠ 13 → j ≠ 14 → δ'[j]? = δ[j]?) ∧ Dw kd kg S S'
  · simp
    exact ⟨T.dk, Kp.refl _ _⟩
  · rintro i δ' S2 hi ⟨hl2, hag, d2⟩
    refine ⟨_, set_nm, ?_⟩
    have g : ∀ j, j ≠ 10 → j ≠ 12 → j ≠ 13 → j ≠ 14 → (δ'.set 13 (some (D.int (i : Nat))))[j]? = δ[j]? := fun j a b d e => by
      rw [List.getElem?_set_ne (Ne.symm d)]
      exact hag j a b d e
    refine t6b (T.mono d2) N (by rw [List.length_set, hl2, hlen]) ?_ ?_ ?_ ?_ ?_
    · rw [g 1 (by decide) (by decide) (by decide) (by decide)]; exact h1
    · rw [g 4 (by decide) (by decide) (by decide) (by decide)]; exact h4
    · rw [g 5 (by decide) (by decide) (by decide) (by decide)]; exact h5
    · rw [g 6 (by decide) (by decide) (by decide) (by decide)]; exact h6
    · intro δ3 S3 l3 ag3 d3
      refine ⟨l3.trans (by rw [List.length_set]; exact hl2), fun j a b d e => (ag3 j a b e).trans (g j a b d e), d3.1, d2.2.trans d3.2⟩
  · rintro δ' S2 ⟨hl2, hag, d2⟩
    exact hq δ' S2 hl2 hag d2
/-! ### refusals -/
theorem t7 {R p : Nat} {ws : List (List Stp)} {cs : List Nat} (T : Tn kd kg S R ws p cs) (h1 : δ[1]? = some (some (.cell kd))) (h3 : δ[3]? = some (some (.int (ws.length : Nat)))) (h4 : δ[4]? = some (some (houseD R ws))) :
    Ok (a_7 δ S) fun ds S' => ∃ x y, ds = [x, y] ∧ NotCalm y ∧ Dw kd kg S S' := by
  have w1 := T.h.w1
  have w5 := T.h.w5
  simp [a_7, h1, h3, h4, lim_eq]
  rw [p_mulT1 (by omega) (by omega), Ok_ok]
  refine Ok.imp (r_no_calm T.dk T.h _ rfl) ?_
  rintro r S1 ⟨n, d⟩
  exact ⟨_, _, ⟨rfl, rfl⟩, n, d⟩
theorem t8 {Q : Po} {x y r : D} (h6 : δ[6]? = some (some r)) (h15 : δ[15]? = some (some x)) (h16 : δ[16]? = some (some y)) (n : NotCalm y) (hQ : ∀ S', Kp [] S S' → Q.nx δ S') : OkS (q_8 δ S) Q := by
  unfold q_8
  simp [h6, h15, h16]
  refine Ok.imp (ref_calm0 n S) ?_
  rintro _ S1 ⟨rfl, k1⟩
  simp
  refine Ok.imp (ref_calm1 n S1) ?_
  rintro _ S2 ⟨rfl, k2⟩
  simp
  exact hQ _ (k1.trans k2)
theorem t9 {R p : Nat} {ws : List (List Stp)} {cs : List Nat} {rk : List Int} (T : Tn kd kg S R ws p cs) (N : Rn ws rk) (h1 : δ[1]? = some (some (.cell kd))) (h6 : δ[6]? = some (some (ranksD rk))) :
    Ok (e_9 δ S) fun d S' => NoR d ∧ Dw kd kg S S' := by
  have w1 := T.h.w1
  have w5 := T.h.w5
  have rl := N.rl
  simp [e_9, h1, h6, lim_eq]
  refine Ok.imp (r_no_ranks T.dk (by omega) (by omega) N.sm _ rfl) ?_
  rintro a S1 ⟨ra, D1, k1⟩
  refine Ok.imp (r_no_ranks D1 (by omega) (by omega) N.sm _ rfl) ?_
  rintro b S2 ⟨rb, D2, k2⟩
  refine Ok.imp (r_pick (D2.push _) (get_push _ _) (D2.fresh (Nat.le_refl _)) (by simp) (by simp)) ?_
  rintro d S3 ⟨hd, D3, k3⟩
  refine ⟨?_, D3, ((k1.trans k2).push _).trans k3⟩
  simp only [List.mem_cons, List.not_mem_nil, or_false] at hd
  rcases hd with rfl | rfl
  · exact noR_rd ra
  · exact noR_rd rb
theorem t10 {Q : Po} {R : Nat} {ws : List (List Stp)} {v x : D} {t : Str} (H : HOk R ws) (nv : NoR v) (h3 : δ[3]? = some (some (.int (ws.length : Nat)))) (h4 : δ[4]? = some (some (houseD R ws))) (h7 : δ[7]? = some (some (.str t))) (h15 : δ[15]? = some (some x)) (h17 : δ[17]? = some (some v))
    (hrep : ∀ S', Kp [] S S' → bRepr [houseD R ws] S' = .ok (.str t) S') (hQ : ∀ S', Kp [] S S' → Q.nx δ S') : OkS (q_10 δ S) Q := by
  have w5 := H.w5
  have hel : ∀ S : Sto, d_law_error [.int (ws.length : Nat), v] S = .ok (errV ws.length v) S := fun S => by
    obtain ⟨r, S1, e, e1, e2⟩ := (r_err_law (S := S) (n := ws.length) (by omega) nv).ex
    rw [e, e1, e2]
  unfold q_10
  simp [h3, h4, h7, h15, h17, hel]
  rcases err_isNon (v := v) (n := ws.length) with hn | hn
  · simp [hn]
    refine Ok.imp (ref_err H nv hn S) ?_
    rintro _ S1 ⟨rfl, k1⟩
    simp
    rw [hrep _ k1, Ok_ok, p_neS, Ok_ok]
    exact Or.inl ⟨by simp, hQ _ k1⟩
  · have hi : isNon (errV ws.length v) = true := by rw [hn]; rfl
    simp [hi]
    rw [hrep _ (Kp.refl _ _), Ok_ok, p_neS, Ok_ok]
    exact Or.inl ⟨by simp, hQ _ (Kp.refl _ _)⟩
end
end Dn
set_option Elab.async false
set_option linter.all false
set_option maxRecDepth 100000
set_option maxHeartbeats 2000000
/-! Ns_k78: a turn, the law. -/
noncomputable section
namespace Dn
open PySem L2
section
variable {δ : En} {S S' : Sto} {kd kg : Nat}
theorem kp_fresh {S0 S1 S2 : Sto} {c : Nat} (a : Kp [] S0 S1) (b : Kp [c, kd, kg] S1 S2) (hc : S0.length ≤ c) : Kp [kd, kg] S0 S2 :=
  ⟨Nat.le_trans a.le b.le, fun n x hn h => b.get n x (by
    have := lt_of_get h
    simp at hn ⊢
    omega) (a.get n x (by simp) h)⟩
theorem r_turn {Q : Po} (Dk : Deck kd kg S) (hlen : δ.length = 18) (h1 : δ[1]? = some (some (.cell kd))) (hQ : ∀ δ' S', δ'.length = 18 → δ'[1]? = some (some (.cell kd)) → Deck kd kg S' → Q.nx δ' S') : OkS (b_turn δ S) Q := by
  unfold b_turn
  refine stepSet (t0 Dk h1) ?_
  rintro _ S1 δ1 ⟨hands, rfl, hh1, hh5, d1⟩ l1 ag1 at1
  have n1 : δ1.length = 18 := l1.trans hlen
  have a1 := (ag1 1 (by decide)).trans h1
  have a3 : δ1[3]? = some (some (.int (hands : Nat))) := at1 (by rw [hlen]; decide)
  refine stepSet (t1 d1.1 a1 a3 hh1 hh5) ?_
  rintro _ S2 δ2 ⟨R, ws, rfl, H, hwl, d2⟩ l2 ag2 at2
  subst hwl
  have n2 : δ2.length = 18 := l2.trans n1
  have b1 := (ag2 1 (by decide)).trans a1
  have b3 := (ag2 3 (by decide)).trans a3
  have b4 : δ2[4]? = some (some (houseD R ws)) := at2 (by rw [n1]; decide)
  refine stepS ?_
  unfold q_2
  rw [o_par]
  refine Ok.imp (t2 d2.1 H b3 b1 b4) ?_
  rintro _ S3 ⟨p, cs, rk, t, rfl, N, T3, k3, hrep⟩
  refine ⟨((δ2.set 5 (some (.cell p))).set 6 (some (ranksD rk))).set 7 (some (.str t)), by simp, ?_⟩
  obtain ⟨δ3, hδ3⟩ : ∃ δ3, ((δ2.set 5 (some (.cell p))).set 6 (some (ranksD rk))).set 7 (some (.str t)) = δ3 := ⟨_, rfl⟩
  have n3 : δ3.length = 18 := by rw [← hδ3, List.length_set, List.length_set, List.length_set, n2]
  have ag3 : ∀ j, j ≠ 5 → j ≠ 6 → j ≠ 7 → δ3[j]? = δ2[j]? := fun j x y z => by
    rw [← hδ3, List.getElem?_set_ne (Ne.symm z), List.getElem?_set_ne (Ne.symm y), List.getElem?_set_ne (Ne.symm x)]
  have c5 : δ3[5]? = some (some (.cell p)) := by
    rw [← hδ3, List.getElem?_set_ne (by decide), List.getElem?_set_ne (by decide)]
    exact List.getElem?_set_self (by rw [n2]; decide)
  have c6 : δ3[6]? = some (some (ranksD rk)) := by
    rw [← hδ3, List.getElem?_set_ne (by decide)]
    exact List.getElem?_set_self (by rw [List.length_set, n2]; decide)
  have c7 : δ3[7]? = some (some (.str t)) := by
    rw [← hδ3]
    exact List.getElem?_set_self (by rw [List.length_set, List.length_set, n2]; decide)
  have c1 := (ag3 1 (by decide) (by decide) (by decide)).trans b1
  have c3 := (ag3 3 (by decide) (by decide) (by decide)).trans b3
  have c4 := (ag3 4 (by decide) (by decide) (by decide)).trans b4
  rw [hδ3]
  clear hδ3
  refine stepSet (t3 c6) ?_
  rintro _ S4 δ4 ⟨rfl, rfl⟩ l4 ag4 at4
  have n4 : δ4.length = 18 := l4.trans n3
  have e8 : δ4[8]? = some (some (.cell S3.length)) := at4 (by rw [n3]; decide)
  have e1 := (ag4 1 (by decide)).trans c1
  have e3 := (ag4 3 (by decide)).trans c3
  have e6 := (ag4 6 (by decide)).trans c6
  have D4 : Deck kd kg (S3 ++ [C.lst (rk.map D.int)]) := T3.dk.push _
  refine stepS (t4 D4 N H.w1 H.w5 e1 e3 e6 e8 (get_push _ _) (T3.dk.fresh (Nat.le_refl _)) ?_)
  intro S5 l D5 k5 hc5 hll hls
  have k35 : Kp [kd, kg] S3 S5 := kp_fresh (Kp.app [] S3 _) k5 (Nat.le_refl _)
  have T5 := T3.mono ⟨D5, k35⟩
  have e4 := (ag4 4 (by decide)).trans c4
  refine stepS (t5 T5 N n4 e1 e3 e4 e6 e8 hc5 hll hls ?_)
  intro δ6 S6 l6 ag6 d6
  have T6 := T5.mono d6
  have n6 : δ6.length = 18 := l6.trans n4
  have g : ∀ j, j ≠ 8 → j ≠ 9 → j ≠ 10 → j ≠ 11 → j ≠ 12 → δ6[j]? = δ3[j]? := fun j x a b c d => (ag6 j a b c d).trans (ag4 j x)
  have f1 := (g 1 (by decide) (by decide) (by decide) (by decide) (by decide)).trans c1
  have f3 := (g 3 (by decide) (by decide) (by decide) (by decide) (by decide)).trans c3
  have f4 := (g 4 (by decide) (by decide) (by decide) (by decide) (by decide)).trans c4
  have f5 := (g 5 (by decide) (by decide) (by decide) (by decide) (by decide)).trans c5
  have f6 := (g 6 (by decide) (by decide) (by decide) (by decide) (by decide)).trans c6
  have f7 := (g 7 (by decide) (by decide) (by decide) (by decide) (by decide)).trans c7
  refine stepS (t6 T6 N n6 f1 f4 f5 f6 ?_)
  intro δ7 S7 l7 ag7 d7
  have T7 := T6.mono d7
  have n7 : δ7.length = 18 := l7.trans n6
  have i1 := (ag7 1 (by decide) (by decide) (by decide) (by decide)).trans f1
  have i3 := (ag7 3 (by decide) (by decide) (by decide) (by decide)).trans f3
  have i4 := (ag7 4 (by decide) (by decide) (by decide) (by decide)).trans f4
  have i6 := (ag7 6 (by decide) (by decide) (by decide) (by decide)).trans f6
  have i7 := (ag7 7 (by decide) (by decide) (by decide) (by decide)).trans f7
  refine stepS ?_
  unfold q_7
  rw [o_par]
  refine Ok.imp (t7 T7 i1 i3 i4) ?_
  rintro _ S8 ⟨x, y, rfl, hn, d8⟩
  refine ⟨(δ7.set 15 (some x)).set 16 (some y), by simp, ?_⟩
  obtain ⟨δ8, hδ8⟩ : ∃ δ8, (δ7.set 15 (some x)).set 16 (some y) = δ8 := ⟨_, rfl⟩
  have n8 : δ8.length = 18 := by rw [← hδ8, List.length_set, List.length_set, n7]
  have ag8 : ∀ j, j ≠ 15 → j ≠ 16 → δ8[j]? = δ7[j]? := fun j x y => by
    rw [← hδ8, List.getElem?_set_ne (Ne.symm y), List.getElem?_set_ne (Ne.symm x)]
  have j15 : δ8[15]? = some (some x) := by
    rw [← hδ8, List.getElem?_set_ne (by decide)]
    exact List.getElem?_set_self (by rw [n7]; decide)
  have j16 : δ8[16]? = some (some y) := by
    rw [← hδ8]
    exact List.getElem?_set_self (by rw [List.length_set, n7]; decide)
  rw [hδ8]
  clear hδ8
  have T8 := T7.mono d8
  have j1 := (ag8 1 (by decide) (by decide)).trans i1
  have j3 := (ag8 3 (by decide) (by decide)).trans i3
  have j4 := (ag8 4 (by decide) (by decide)).trans i4
  have j6 := (ag8 6 (by decide) (by decide)).trans i6
  have j7 := (ag8 7 (by decide) (by decide)).trans i7
  refine stepS (t8 j6 j15 j16 hn ?_)
  intro S9 k9
  have T9 := T8.kp k9
  refine stepSet (t9 T9 N j1 j6) ?_
  rintro v S10 δ10 ⟨nv, d10⟩ l10 ag10 at10
  have T10 := T9.mono d10
  have m17 : δ10[17]? = some (some v) := at10 (by rw [n8]; decide)
  have kall : Kp [kd, kg] S3 S10 := k35.trans (d6.2.trans (d7.2.trans (d8.2.trans (k9.of.trans d10.2))))
  refine t10 (x := x) (t := t) H nv ((ag10 3 (by decide)).trans j3) ((ag10 4 (by decide)).trans j4) ((ag10 7 (by decide)).trans j7) ((ag10 15 (by decide)).trans j15) m17 (fun S' k' => hrep S' (kall.trans k'.of)) ?_
  intro S11 k11
  exact hQ _ _ (l10.trans n8) ((ag10 1 (by decide)).trans j1) (T10.kp k11).dk
/-- THE PLAIN LAW -/
theorem law_true (ns : List Int) (h : ns.length ≤ 63) : ∃ S', d_law [.ro (ns.map .int)] [] = .ok (.bl true) S' := by
  have main : Ok (d_law [.ro (ns.map D.int)] []) fun r _ => r = .bl true := by
    unfold d_law
    rw [o_fn, law_split]
    refine ⟨rfl, ?_⟩
    have hd : Ok ((dCall d_law_deck (dCons (dVar 0) dNil)) (startD 18 [D.ro (ns.map D.int)]) []) fun r S' => r = .cell 0 ∧ Deck 0 1 S' := by
      simp [startD]
      exact r_law_deck
    refine stepSet hd ?_
    rintro _ S1 δ1 ⟨rfl, D1⟩ l1 ag1 at1
    have ln : δ1.length = 18 := by rw [l1]; rfl
    have g1 : δ1[1]? = some (some (.cell 0)) := at1 (by simp [startD])
    refine stepS ?_
    have hn : (3 : Nat) ≤ 1000000 := by decide
    refine ok_forR hn ?I ?_ ?_ ?_
    case I => exact fun _ δ S => δ.length = 18 ∧ δ[1]? = some (some (.cell 0)) ∧ Deck 0 1 S
    · simp
      exact ⟨ln, g1, D1⟩
    · rintro i δ S hi ⟨a, b, c⟩
      refine ⟨_, set_nm, ?_⟩
      refine r_turn c (by rw [List.length_set]; exact a) (by rw [List.getElem?_set_ne (by decide)]; exact b) ?_
      intro δ' S' a' b' c'
      exact ⟨a', b', c'⟩
    · rintro δ S ⟨a, b, c⟩
      simp
  obtain ⟨r, S', e, rfl⟩ := main.ex
  exact ⟨S', e⟩
end
end Dn
set_option Elab.async false
set_option linter.all false
set_option maxRecDepth 100000
set_option maxHeartbeats 0
open PySem PySem.W PySem.Calls PyProof.Rows
theorem PySem.Challenge.cw_manylocks_k78_whole_ranks_and_who_is_for_holds : PySem.Challenge.rw_manylocks_k78_whole_ranks_and_who_is_for.Holds := by
  w_on; o_law
  refine HandSHeadRun.head_any (r := OpenLaw.row PySem.Challenge.rw_manylocks_k78_whole_ranks_and_who_is_for) (q := view (OpenLaw.row PySem.Challenge.rw_manylocks_k78_whole_ranks_and_who_is_for).prog [21, 42]) (H := Dn.hk) (ob := Dn.ob) (M := 4000) (loose := Dn.looseL) (d := HandSHeadRun.topDef (OpenLaw.row PySem.Challenge.rw_manylocks_k78_whole_ranks_and_who_is_for).prog 42) (kwd := []) Dn.ob_eq
    (by kernel_rfl) (fun s => by kernel_rfl) Dn.run (by kernel_rfl) (by kernel_rfl) (by kernel_rfl) (by rfl) (by first | assumption | decide +kernel) (by decide +kernel) ⟨rfl, rfl, rfl, rfl, rfl, by decide +kernel⟩ ?hw ?hc
  case hw => w_witness2
  case hc =>
    refine Dn.walkGE (l := PySem.Challenge.rw_manylocks_k78_whole_ranks_and_who_is_for) (n := 63) (k := 9) (x := "script") (g := Dn.d_law) rfl (by decide) (by kernel_rfl) ⟨rfl, by decide, by decide⟩ (by kernel_rfl) ?F Dn.law_true
    intro w mg fa h Y G hmg0
    obtain ⟨K, KX, nt, c⟩ := Y
    have hmg : mg ("law" : PySem.Str) = some (.ref fa) := by
      have e : (HandSHeadRun.topDef (OpenLaw.row PySem.Challenge.rw_manylocks_k78_whole_ranks_and_who_is_for).prog 42).name = ("law" : PySem.Str) := by kernel_rfl
      rw [← e]
      exact hmg0
    obtain ⟨fd, cl, hb, hF⟩ := Dn.facts (P := (PySem.Challenge.rw_manylocks_k78_whole_ranks_and_who_is_for).prog) (w := w) KX G hmg c
    exact ⟨K, fd, cl, KX, nt, hb, hF⟩
#print axioms PySem.Challenge.cw_manylocks_k78_whole_ranks_and_who_is_for_holds
