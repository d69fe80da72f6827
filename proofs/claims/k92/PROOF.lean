import PyProof.Rows.All
import KE.KNest
import Wide.All
import OpenK.AllK
import Wide.FinOn
import HandS.ForMost
import HandS.Exc
import HandS.TryOnly
import HandS.ExcOwn
import HandS.WordsExc
import HandS.Walk
import HandS.TupAny
import HandS.TupMul
import HandS.IsInst
import HandS.Deep
import HandS.Style
import KE.KDictKeyed
import KE.KDictDisplayH
import HandS.Lambda
import KE.GoesEnum
import HandS.Small
import HandS.EndTab
import PyProof.ReprLen
import HandS.Conv
import HandS.Strs
import HandS.Head0
import HandS.Head1
import HandS.Head2
import HandS.HeadHook1
import HandS.HeadHook4
import HandS.Zip
import HandS.Sort
import HandS.TupLe
import KE.DataMinKey
import HandS.Rev
import KE.KRevIter
import KE.KIndexOf
import KE.KRevSl
import HandS.SetFor
import PySem.Challenge.RW_manylocks_k92_whole_numbers_or_a_round
/-! Tb: the defs of this law that make lambdas. -/
namespace Dn
open PySem
def lamL : List Str := []
end Dn
set_option Elab.async false
set_option linter.all false
set_option maxRecDepth 100000
/-! Dn0: values, the store of lists and dicts, results; what stands for what. -/
namespace Dn
open PySem L2

inductive D where
  | non | bl (b : Bool) | int (i : Int) | str (x : Str) | tup (xs : List D) | ro (xs : List D) | cell (n : Nat) | rng (i j : Int)
inductive C where
  | lst (xs : List D) | dic (kvs : List (Key × D)) | dik (kvs : List (NestedKey × D))
abbrev Sto := List C
abbrev En := List (Option D)
inductive Res (α : Type) where
  | ok (a : α) (S : Sto) | exc (c : Str) (S : Sto) | bad
def Res.bnd {α β : Type} (r : Res α) (f : α → Sto → Res β) : Res β := match r with
  | .ok a S => f a S
  | .exc c S => .exc c S
  | .bad => .bad
@[simp] theorem bnd_ok {α β : Type} (a : α) (S : Sto) (f : α → Sto → Res β) : (Res.ok a S).bnd f = f a S := rfl
@[simp] theorem bnd_exc {α β : Type} (c : Str) (S : Sto) (f : α → Sto → Res β) : (Res.exc c S).bnd f = .exc c S := rfl
@[simp] theorem bnd_bad {α β : Type} (f : α → Sto → Res β) : (Res.bad : Res α).bnd f = .bad := rfl
abbrev DE := En → Sto → Res D
abbrev DT := En → Sto → Res Bool
abbrev DA := En → Sto → Res (List D)
abbrev DO := En → Sto → Res (Option Int)
/-- how a statement ends -/
inductive Out where
  | nx (δ : En) (S : Sto) | rt (d : D) (S : Sto) | bk (δ : En) (S : Sto) | ct (δ : En) (S : Sto) | exc (c : Str) (S : Sto) | bad
abbrev DS := En → Sto → Out
abbrev DF := List D → Sto → Res D

/-! ### what stands for what -/
mutual
inductive Dv (K : PySem.W.Frag) (ρ : List Addr) (H : Hp) : V → D → Prop
  | non : Dv K ρ H .non .non
  | bl (b : Bool) : Dv K ρ H (.bl b) (.bl b)
  | int (i : Int) : Dv K ρ H (.int i) (.int i)
  | str (x : Str) : Dv K ρ H (.str x) (.str x)
  | tup {a : Addr} {xs : List V} {ds : List D} : SqT K H a xs → DvAll K ρ H xs ds → Dv K ρ H (.ref a) (.tup ds)
  | ro {a : Addr} {xs : List V} {ds : List D} : SqL K H a xs → ((∃ o, H a = some (.frz o (.lst xs))) ∨ ∀ H', SqL K H' a xs) → DvAll K ρ H xs ds → Dv K ρ H (.ref a) (.ro ds)
  | cell {a : Addr} {n : Nat} : ρ[n]? = some a → Dv K ρ H (.ref a) (.cell n)
  | rng {a : Addr} {i j : Int} : H a = some (.rng i j) → Dv K ρ H (.ref a) (.rng i j)
inductive DvAll (K : PySem.W.Frag) (ρ : List Addr) (H : Hp) : List V → List D → Prop
  | nil : DvAll K ρ H [] []
  | cons {v : V} {vs : List V} {d : D} {ds : List D} : Dv K ρ H v d → DvAll K ρ H vs ds → DvAll K ρ H (v :: vs) (d :: ds)
end
inductive DvKs (K : PySem.W.Frag) (ρ : List Addr) (H : Hp) : List (Key × V) → List (Key × D) → Prop
  | nil : DvKs K ρ H [] []
  | cons {k : Key} {v : V} {vs : List (Key × V)} {d : D} {ds : List (Key × D)} : Dv K ρ H v d → DvKs K ρ H vs ds → DvKs K ρ H ((k, v) :: vs) ((k, d) :: ds)
/-! ### dicts whose keys are tuples (no texts within) -/
mutual
def txl : NestedKey → Bool
  | .none => true
  | .num _ => true
  | .text _ => false
  | .tup ks => txlAll ks
def txlAll : List NestedKey → Bool
  | [] => true
  | k :: ks => txl k && txlAll ks
end
mutual
def hash0 : NestedKey → Int
  | .none => reduceHash 0xFCA86420
  | .num i => hashInt i
  | .text _ => 0
  | .tup ks => reduceHash (Builtin.Tuple.tupleHashOf (hash0s ks))
def hash0s : List NestedKey → List Int
  | [] => []
  | k :: ks => hash0 k :: hash0s ks
end
mutual
theorem hash0_eq (w : World) : ∀ {k : NestedKey}, txl k = true → k.hash w = hash0 k
  | .none, _ => by simp only [NestedKey.hash, hash0]
  | .num i, _ => by simp only [NestedKey.hash, hash0]
  | .text _, h => by simp [txl] at h
  | .tup ks, h => by
    simp only [NestedKey.hash, hash0]
    rw [hash0s_eq w (by simpa [txl] using h)]
theorem hash0s_eq (w : World) : ∀ {ks : List NestedKey}, txlAll ks = true → NestedKey.hashes w ks = hash0s ks
  | [], _ => by simp only [NestedKey.hashes, hash0s]
  | k :: ks, h => by
    simp only [txlAll, Bool.and_eq_true] at h
    simp only [NestedKey.hashes, hash0s]
    rw [hash0_eq w h.1, hash0s_eq w h.2]
end
mutual
def keyD : D → Option NestedKey
  | .non => some .none
  | .bl b => some (.num (if b = true then 1 else 0))
  | .int i => some (.num i)
  | .str x => some (.text x)
  | .tup ds => (keyDs ds).map .tup
  | _ => none
def keyDs : List D → Option (List NestedKey)
  | [] => some []
  | d :: ds => match keyD d, keyDs ds with
    | some k, some ks => some (k :: ks)
    | _, _ => none
end
def ent0 (x : NestedKey × Addr × Value) : DictEntry := ⟨hash0 x.1, .ref x.2.1, x.2.2⟩
/-- the dict object's content -/
def DkO (a : Addr) (xs : List (NestedKey × Addr × V)) : HO := .ext fun h => (a == sysModules) = false ∧ ∃ (ys : List (NestedKey × Addr × Value)) (o : Obj) (es : Array DictEntry) (ep : Nat),
  Paired (fun (p : NestedKey × Addr × V) (q : NestedKey × Addr × Value) => p.1 = q.1 ∧ p.2.1 = q.2.1 ∧ RelV p.2.2 q.2.2) xs ys ∧ h.get? a = some o ∧ o.ExactDict ∧ o.data = .dict es ep ∧ es.toList = ys.map ent0 ∧ (ys.map (·.1)).Nodup
inductive DkR (K : PySem.W.Frag) (ρ : List Addr) (H : Hp) : List (NestedKey × Addr × V) → List (NestedKey × D) → Prop
  | nil : DkR K ρ H [] []
  | cons {k : NestedKey} {b : Addr} {v : V} {ds : List D} {d : D} {xs : List (NestedKey × Addr × V)} {kvs : List (NestedKey × D)} : Dv K ρ H (.ref b) (.tup ds) → keyD (.tup ds) = some k → txl k = true → k.depth ≤ 8 → Dv K ρ H v d → DkR K ρ H xs kvs → DkR K ρ H ((k, b, v) :: xs) ((k, d) :: kvs)
def CellR (K : PySem.W.Frag) (ρ : List Addr) (H : Hp) (a : Addr) : C → Prop
  | .lst ds => ∃ xs, H a = some (.lst xs) ∧ DvAll K ρ H xs ds
  | .dic kvs => ∃ kws, H a = some (.dK kws) ∧ DvKs K ρ H kws kvs
  | .dik kvs => ∃ xs, H a = some (DkO a xs) ∧ DkR K ρ H xs kvs
/-- the lambda's own name, made in the def x -/
def lamQ (x : Str) : Str := (x ++ ".<locals>.") ++ "<lambda>"
/-- the tables of the defs that make lambdas -/
def TTof (K : PySem.W.Frag) : List (Addr × Str) := lamL.filterMap fun x => (PySem.W.tabIn K x).map fun p => (p.2, lamQ x)
structure Rep (K : PySem.W.Frag) (ρ : List Addr) (H : Hp) (S : Sto) : Prop where
  len : ρ.length = S.length
  inj : ∀ (i j : Nat) (a : Addr), ρ[i]? = some a → ρ[j]? = some a → i = j
  «at» : ∀ (n : Nat) (a : Addr) (c : C), ρ[n]? = some a → S[n]? = some c → CellR K ρ H a c
  tab : LamX.Tabs (TTof K) H
/-- what comes later -/
structure Ext (ρ : List Addr) (H : Hp) (ρ' : List Addr) (H' : Hp) : Prop where
  pre : ∀ (n : Nat) (a : Addr), ρ[n]? = some a → ρ'[n]? = some a
  tup : ∀ a xs, H a = some (.tup xs) → H' a = some (.tup xs)
  frz : ∀ a o u, H a = some (.frz o u) → H' a = some (.frz o u)
  rng : ∀ a i j, H a = some (.rng i j) → H' a = some (.rng i j)
theorem Ext.refl (ρ : List Addr) (H : Hp) : Ext ρ H ρ H := ⟨fun _ _ h => h, fun _ _ h => h, fun _ _ _ h => h, fun _ _ _ h => h⟩
theorem Ext.trans {ρ ρ1 ρ2 : List Addr} {H H1 H2 : Hp} (a : Ext ρ H ρ1 H1) (b : Ext ρ1 H1 ρ2 H2) : Ext ρ H ρ2 H2 :=
  ⟨fun n x h => b.pre n x (a.pre n x h), fun x xs h => b.tup x xs (a.tup x xs h), fun x o u h => b.frz x o u (a.frz x o u h), fun x o u h => b.rng x o u (a.rng x o u h)⟩
theorem Ext.sqT {K : PySem.W.Frag} {ρ ρ' : List Addr} {H H' : Hp} {a : Addr} {xs : List V} (e : Ext ρ H ρ' H') (h : SqT K H a xs) : SqT K H' a xs := by
  rcases h with (h | ⟨o, h⟩) | h
  · exact .inl (.inl (e.tup _ _ h))
  · exact .inl (.inr ⟨o, e.frz _ _ _ h⟩)
  · exact .inr h
/-- a new object -/
theorem Ext.new {ρ : List Addr} {H : Hp} {p : Addr} {o : HO} (h : H p = none) : Ext ρ H ρ (upd H p o) :=
  ⟨fun _ _ h => h, fun a xs e => by rw [upd_ne (ne_of_none e h)]; exact e, fun a o u e => by rw [upd_ne (ne_of_none e h)]; exact e, fun a o u e => by rw [upd_ne (ne_of_none e h)]; exact e⟩
theorem Ext.newC {ρ : List Addr} {H : Hp} {p : Addr} {o : HO} (h : H p = none) : Ext ρ H (ρ ++ [p]) (upd H p o) :=
  ⟨fun n a e => by
    rw [List.getElem?_append_left (List.getElem?_eq_some_iff.mp e).1]
    exact e, (Ext.new (ρ := ρ) h).tup, (Ext.new (ρ := ρ) h).frz, (Ext.new (ρ := ρ) h).rng⟩
/-- what may be written -/
def MutH (o : HO) : Prop := (∀ xs, o ≠ .tup xs) ∧ (∀ z u, o ≠ .frz z u) ∧ (∀ i j, o ≠ .rng i j) ∧ (∀ ps, o ≠ .tbl ps) ∧ ∀ c q, o ≠ LamX.CodeO c q
theorem dkO_ne (a : Addr) (xs : List (NestedKey × Addr × V)) (c : Addr) (q : Str) : DkO a xs ≠ LamX.CodeO c q := by
  intro z
  unfold DkO LamX.CodeO at z
  have e := HO.ext.inj z
  let o : Obj := { cls := .none, data := .fields #[.none, .str q 0] }
  let h : Heap := { objs := Array.replicate (c + 1) o }
  have g : ∀ b ob, h.get? b = some ob → ob = o := fun b ob hb => by
    unfold Heap.get? at hb
    by_cases hl : b < c + 1
    · have e1 : h.objs[b]? = some o := by simp [h, hl]
      rw [e1] at hb
      exact (Option.some.inj hb).symm
    · have e1 : h.objs[b]? = none := Array.getElem?_eq_none (by show (Array.replicate (c + 1) o).size ≤ b; rw [Array.size_replicate]; exact Nat.le_of_not_lt hl)
      rw [e1] at hb
      cases hb
  have gc : h.get? c = some o := by
    unfold Heap.get?
    have e1 : h.objs[c]? = some o := by simp [h]
    rw [e1]
  have t := (congrFun e h).mpr ⟨o, _, 0, gc, rfl, rfl⟩
  obtain ⟨_, ys, ob, es, ep, _, h1, _, h2, _⟩ := t
  rw [g _ _ h1] at h2
  cases h2
theorem tabs_keep {T : List (Addr × Str)} {H H' : Hp} (t : LamX.Tabs T H) (e : ∀ b o, H b = some o → (∃ ps, o = .tbl ps) ∨ (∃ c q, o = LamX.CodeO c q) → H' b = some o) : LamX.Tabs T H' := fun p hp => by
  obtain ⟨ps, h1, h2, h3⟩ := t p hp
  refine ⟨ps, e _ _ h1 (.inl ⟨_, rfl⟩), h2, fun pos cv hc => ?_⟩
  obtain ⟨c, e1, e2⟩ := h3 pos cv hc
  exact ⟨c, e1, e _ _ e2 (.inr ⟨_, _, rfl⟩)⟩
/-- a mutable object is changed -/
theorem Ext.write {ρ : List Addr} {H : Hp} {p : Addr} {o : HO} (hm : ∃ q, H p = some q ∧ MutH q) : Ext ρ H ρ (upd H p o) := by
  obtain ⟨q, hq, m1, m2, m3, _⟩ := hm
  have ne : ∀ a u, H a = some u → u ≠ q → a ≠ p := fun a u e h1 z => by
    subst z
    rw [e] at hq
    exact h1 (Option.some.inj hq)
  refine ⟨fun _ _ h => h, fun a xs e => ?_, fun a o u e => ?_, fun a i j e => ?_⟩
  · rw [upd_ne (ne a _ e fun z => m1 _ z.symm)]
    exact e
  · rw [upd_ne (ne a _ e fun z => m2 _ _ z.symm)]
    exact e
  · rw [upd_ne (ne a _ e fun z => m3 _ _ z.symm)]
    exact e
section
variable {K : PySem.W.Frag} {ρ ρ' : List Addr} {H H' : Hp}
mutual
theorem Dv.mono (e : Ext ρ H ρ' H') : ∀ {d : D} {v : V}, Dv K ρ H v d → Dv K ρ' H' v d
  | .non, _, h => by cases h; exact .non
  | .bl b, _, h => by cases h; exact .bl b
  | .int b, _, h => by cases h; exact .int b
  | .str b, _, h => by cases h; exact .str b
  | .cell n, _, h => by cases h with | cell q => exact .cell (e.pre _ _ q)
  | .rng i j, _, h => by cases h with | rng q => exact .rng (e.rng _ _ _ q)
  | .tup ds, _, h => by cases h with | tup q r => exact .tup (e.sqT q) (DvAll.mono e r)
  | .ro ds, _, h => by
    cases h with
    | ro q f r =>
      refine .ro ?_ ?_ (DvAll.mono e r)
      · rcases f with ⟨o, f⟩ | f
        · exact .inl (.inr ⟨o, e.frz _ _ _ f⟩)
        · exact f H'
      · rcases f with ⟨o, f⟩ | f
        · exact .inl ⟨o, e.frz _ _ _ f⟩
        · exact .inr f
theorem DvAll.mono (e : Ext ρ H ρ' H') : ∀ {ds : List D} {vs : List V}, DvAll K ρ H vs ds → DvAll K ρ' H' vs ds
  | [], _, h => by cases h; exact .nil
  | d :: ds, _, h => by cases h with | cons a b => exact .cons (Dv.mono e a) (DvAll.mono e b)
end
theorem DvKs.mono (e : Ext ρ H ρ' H') : ∀ {ds : List (Key × D)} {vs : List (Key × V)}, DvKs K ρ H vs ds → DvKs K ρ' H' vs ds
  | [], _, h => by cases h; exact .nil
  | d :: ds, _, h => by cases h with | cons a b => exact .cons (a.mono e) (DvKs.mono e b)
theorem DkR.mono (e : Ext ρ H ρ' H') : ∀ {ds : List (NestedKey × D)} {vs : List (NestedKey × Addr × V)}, DkR K ρ H vs ds → DkR K ρ' H' vs ds
  | [], _, h => by cases h; exact .nil
  | d :: ds, _, h => by cases h with | cons a b c d' e' f => exact .cons (a.mono e) b c d' (e'.mono e) (DkR.mono e f)
theorem DvAll.length : ∀ {vs : List V} {ds : List D}, DvAll K ρ H vs ds → vs.length = ds.length
  | _, _, .nil => rfl
  | _, _, .cons _ t => congrArg Nat.succ (DvAll.length t)
theorem DvAll.get : ∀ {vs : List V} {ds : List D} {i : Nat} {d : D}, DvAll K ρ H vs ds → ds[i]? = some d → ∃ v, vs[i]? = some v ∧ Dv K ρ H v d
  | _, _, _, _, .nil, e => by simp at e
  | _, _, 0, _, .cons r _, e => by simp at e; subst e; exact ⟨_, rfl, r⟩
  | _, _, i + 1, d, .cons _ t, e => by
    obtain ⟨u, h1, h2⟩ := DvAll.get (i := i) (d := d) t (by simpa using e)
    exact ⟨u, by simpa using h1, h2⟩
theorem DvAll.getV : ∀ {vs : List V} {ds : List D} {i : Nat} {v : V}, DvAll K ρ H vs ds → vs[i]? = some v → ∃ d, ds[i]? = some d ∧ Dv K ρ H v d
  | _, _, _, _, .nil, e => by simp at e
  | _, _, 0, _, .cons r _, e => by simp at e; subst e; exact ⟨_, rfl, r⟩
  | _, _, i + 1, d, .cons _ t, e => by
    obtain ⟨u, h1, h2⟩ := DvAll.getV (i := i) (v := d) t (by simpa using e)
    exact ⟨u, by simpa using h1, h2⟩
theorem DvAll.append : ∀ {vs ws : List V} {ds es : List D}, DvAll K ρ H vs ds → DvAll K ρ H ws es → DvAll K ρ H (vs ++ ws) (ds ++ es)
  | _, _, _, _, .nil, s => s
  | _, _, _, _, .cons r t, s => .cons r (DvAll.append t s)
theorem DvAll.take : ∀ {vs : List V} {ds : List D} (n : Nat), DvAll K ρ H vs ds → DvAll K ρ H (vs.take n) (ds.take n)
  | _, _, 0, _ => .nil
  | _, _, _ + 1, .nil => .nil
  | _, _, n + 1, .cons r t => .cons r (DvAll.take n t)
theorem DvAll.drop : ∀ {vs : List V} {ds : List D} (n : Nat), DvAll K ρ H vs ds → DvAll K ρ H (vs.drop n) (ds.drop n)
  | _, _, 0, r => r
  | _, _, _ + 1, .nil => .nil
  | _, _, n + 1, .cons _ t => DvAll.drop n t
theorem DvAll.set {v : V} {d : D} (r : Dv K ρ H v d) : ∀ {vs : List V} {ds : List D} (i : Nat), DvAll K ρ H vs ds → DvAll K ρ H (vs.set i v) (ds.set i d)
  | _, _, _, .nil => .nil
  | _, _, 0, .cons _ t => .cons r t
  | _, _, i + 1, .cons q t => .cons q (DvAll.set r i t)
theorem DvAll.eraseIdx : ∀ {vs : List V} {ds : List D} (i : Nat), DvAll K ρ H vs ds → DvAll K ρ H (vs.eraseIdx i) (ds.eraseIdx i)
  | _, _, _, .nil => .nil
  | _, _, 0, .cons _ t => t
  | _, _, i + 1, .cons q t => .cons q (DvAll.eraseIdx i t)
theorem DvAll.dropLast {vs : List V} {ds : List D} (h : DvAll K ρ H vs ds) : DvAll K ρ H vs.dropLast ds.dropLast := by
  rw [List.dropLast_eq_take, List.dropLast_eq_take, h.length]
  exact h.take _
theorem DvAll.rep {vs : List V} {ds : List D} (h : DvAll K ρ H vs ds) : ∀ k : Nat, DvAll K ρ H (List.replicate k vs).flatten (List.replicate k ds).flatten
  | 0 => .nil
  | k + 1 => by
    rw [List.replicate_succ, List.replicate_succ, List.flatten_cons, List.flatten_cons]
    exact h.append (DvAll.rep h k)
theorem DvAll.nil_iff {vs : List V} {ds : List D} (h : DvAll K ρ H vs ds) : vs = [] ↔ ds = [] := by
  cases h with
  | nil => exact ⟨fun _ => rfl, fun _ => rfl⟩
  | cons a b => exact ⟨fun z => (by cases z), fun z => (by cases z)⟩
theorem CellR.mono (e : Ext ρ H ρ' H') {a : Addr} {c : C} (h : CellR K ρ H a c) (ha : H' a = H a) : CellR K ρ' H' a c := by
  cases c with
  | lst ds =>
    obtain ⟨xs, h1, h2⟩ := h
    exact ⟨xs, ha.trans h1, h2.mono e⟩
  | dic kvs =>
    obtain ⟨xs, h1, h2⟩ := h
    exact ⟨xs, ha.trans h1, h2.mono e⟩
  | dik kvs =>
    obtain ⟨xs, h1, h2⟩ := h
    exact ⟨xs, ha.trans h1, h2.mono e⟩
theorem CellR.mut {a : Addr} {c : C} (h : CellR K ρ H a c) : ∃ q, H a = some q ∧ MutH q := by
  cases c with
  | lst ds =>
    obtain ⟨xs, h1, h2⟩ := h
    exact ⟨_, h1, fun _ z => (by cases z), fun _ _ z => (by cases z), fun _ _ z => (by cases z), fun _ z => (by cases z), fun _ _ z => (by unfold LamX.CodeO at z; cases z)⟩
  | dic kvs =>
    obtain ⟨xs, h1, h2⟩ := h
    exact ⟨_, h1, fun _ z => (by cases z), fun _ _ z => (by cases z), fun _ _ z => (by cases z), fun _ z => (by cases z), fun _ _ z => (by unfold LamX.CodeO at z; cases z)⟩
  | dik kvs =>
    obtain ⟨xs, h1, h2⟩ := h
    exact ⟨_, h1, fun _ z => (by unfold DkO at z; cases z), fun _ _ z => (by unfold DkO at z; cases z), fun _ _ z => (by unfold DkO at z; cases z), fun _ z => (by unfold DkO at z; cases z), fun c q z => dkO_ne _ _ c q z⟩
theorem CellR.some {a : Addr} {c : C} (h : CellR K ρ H a c) : ∃ o, H a = some o := by
  obtain ⟨q, h, _⟩ := h.mut
  exact ⟨_, h⟩
end
section
variable {K : PySem.W.Frag} {ρ : List Addr} {H : Hp} {S : Sto}
theorem Rep.cell (R : Rep K ρ H S) {n : Nat} {a : Addr} (h : ρ[n]? = some a) : ∃ c, S[n]? = some c ∧ CellR K ρ H a c := by
  have hn : n < S.length := by
    rw [← R.len]
    exact (List.getElem?_eq_some_iff.mp h).1
  exact ⟨S[n], List.getElem?_eq_getElem hn, R.at n a _ h (List.getElem?_eq_getElem hn)⟩
theorem Rep.tracked (R : Rep K ρ H S) {n : Nat} {a : Addr} (h : ρ[n]? = some a) : ∃ o, H a = some o := by
  obtain ⟨c, _, q⟩ := R.cell h
  exact q.some
theorem Rep.lst (R : Rep K ρ H S) {n : Nat} {a : Addr} {ds : List D} (h : ρ[n]? = some a) (hs : S[n]? = some (.lst ds)) : ∃ xs, H a = some (.lst xs) ∧ DvAll K ρ H xs ds := R.at n a _ h hs
/-- a new tuple (or whatever is no cell) -/
theorem Rep.new (R : Rep K ρ H S) {p : Addr} {o : HO} (h : H p = none) : Rep K ρ (upd H p o) S := by
  refine ⟨R.len, R.inj, fun n a c h1 h2 => ?_, R.tab.ext fun b o e => (upd_ne (ne_of_none e h)).trans e⟩
  obtain ⟨u, hu⟩ := R.tracked h1
  exact (R.at n a c h1 h2).mono (Ext.new h) (upd_ne (ne_of_none hu h))
/-- a new cell -/
theorem Rep.newC (R : Rep K ρ H S) {p : Addr} {o : HO} {c : C} (h : H p = none) (hc : CellR K (ρ ++ [p]) (upd H p o) p c) : Rep K (ρ ++ [p]) (upd H p o) (S ++ [c]) := by
  have old : ∀ (n : Nat) (a : Addr), (ρ ++ [p])[n]? = some a → (ρ[n]? = some a ∧ n < ρ.length) ∨ (n = ρ.length ∧ a = p) := fun n a e => by
    by_cases hn : n < ρ.length
    · rw [List.getElem?_append_left hn] at e
      exact .inl ⟨e, hn⟩
    · rw [List.getElem?_append_right (Nat.le_of_not_lt hn)] at e
      have := (List.getElem?_eq_some_iff.mp e).1
      have hz : n - ρ.length = 0 := by
        simp at this
        omega
      rw [hz] at e
      exact .inr ⟨by omega, (Option.some.inj e).symm⟩
  refine ⟨by rw [List.length_append, List.length_append, R.len]; rfl, fun i j a h1 h2 => ?_, fun n a c' h1 h2 => ?_, R.tab.ext fun b o e => (upd_ne (ne_of_none e h)).trans e⟩
  · rcases old i a h1 with ⟨q1, _⟩ | ⟨q1, q2⟩
    · rcases old j a h2 with ⟨r1, _⟩ | ⟨r1, r2⟩
      · exact R.inj i j a q1 r1
      · obtain ⟨u, hu⟩ := R.tracked q1
        rw [r2, h] at hu
        cases hu
    · rcases old j a h2 with ⟨r1, _⟩ | ⟨r1, r2⟩
      · obtain ⟨u, hu⟩ := R.tracked r1
        rw [q2, h] at hu
        cases hu
      · omega
  · rcases old n a h1 with ⟨q1, q2⟩ | ⟨q1, q2⟩
    · rw [List.getElem?_append_left (by rw [← R.len]; exact q2)] at h2
      obtain ⟨u, hu⟩ := R.tracked q1
      exact (R.at n a c' q1 h2).mono (Ext.newC h) (upd_ne (ne_of_none hu h))
    · rw [q1, R.len, List.getElem?_append_right (Nat.le_refl _), Nat.sub_self] at h2
      have e : c = c' := Option.some.inj h2
      rw [← e, q2]
      exact hc
/-- a cell is changed -/
theorem Rep.write (R : Rep K ρ H S) {n : Nat} {a : Addr} {o : HO} {c : C} (hn : ρ[n]? = some a) (hc : CellR K ρ (upd H a o) a c) : Rep K ρ (upd H a o) (S.set n c) := by
  obtain ⟨c0, h0, q0⟩ := R.cell hn
  have e : Ext ρ H ρ (upd H a o) := Ext.write q0.mut
  refine ⟨by rw [List.length_set]; exact R.len, R.inj, fun i b c' h1 h2 => ?_, tabs_keep R.tab fun b u e q => ?_⟩
  case refine_2 =>
    obtain ⟨z, hz, m⟩ := q0.mut
    refine (upd_ne fun hb => ?_).trans e
    rw [hb, hz] at e
    cases e
    rcases q with ⟨ps, rfl⟩ | ⟨c1, q1, rfl⟩
    · exact m.2.2.2.1 ps rfl
    · exact m.2.2.2.2 c1 q1 rfl
  by_cases hi : n = i
  · subst hi
    rw [List.getElem?_set_self (List.getElem?_eq_some_iff.mp h0).1] at h2
    rw [hn] at h1
    cases h1
    cases h2
    exact hc
  · rw [List.getElem?_set_ne hi] at h2
    have hb : b ≠ a := fun z => hi (R.inj n i a hn (z ▸ h1))
    exact (R.at i b c' h1 h2).mono e (upd_ne hb)
theorem Rep.ext_write (R : Rep K ρ H S) {n : Nat} {a : Addr} {o : HO} (hn : ρ[n]? = some a) : Ext ρ H ρ (upd H a o) := by
  obtain ⟨c0, h0, q0⟩ := R.cell hn
  exact Ext.write q0.mut
end

/-! ### the names' values -/
structure EnvR (K : PySem.W.Frag) (ρ : List Addr) (H : Hp) (σ : L2.St) (δ : En) : Prop where
  len : δ.length = σ.length
  «at» : ∀ (i : Nat) (d : D), δ[i]? = some (some d) → ∃ v, σ[i]? = some (some v) ∧ Dv K ρ H v d
theorem EnvR.mono {K : PySem.W.Frag} {ρ ρ' : List Addr} {H H' : Hp} {σ : L2.St} {δ : En} (e : Ext ρ H ρ' H') (h : EnvR K ρ H σ δ) : EnvR K ρ' H' σ δ :=
  ⟨h.len, fun i d q => let ⟨v, a, b⟩ := h.at i d q; ⟨v, a, b.mono e⟩⟩
theorem EnvR.set {K : PySem.W.Frag} {ρ : List Addr} {H : Hp} {σ : L2.St} {δ : En} (h : EnvR K ρ H σ δ) (i : Nat) {v : V} {d : D} (r : Dv K ρ H v d) : EnvR K ρ H (σ.set i (some v)) (δ.set i (some d)) := by
  refine ⟨by rw [List.length_set, List.length_set]; exact h.len, fun j e q => ?_⟩
  by_cases hj : i = j
  · subst hj
    have hl : i < δ.length := by
      have := (List.getElem?_eq_some_iff.mp q).1
      rw [List.length_set] at this
      exact this
    rw [List.getElem?_set_self hl] at q
    cases q
    exact ⟨v, List.getElem?_set_self (by rw [← h.len]; exact hl), r⟩
  · rw [List.getElem?_set_ne hj] at q
    rw [List.getElem?_set_ne hj]
    exact h.at j e q
def wipeD (δ : En) : List Nat → En
  | [] => δ
  | v :: vs => (wipeD δ vs).set v none
theorem EnvR.wipe {K : PySem.W.Frag} {ρ : List Addr} {H : Hp} {σ : L2.St} {δ : En} (h : EnvR K ρ H σ δ) : ∀ vs : List Nat, EnvR K ρ H (L2.wipe σ vs) (wipeD δ vs)
  | [] => h
  | v :: vs => by
    have ih := EnvR.wipe h vs
    refine ⟨by show (List.set _ _ _).length = (List.set _ _ _).length; rw [List.length_set, List.length_set]; exact ih.len, fun j e q => ?_⟩
    have q' : ((wipeD δ vs).set v none)[j]? = some (some e) := q
    show ∃ w, ((L2.wipe σ vs).set v none)[j]? = some (some w) ∧ _
    by_cases hj : v = j
    · subst hj
      rw [List.getElem?_set, if_pos rfl] at q'
      split at q' <;> cases q'
    · rw [List.getElem?_set_ne hj] at q'
      rw [List.getElem?_set_ne hj]
      exact ih.at j e q'
end Dn
set_option Elab.async false
set_option linter.all false
set_option maxRecDepth 100000
set_option maxHeartbeats 1000000
/-! Dn1: what a result asks; expressions. -/
noncomputable section
namespace Dn
open PySem PySem.Spec PyProof.Rows L2

/-! ### what a result asks of what comes -/
structure Wt where
  K : PySem.W.Frag
  cl : Str → Value
  E : XK
section
variable {α β γ β' : Type}
def Post (W : Wt) (Rl : List Addr → Hp → β → α → Prop) (ρ : List Addr) (H : Hp) (r : Res α) (Q : β → Hp → Prop) : Prop := match r with
  | .ok d S' => ∀ ρ' H' v, Ext ρ H ρ' H' → Rep W.K ρ' H' S' → Rl ρ' H' v d → Q v H'
  | .exc c S' => ∀ ρ' H', Ext ρ H ρ' H' → Rep W.K ρ' H' S' → W.E (W.cl c) none H'
  | .bad => False
def rlB : List Addr → Hp → Bool → Bool → Prop := fun _ _ v d => v = d
def rlO : List Addr → Hp → Option Int → Option Int → Prop := fun _ _ v d => v = d
variable {W : Wt} {Rl : List Addr → Hp → β → α → Prop} {Rl' : List Addr → Hp → β' → γ → Prop} {ρ ρ' : List Addr} {H H' : Hp}
theorem Post.base {r : Res α} {Q : β → Hp → Prop} (e : Ext ρ H ρ' H') (h : Post W Rl ρ H r Q) : Post W Rl ρ' H' r Q := by
  cases r with
  | ok d S => exact fun ρ2 H2 v e2 R d => h ρ2 H2 v (e.trans e2) R d
  | exc c S => exact fun ρ2 H2 e2 R => h ρ2 H2 (e.trans e2) R
  | bad => exact h
theorem Post.imp {r : Res α} {Q Q' : β → Hp → Prop} (h : Post W Rl ρ H r Q) (q : ∀ v H', Q v H' → Q' v H') : Post W Rl ρ H r Q' := by
  cases r with
  | ok d S => exact fun ρ2 H2 v e2 R d => q _ _ (h ρ2 H2 v e2 R d)
  | exc c S => exact h
  | bad => exact h
/-- what stands between two steps -/
def Mid (W : Wt) (Rl : List Addr → Hp → β → α → Prop) (ρ : List Addr) (H : Hp) (v : β) (H1 : Hp) (k : List Addr → Sto → α → Prop) : Prop :=
  ∃ ρ1 S1 d, Ext ρ H ρ1 H1 ∧ Rep W.K ρ1 H1 S1 ∧ Rl ρ1 H1 v d ∧ k ρ1 S1 d
theorem Post.bnd {r : Res α} {f : α → Sto → Res γ} {Q : β' → Hp → Prop} (h : Post W Rl' ρ H (r.bnd f) Q) : Post W Rl ρ H r (fun v H1 => Mid W Rl ρ H v H1 fun ρ1 S1 d => Post W Rl' ρ1 H1 (f d S1) Q) := by
  cases r with
  | ok d S => exact fun ρ2 H2 v e2 R dv => ⟨ρ2, S, d, e2, R, dv, Post.base e2 h⟩
  | exc c S => exact h
  | bad => exact h
end
/-- the reading of a denotation -/
def tG {α β : Type} (W : Wt) (Rl : List Addr → Hp → β → α → Prop) (de : En → Sto → Res α) : L2.St → Hp → (β → Hp → Prop) → Prop :=
  fun σ H Q => ∃ ρ δ S, Rep W.K ρ H S ∧ EnvR W.K ρ H σ δ ∧ Post W Rl ρ H (de δ S) Q
abbrev tE (W : Wt) (de : DE) : TE := tG W (Dv W.K) de
abbrev tT (W : Wt) (de : DT) : TT := tG W rlB de
abbrev tAs (W : Wt) (de : DA) : TA := tG W (DvAll W.K) de
abbrev tOp' (W : Wt) (de : DO) : TO := tG W rlO de
abbrev SE (X : Cx) (W : Wt) (e : Expr) (de : DE) : Prop := PE X e (tE W de)
abbrev ST (X : Cx) (W : Wt) (e : Expr) (de : DT) : Prop := PT X e (tT W de)
abbrev SA (X : Cx) (W : Wt) (es : List Expr) (de : DA) : Prop := PA X es (tAs W de)
theorem pe_imp {X : Cx} {e : Expr} {t t' : TE} (h : PE X e t) (i : ∀ σ H Q, t' σ H Q → t σ H Q) : PE X e t' := ⟨fun pins s σ H Q I q => h.run pins s σ H Q I (i σ H Q q)⟩
theorem pt_imp {X : Cx} {e : Expr} {t t' : TT} (h : PT X e t) (i : ∀ σ H Q, t' σ H Q → t σ H Q) : PT X e t' := ⟨fun pins s σ H Q I q => h.run pins s σ H Q I (i σ H Q q)⟩
theorem pw_imp {X : Cx} {e : Expr} {t t' : TT} (h : PW X e t) (i : ∀ σ H Q, t' σ H Q → t σ H Q) : PW X e t' := ⟨fun wh pins s σ H Q I q => h.run wh pins s σ H Q I (i σ H Q q)⟩
theorem pa_imp {X : Cx} {e : List Expr} {t t' : TA} (h : PA X e t) (i : ∀ σ H Q, t' σ H Q → t σ H Q) : PA X e t' := ⟨fun pos pins s σ H Q I q => h.run pos pins s σ H Q I (i σ H Q q)⟩
theorem po_imp {X : Cx} {e : Option Expr} {t t' : TO} (h : PO X e t) (i : ∀ σ H Q, t' σ H Q → t σ H Q) : PO X e t' := ⟨fun pins s σ H Q I q => h.run pins s σ H Q I (i σ H Q q)⟩
/-- from a reading to its first part -/
theorem tG.step {α β γ β' : Type} {W : Wt} {Rl : List Addr → Hp → β → α → Prop} {Rl' : List Addr → Hp → β' → γ → Prop} {da : En → Sto → Res α} {f : En → α → Sto → Res γ} {σ : L2.St} {H : Hp} {Q : β' → Hp → Prop} {Q' : β → Hp → Prop}
    (h : tG W Rl' (fun δ S => (da δ S).bnd (f δ)) σ H Q)
    (k : ∀ ρ δ ρ1 S1 H1 v d, EnvR W.K ρ1 H1 σ δ → Ext ρ H ρ1 H1 → Rep W.K ρ1 H1 S1 → Rl ρ1 H1 v d → Post W Rl' ρ1 H1 (f δ d S1) Q → Q' v H1) : tG W Rl da σ H Q' := by
  obtain ⟨ρ, δ, S, R, N, P⟩ := h
  exact ⟨ρ, δ, S, R, N, (Post.bnd P).imp fun v H1 ⟨ρ1, S1, d, e, R1, dv, P1⟩ => k ρ δ ρ1 S1 H1 v d (N.mono e) e R1 dv P1⟩
theorem Post.now {α β : Type} {W : Wt} {Rl : List Addr → Hp → β → α → Prop} {ρ : List Addr} {H : Hp} {d : α} {S : Sto} {Q : β → Hp → Prop} (h : Post W Rl ρ H (.ok d S) Q) {v : β} (R : Rep W.K ρ H S) (r : Rl ρ H v d) : Q v H := h ρ H v (Ext.refl ρ H) R r

/-! ### denotations of names and constants -/
def dVar (i : Nat) : DE := fun δ S => match δ[i]? with
  | some (some d) => .ok d S
  | _ => .bad
def dC (d : D) : DE := fun _ S => .ok d S
section
variable {X : Cx} {W : Wt}
theorem se_var (i : Nat) {x : Str} {pos : Pos} (hN : X.N[i]? = some x := by rfl) (hv : Vis X.env.scope x := by first | exact Or.inl rfl | exact Or.inr (Or.inl rfl) | exact Or.inr (Or.inr rfl)) (hd : (x == ("__debug__" : Str)) = false := by decide)
    (hcd : (x == ("__classdict__" : Str)) = false := by decide) : SE X W (.Name x pos) (dVar i) := by
  refine pe_imp (pe_var hN hv hd hcd) fun σ H Q ⟨ρ, δ, S, R, N, P⟩ => ?_
  unfold dVar at P
  cases e : δ[i]? with
  | none => rw [e] at P; exact P.elim
  | some o =>
    cases o with
    | none => rw [e] at P; exact P.elim
    | some d =>
      rw [e] at P
      obtain ⟨v, h1, h2⟩ := N.at i d e
      exact ⟨v, h1, P.now R h2⟩
theorem se_c {e : Expr} {v : V} {d : D} (h : PE X e (tC v)) (r : ∀ ρ H, Dv W.K ρ H v d) : SE X W e (dC d) :=
  pe_imp h fun σ H Q ⟨ρ, δ, S, R, N, P⟩ => P.now R (r ρ H)
theorem se_int {i j pos} : SE X W (.Constant (.int i) j pos) (dC (.int i)) := se_c pe_int fun _ _ => .int i
theorem se_bl {b j pos} : SE X W (.Constant (.bool b) j pos) (dC (.bl b)) := se_c pe_bl fun _ _ => .bl b
theorem se_non {j pos} : SE X W (.Constant .none j pos) (dC .non) := se_c pe_non fun _ _ => .non
theorem se_str {x j pos} : SE X W (.Constant (.str x) j pos) (dC (.str x)) := se_c pe_str fun _ _ => .str x
end

/-! ### two-place operators -/
def dBin (op : D → D → Sto → Res D) (a b : DE) : DE := fun δ S => (a δ S).bnd fun x S1 => (b δ S1).bnd fun y S2 => op x y S2
def rD2 (W : Wt) (op : D → D → Sto → Res D) : R2 := fun x y H Q => ∃ ρ S d e, Rep W.K ρ H S ∧ Dv W.K ρ H x d ∧ Dv W.K ρ H y e ∧ Post W (Dv W.K) ρ H (op d e S) Q
theorem tOp_of {W : Wt} {op : D → D → Sto → Res D} {da db : DE} {σ : L2.St} {H : Hp} {Q : VK} (h : tE W (dBin op da db) σ H Q) : L2.tOp (rD2 W op) (tE W da) (tE W db) σ H Q :=
  tG.step h fun ρ δ ρ1 S1 H1 v d N e R r P => ⟨ρ1, δ, S1, R, N, (Post.bnd P).imp fun y H2 ⟨ρ2, S2, d2, e2, R2, r2, P2⟩ => ⟨ρ2, S2, d, d2, R2, r.mono e2, r2, P2⟩⟩
abbrev OpD (X : Cx) (W : Wt) (f : Value → Value → Sem Value) (op : D → D → Sto → Res D) : Prop := OpR X f (rD2 W op)
section
variable {X : Cx} {W : Wt} {a b : Expr} {da db : DE} {pos : Pos}
theorem OpR.imp {f : Value → Value → Sem Value} {r r' : R2} (h : OpR X f r) (i : ∀ x y H Q, r' x y H Q → r x y H Q) : OpR X f r' := fun pins s σ H x y v u Q I rx ry q => h pins s σ H x y v u Q I rx ry (i _ _ _ _ q)
theorem OpR.or {f : Value → Value → Sem Value} {r r' : R2} (h : OpR X f r) (h' : OpR X f r') : OpR X f (fun x y H Q => r x y H Q ∨ r' x y H Q) := fun pins s σ H x y v u Q I rx ry q => by
  rcases q with q | q
  · exact h pins s σ H x y v u Q I rx ry q
  · exact h' pins s σ H x y v u Q I rx ry q
theorem se_bin {op : Operator} {g : D → D → Sto → Res D} (ho : OpD X W (binaryOp op) g) (ha : SE X W a da) (hb : SE X W b db) : SE X W (.BinOp a op b pos) (dBin g da db) := pe_imp (pe_op ho ha hb) fun _ _ _ h => tOp_of h
theorem se_cmp {op : CmpOp} {g : D → D → Sto → Res D} (ho : OpD X W (compareOp op) g) (ha : SE X W a da) (hb : SE X W b db) (hm : behindInMarks op b = false) : SE X W (.Compare a [op] [b] pos) (dBin g da db) := pe_imp (pe_cmpR ho ha hb hm) fun _ _ _ h => tOp_of h
end

/-! ### tests -/
/-- a truth value as a test -/
def asB (r : Res D) : Res Bool := r.bnd fun d S => match d with
  | .bl b => .ok b S
  | _ => .bad
def dB (de : DE) : DT := fun δ S => asB (de δ S)
theorem tTest_of {W : Wt} {de : DE} {σ : L2.St} {H : Hp} {Q : Bool → Hp → Prop} (h : tT W (dB de) σ H Q) : tTest (tE W de) σ H Q :=
  tG.step h fun ρ δ ρ1 S1 H1 v d N e R r P => by
    cases r with
    | bl b => exact ⟨b, rfl, P.now R (show rlB ρ1 H1 b b from rfl)⟩
    | _ => exact P.elim
theorem tB_of {W : Wt} {de : DE} {σ : L2.St} {H : Hp} {Q : Bool → Hp → Prop} (h : tT W (dB de) σ H Q) : tB (tE W de) σ H Q := tTest_of h
def dAnd (a b : DT) : DT := fun δ S => (a δ S).bnd fun x S1 => if x = true then b δ S1 else .ok false S1
def dOr (a b : DT) : DT := fun δ S => (a δ S).bnd fun x S1 => if x = true then .ok true S1 else b δ S1
def dNot (a : DT) : DT := fun δ S => (a δ S).bnd fun x S1 => .ok (!x) S1
def dAndV (a b : DE) : DE := fun δ S => (asB (a δ S)).bnd fun x S1 => if x = true then b δ S1 else .ok (.bl false) S1
def dOrV (a b : DE) : DE := fun δ S => (asB (a δ S)).bnd fun x S1 => if x = true then .ok (.bl true) S1 else b δ S1
def dNotV (a : DE) : DE := fun δ S => (asB (a δ S)).bnd fun x S1 => .ok (.bl (!x)) S1
def dIf (t : DT) (a b : DE) : DE := fun δ S => (t δ S).bnd fun x S1 => if x = true then a δ S1 else b δ S1
section
variable {X : Cx} {W : Wt} {a b c : Expr} {da db : DE} {ta tb : DT} {pos : Pos} {rest : List Expr}
theorem st_cmp {op : CmpOp} {g : D → D → Sto → Res D} (ho : OpD X W (compareOp op) g) (ha : SE X W a da) (hb : SE X W b db) (hm : behindInMarks op b = false) : ST X W (.Compare a [op] [b] pos) (dB (dBin g da db)) :=
  pt_imp (pt_cmpR ho ha hb hm) fun σ H Q h => by
    have h2 := tTest_of h
    exact tOp_of h2
theorem st_val (h : SE X W a da) (he : ∀ whole, isTrue a X.env whole = (do let v ← whole; standAt a.pos; holding [v] (truthy v)) := by intro _; rfl) : ST X W a (dB da) :=
  pt_imp (pt_val h he) fun σ H Q h => tB_of h
theorem sw_and1 (ha : ST X W a ta) : PW X (.BoolOp .And [a] pos) (tT W ta) := pw_and1 ha
theorem sw_or1 (ha : ST X W a ta) : PW X (.BoolOp .Or [a] pos) (tT W ta) := pw_or1 ha
theorem sw_and (ha : ST X W a ta) (hb : PW X (.BoolOp .And (b :: rest) pos) (tT W tb)) : PW X (.BoolOp .And (a :: b :: rest) pos) (tT W (dAnd ta tb)) :=
  pw_imp (pw_and ha hb) fun σ H Q h => tG.step h fun ρ δ ρ1 S1 H1 v d N e R r P => by
    have r' : v = d := r
    subst r'
    cases v with
    | true =>
      show tT W tb σ H1 Q
      exact ⟨ρ1, δ, S1, R, N, P⟩
    | false =>
      show Q false H1
      exact Post.now (Rl := rlB) P R rfl
theorem sw_or (ha : ST X W a ta) (hb : PW X (.BoolOp .Or (b :: rest) pos) (tT W tb)) : PW X (.BoolOp .Or (a :: b :: rest) pos) (tT W (dOr ta tb)) :=
  pw_imp (pw_or ha hb) fun σ H Q h => tG.step h fun ρ δ ρ1 S1 H1 v d N e R r P => by
    have r' : v = d := r
    subst r'
    cases v with
    | false =>
      show tT W tb σ H1 Q
      exact ⟨ρ1, δ, S1, R, N, P⟩
    | true =>
      show Q true H1
      exact Post.now (Rl := rlB) P R rfl
theorem st_not (ha : ST X W a ta) : ST X W (.UnaryOp .Not a pos) (dNot ta) :=
  pt_imp (pt_not ha) fun σ H Q h => tG.step h fun ρ δ ρ1 S1 H1 v d N e R r P => by
    have r' : v = d := r
    subst r'
    exact Post.now (Rl := rlB) P R rfl
theorem bool_step {ρ : List Addr} {H : Hp} {W : Wt} {v : V} {d : D} {S : Sto} {γ β : Type} {Rl : List Addr → Hp → β → γ → Prop} {f : Bool → Sto → Res γ} {Q : β → Hp → Prop} (r : Dv W.K ρ H v d)
    (P : Post W Rl ρ H ((match d with | .bl b => (.ok b S : Res Bool) | _ => .bad).bnd f) Q) : ∃ b, v = .bl b ∧ d = .bl b ∧ Post W Rl ρ H (f b S) Q := by
  cases r with
  | bl b => exact ⟨b, rfl, rfl, P⟩
  | _ => exact P.elim
theorem asB_bnd {γ : Type} (r : Res D) (f : Bool → Sto → Res γ) : (asB r).bnd f = r.bnd fun d S => (match d with | .bl b => (.ok b S : Res Bool) | _ => .bad).bnd f := by
  cases r <;> rfl
theorem se_and (ha : SE X W a da) (hb : SE X W (.BoolOp .And (b :: rest) pos) db) : SE X W (.BoolOp .And (a :: b :: rest) pos) (dAndV da db) :=
  pe_imp (pe_and ha hb) fun σ H Q h => by
    have h' : tG W (Dv W.K) (fun δ S => (da δ S).bnd fun d S => (match d with | .bl b => (.ok b S : Res Bool) | _ => .bad).bnd fun x S1 => if x = true then db δ S1 else .ok (.bl false) S1) σ H Q := by
      obtain ⟨ρ, δ, S, R, N, P⟩ := h
      refine ⟨ρ, δ, S, R, N, ?_⟩
      unfold dAndV at P
      rw [asB_bnd] at P
      exact P
    refine tG.step h' fun ρ δ ρ1 S1 H1 v d N e R r P => ?_
    obtain ⟨k, rfl, rfl, P⟩ := bool_step r P
    refine ⟨k, rfl, ?_⟩
    cases k with
    | true =>
      show tE W db σ H1 Q
      exact ⟨ρ1, δ, S1, R, N, P⟩
    | false =>
      show Q (.bl false) H1
      exact P.now R (.bl false)
theorem se_or (ha : SE X W a da) (hb : SE X W (.BoolOp .Or (b :: rest) pos) db) : SE X W (.BoolOp .Or (a :: b :: rest) pos) (dOrV da db) :=
  pe_imp (pe_or ha hb) fun σ H Q h => by
    have h' : tG W (Dv W.K) (fun δ S => (da δ S).bnd fun d S => (match d with | .bl b => (.ok b S : Res Bool) | _ => .bad).bnd fun x S1 => if x = true then .ok (.bl true) S1 else db δ S1) σ H Q := by
      obtain ⟨ρ, δ, S, R, N, P⟩ := h
      refine ⟨ρ, δ, S, R, N, ?_⟩
      unfold dOrV at P
      rw [asB_bnd] at P
      exact P
    refine tG.step h' fun ρ δ ρ1 S1 H1 v d N e R r P => ?_
    obtain ⟨k, rfl, rfl, P⟩ := bool_step r P
    refine ⟨k, rfl, ?_⟩
    cases k with
    | false =>
      show tE W db σ H1 Q
      exact ⟨ρ1, δ, S1, R, N, P⟩
    | true =>
      show Q (.bl true) H1
      exact P.now R (.bl true)
theorem se_one {op : BoolOp} (h : SE X W a da) : SE X W (.BoolOp op [a] pos) da := pe_one h
theorem se_not (ha : SE X W a da) : SE X W (.UnaryOp .Not a pos) (dNotV da) :=
  pe_imp (pe_not ha) fun σ H Q h => by
    have h' : tG W (Dv W.K) (fun δ S => (da δ S).bnd fun d S => (match d with | .bl b => (.ok b S : Res Bool) | _ => .bad).bnd fun x S1 => .ok (.bl (!x)) S1) σ H Q := by
      obtain ⟨ρ, δ, S, R, N, P⟩ := h
      refine ⟨ρ, δ, S, R, N, ?_⟩
      unfold dNotV at P
      rw [asB_bnd] at P
      exact P
    refine tG.step h' fun ρ δ ρ1 S1 H1 v d N e R r P => ?_
    obtain ⟨k, rfl, rfl, P⟩ := bool_step r P
    exact ⟨k, rfl, P.now R (.bl (!k))⟩
theorem se_if (hc : ST X W c ta) (ha : SE X W a da) (hb : SE X W b db) : SE X W (.IfExp c a b pos) (dIf ta da db) :=
  pe_imp (pe_ifExp hc ha hb) fun σ H Q h => tG.step h fun ρ δ ρ1 S1 H1 v d N e R r P => by
    have r' : v = d := r
    subst r'
    cases v with
    | true =>
      show tE W da σ H1 Q
      exact ⟨ρ1, δ, S1, R, N, P⟩
    | false =>
      show tE W db σ H1 Q
      exact ⟨ρ1, δ, S1, R, N, P⟩
end

/-! ### chains: a op b op' c -/
def dChain (op op' : D → D → Sto → Res D) (a b c : DE) : DE := fun δ S => (a δ S).bnd fun x S1 => (b δ S1).bnd fun y S2 => (asB (op x y S2)).bnd fun k S3 => if k = true then (c δ S3).bnd fun z S4 => op' y z S4 else .ok (.bl false) S3
theorem tChain_of {W : Wt} {op op' : D → D → Sto → Res D} {da db dc : DE} {σ : L2.St} {H : Hp} {Q : VK} (h : tE W (dChain op op' da db dc) σ H Q) : tChain (rD2 W op) (rD2 W op') (tE W da) (tE W db) (tE W dc) σ H Q :=
  tG.step h fun ρ δ ρ1 S1 H1 v d N e R r P => ⟨ρ1, δ, S1, R, N, (Post.bnd P).imp fun y H2 ⟨ρ2, S2, d2, e2, R2, r2, P2⟩ => ⟨ρ2, S2, d, d2, R2, r.mono e2, r2, by
    dsimp only at P2
    rw [asB_bnd] at P2
    refine (Post.bnd P2).imp fun z H3 ⟨ρ3, S3, d3, e3, R3, r3, P3⟩ => ?_
    obtain ⟨k, rfl, rfl, P3⟩ := bool_step r3 P3
    refine ⟨k, rfl, ?_⟩
    cases k with
    | true =>
      have P4 : Post W (Dv W.K) ρ3 H3 ((dc δ S3).bnd fun z S4 => op' d2 z S4) Q := P3
      refine ⟨ρ3, δ, S3, R3, (N.mono e2).mono e3, (Post.bnd P4).imp fun w H4 ⟨ρ4, S4, d4, e4, R4, r4, P4⟩ => ⟨ρ4, S4, d2, d4, R4, (r2.mono e3).mono e4, r4, P4⟩⟩
    | false =>
      show Q (.bl false) H3
      exact P3.now R3 (.bl false)⟩⟩
section
variable {X : Cx} {W : Wt} {a b c : Expr} {da db dc : DE} {pos : Pos}
theorem se_chain {op op' : CmpOp} {g g' : D → D → Sto → Res D} (ho : OpD X W (compareOp op) g) (ho' : OpD X W (compareOp op') g') (ha : SE X W a da) (hb : SE X W b db) (hc : SE X W c dc)
    (hm : lastMarks [op, op'] [b, c] = false := by with_unfolding_all rfl) : SE X W (.Compare a [op, op'] [b, c] pos) (dChain g g' da db dc) := pe_imp (pe_chain ho ho' ha hb hc hm) fun _ _ _ h => tChain_of h
theorem st_chain {op op' : CmpOp} {g g' : D → D → Sto → Res D} (ho : OpD X W (compareOp op) g) (ho' : OpD X W (compareOp op') g') (ha : SE X W a da) (hb : SE X W b db) (hc : SE X W c dc)
    (hm : lastMarks [op, op'] [b, c] = false := by with_unfolding_all rfl) : ST X W (.Compare a [op, op'] [b, c] pos) (dB (dChain g g' da db dc)) := pt_imp (pt_chain ho ho' ha hb hc hm) fun _ _ _ h => by
    have h2 := tTest_of h
    exact tChain_of h2
end

/-! ### argument lists, displays -/
def dNil : DA := fun _ S => .ok [] S
def dCons (a : DE) (r : DA) : DA := fun δ S => (a δ S).bnd fun x S1 => (r δ S1).bnd fun xs S2 => .ok (x :: xs) S2
def lim : Nat := (Classical.choice (⟨⟨100000, rfl⟩⟩ : Nonempty { n : Nat // n = 100000 })).1
theorem lim_eq : lim = 100000 := (Classical.choice (⟨⟨100000, rfl⟩⟩ : Nonempty { n : Nat // n = 100000 })).2
def M64 : Int := (Classical.choice (⟨⟨2 ^ 64, rfl⟩⟩ : Nonempty { n : Int // n = 2 ^ 64 })).1
theorem M64_eq : M64 = 2 ^ 64 := (Classical.choice (⟨⟨2 ^ 64, rfl⟩⟩ : Nonempty { n : Int // n = 2 ^ 64 })).2
def M62 : Int := (Classical.choice (⟨⟨2 ^ 62, rfl⟩⟩ : Nonempty { n : Int // n = 2 ^ 62 })).1
theorem M62_eq : M62 = 2 ^ 62 := (Classical.choice (⟨⟨2 ^ 62, rfl⟩⟩ : Nonempty { n : Int // n = 2 ^ 62 })).2
def N30 : Nat := (Classical.choice (⟨⟨1073741824, rfl⟩⟩ : Nonempty { n : Nat // n = 1073741824 })).1
theorem N30_eq : N30 = 1073741824 := (Classical.choice (⟨⟨1073741824, rfl⟩⟩ : Nonempty { n : Nat // n = 1073741824 })).2
def N64 : Nat := (Classical.choice (⟨⟨2 ^ 64, rfl⟩⟩ : Nonempty { n : Nat // n = 2 ^ 64 })).1
theorem N64_eq : N64 = 2 ^ 64 := (Classical.choice (⟨⟨2 ^ 64, rfl⟩⟩ : Nonempty { n : Nat // n = 2 ^ 64 })).2
def M6 : Int := (Classical.choice (⟨⟨1000000, rfl⟩⟩ : Nonempty { n : Int // n = 1000000 })).1
theorem M6_eq : M6 = 1000000 := (Classical.choice (⟨⟨1000000, rfl⟩⟩ : Nonempty { n : Int // n = 1000000 })).2
theorem le_lim {n : Nat} (h : n ≤ lim) : n ≤ sizeLine := Nat.le_trans h (by rw [lim_eq]; decide)
theorem lt_lim {n : Nat} (h : n < lim) : n < sizeLine := Nat.lt_of_lt_of_le h (by rw [lim_eq]; decide)
def mkTup (xs : List D) (S : Sto) : Res D := if xs.length ≤ lim then .ok (.tup xs) S else .bad
def mkLst (xs : List D) (S : Sto) : Res D := if xs.length ≤ lim then .ok (.cell S.length) (S ++ [.lst xs]) else .bad
def dTup (as : DA) : DE := fun δ S => (as δ S).bnd mkTup
def dLst (as : DA) : DE := fun δ S => (as δ S).bnd mkLst
theorem Post.tup {W : Wt} {ρ : List Addr} {H : Hp} {vs : List V} {ds : List D} {S : Sto} {Q : VK} (P : Post W (Dv W.K) ρ H (mkTup ds S) Q) (R : Rep W.K ρ H S) (r : DvAll W.K ρ H vs ds) :
    vs.length ≤ sizeLine ∧ ∀ p, H p = none → Q (.ref p) (upd H p (.tup vs)) := by
  unfold mkTup at P
  split at P
  · rename_i hl
    refine ⟨by rw [r.length]; exact le_lim hl, fun p hp => ?_⟩
    exact P ρ _ _ (Ext.new hp) (R.new hp) (.tup (.inl (.inl upd_same)) (r.mono (Ext.new hp)))
  · exact P.elim
theorem Post.lst {W : Wt} {ρ : List Addr} {H : Hp} {vs : List V} {ds : List D} {S : Sto} {Q : VK} (P : Post W (Dv W.K) ρ H (mkLst ds S) Q) (R : Rep W.K ρ H S) (r : DvAll W.K ρ H vs ds) :
    vs.length ≤ sizeLine ∧ ∀ p, H p = none → Q (.ref p) (upd H p (.lst vs)) := by
  unfold mkLst at P
  split at P
  · rename_i hl
    refine ⟨by rw [r.length]; exact le_lim hl, fun p hp => ?_⟩
    refine P (ρ ++ [p]) _ _ (Ext.newC hp) (R.newC hp ⟨vs, upd_same, r.mono (Ext.newC hp)⟩) (.cell ?_)
    rw [← R.len, List.getElem?_append_right (Nat.le_refl _), Nat.sub_self]
    rfl
  · exact P.elim
section
variable {X : Cx} {W : Wt} {e : Expr} {es : List Expr} {de : DE} {da : DA} {pos : Pos}
theorem sa_nil : SA X W [] dNil := pa_imp pa_nil fun σ H Q ⟨ρ, δ, S, R, N, P⟩ => Post.now (Rl := DvAll W.K) P R .nil
theorem sa_cons (ha : SE X W e de) (hr : SA X W es da) (hs : starEach (e :: es) X.env = (false, eval e X.env) :: starEach es X.env := by rfl) : SA X W (e :: es) (dCons de da) :=
  pa_imp (pa_cons ha hr hs) fun σ H Q h => tG.step h fun ρ δ ρ1 S1 H1 v d N e R r P => ⟨ρ1, δ, S1, R, N, (Post.bnd P).imp fun vs H2 ⟨ρ2, S2, d2, e2, R2, r2, P2⟩ => Post.now (Rl := DvAll W.K) P2 R2 (.cons (r.mono e2) r2)⟩
theorem se_tup {x1} (h : SA X W es da) : SE X W (.Tuple es x1 pos) (dTup da) :=
  pe_imp (pe_tup h) fun σ H Q h => tG.step h fun ρ δ ρ1 S1 H1 v d N e R r P => P.tup R r
theorem se_lst (h : SA X W es da) : SE X W (.List es pos) (dLst da) :=
  pe_imp (pe_lst h) fun σ H Q h => tG.step h fun ρ δ ρ1 S1 H1 v d N e R r P => P.lst R r
end
end Dn
set_option Elab.async false
set_option linter.all false
set_option maxRecDepth 100000
set_option maxHeartbeats 1000000
/-! DnK: dicts whose keys are tuples. -/
noncomputable section
namespace Dn
open PySem PySem.Spec PyProof.Rows L2

/-! ### keys in the abstract heap -/
mutual
inductive NK (K : PySem.W.Frag) (H : Hp) : V → NestedKey → Prop
  | non : NK K H .non .none
  | bl (b : Bool) : NK K H (.bl b) (.num (if b = true then 1 else 0))
  | int (i : Int) : NK K H (.int i) (.num i)
  | str (x : Str) : NK K H (.str x) (.text x)
  | tup {a : Addr} {xs : List V} {ks : List NestedKey} : SqT K H a xs → NKs K H xs ks → NK K H (.ref a) (.tup ks)
inductive NKs (K : PySem.W.Frag) (H : Hp) : List V → List NestedKey → Prop
  | nil : NKs K H [] []
  | cons {v : V} {k : NestedKey} {vs : List V} {ks : List NestedKey} : NK K H v k → NKs K H vs ks → NKs K H (v :: vs) (k :: ks)
end
mutual
theorem Dv.nk {K : PySem.W.Frag} {ρ : List Addr} {H : Hp} : ∀ {d : D} {v : V} {k : NestedKey}, Dv K ρ H v d → keyD d = some k → NK K H v k
  | .non, _, _, h, e => by cases h; simp [keyD] at e; subst e; exact .non
  | .bl b, _, _, h, e => by cases h; simp only [keyD, Option.some.injEq] at e; subst e; exact .bl b
  | .int i, _, _, h, e => by cases h; simp [keyD] at e; subst e; exact .int i
  | .str i, _, _, h, e => by cases h; simp [keyD] at e; subst e; exact .str i
  | .cell i, _, _, h, e => by simp [keyD] at e
  | .ro i, _, _, h, e => by simp [keyD] at e
  | .rng i j, _, _, h, e => by simp [keyD] at e
  | .tup ds, _, _, h, e => by
    cases h with
    | tup q r =>
      simp only [keyD, Option.map_eq_some_iff] at e
      obtain ⟨ks, e1, e2⟩ := e
      subst e2
      exact .tup q (DvAll.nk r e1)
theorem DvAll.nk {K : PySem.W.Frag} {ρ : List Addr} {H : Hp} : ∀ {ds : List D} {vs : List V} {ks : List NestedKey}, DvAll K ρ H vs ds → keyDs ds = some ks → NKs K H vs ks
  | [], _, _, h, e => by cases h; simp [keyDs] at e; subst e; exact .nil
  | d :: ds, _, _, h, e => by
    cases h with
    | cons a b =>
      unfold keyDs at e
      split at e
      · rename_i k ks h1 h2
        cases e
        exact .cons (Dv.nk a h1) (DvAll.nk b h2)
      · cases e
end
section
variable {X : Cx} {pins : List (Addr × Obj)} {σ : L2.St} {H : Hp} {s : Shared}
mutual
theorem NK.is (I : Inv X pins σ H s) : ∀ {k : NestedKey} {v : V} {u : Value}, NK X.K H v k → RelV v u → NestedIs s.heap k u
  | .none, _, u, h, r => by cases h; cases r; exact .none
  | .num i, _, u, h, r => by
    cases h with
    | bl b => cases r; exact .bool rfl
    | int => obtain ⟨t, rfl⟩ := r; exact .int i t
  | .text x, _, u, h, r => by cases h; obtain ⟨t, rfl⟩ := r; exact .text x t
  | .tup ks, _, u, h, r => by
    cases h with
    | tup q t =>
      cases r
      obtain ⟨its, rv, ⟨o, ho, hc, n, hd⟩, _⟩ := I.tuple q
      exact .tup ho hc hd (NKs.is I t rv)
theorem NKs.is (I : Inv X pins σ H s) : ∀ {ks : List NestedKey} {vs : List V} {us : List Value}, NKs X.K H vs ks → Vals vs us → NestedAll s.heap ks us
  | [], _, _, h, r => by cases h; cases r; exact .nil
  | k :: ks, _, _, h, r => by
    cases h with
    | cons a b => cases r with | cons c d => exact .cons (NK.is I a c) (NKs.is I b d)
end
end
def KOk (K : PySem.W.Frag) (H : Hp) (p : NestedKey × Addr × V) : Prop := NK K H (.ref p.2.1) p.1 ∧ txl p.1 = true ∧ p.1.depth ≤ 8
def PrK (p : NestedKey × Addr × V) (q : NestedKey × Addr × Value) : Prop := p.1 = q.1 ∧ p.2.1 = q.2.1 ∧ RelV p.2.2 q.2.2
def atX (xs : List (NestedKey × Addr × V)) (k : NestedKey) : Option (Addr × V) := (xs.find? fun x => decide (x.1 = k)).map (·.2)
def putX (k : NestedKey) (v : V) (x : NestedKey × Addr × V) : NestedKey × Addr × V := if x.1 = k then (x.1, x.2.1, v) else x
def storedX (xs : List (NestedKey × Addr × V)) (k : NestedKey) (a : Addr) (v : V) : List (NestedKey × Addr × V) := if (atX xs k).isSome = true then xs.map (putX k v) else xs ++ [(k, a, v)]
theorem PrK.at {k : NestedKey} : ∀ {xs : List (NestedKey × Addr × V)} {ys : List (NestedKey × Addr × Value)}, Paired PrK xs ys → (atKey ys k).isSome = (atX xs k).isSome ∧ ∀ a v, atX xs k = some (a, v) → ∃ u, atKey ys k = some (a, u) ∧ RelV v u
  | _, _, .nil => ⟨rfl, fun a v e => by cases e⟩
  | (k1, a1, v1) :: xs, (k2, a2, v2) :: ys, .cons r t => by
    obtain ⟨e1, e2, r3⟩ := r
    simp only at e1 e2 r3
    subst e1 e2
    have ih := PrK.at (k := k) t
    unfold atKey atX at *
    by_cases h : k1 = k
    · simp only [List.find?_cons, h, decide_true]
      exact ⟨rfl, fun a v e => by cases e; exact ⟨v2, rfl, r3⟩⟩
    · simp only [List.find?_cons, h, decide_false]
      exact ih
theorem PrK.puts {k : NestedKey} {v : V} {u : Value} (r : RelV v u) : ∀ {xs : List (NestedKey × Addr × V)} {ys : List (NestedKey × Addr × Value)}, Paired PrK xs ys → Paired PrK (xs.map (putX k v)) (ys.map (PySem.putAt k u))
  | _, _, .nil => .nil
  | p :: _, q :: _, .cons a b => by
    refine .cons ?_ (PrK.puts r b)
    unfold putX PySem.putAt
    rw [a.1]
    split
    · exact ⟨rfl, a.2.1, r⟩
    · exact a
theorem PrK.snoc {p : NestedKey × Addr × V} {q : NestedKey × Addr × Value} (r : PrK p q) : ∀ {xs : List (NestedKey × Addr × V)} {ys : List (NestedKey × Addr × Value)}, Paired PrK xs ys → Paired PrK (xs ++ [p]) (ys ++ [q])
  | _, _, .nil => .cons r .nil
  | _, _, .cons a b => .cons a (PrK.snoc r b)
theorem PrK.stored {k : NestedKey} {a : Addr} {v : V} {u : Value} (r : RelV v u) {xs : List (NestedKey × Addr × V)} {ys : List (NestedKey × Addr × Value)} (h : Paired PrK xs ys) : Paired PrK (storedX xs k a v) (storedH ys k a u) := by
  unfold storedX storedH
  rw [(PrK.at (k := k) h).1]
  split
  · exact PrK.puts r h
  · exact PrK.snoc ⟨rfl, rfl, r⟩ h
theorem ent_eq (P : Program) (w : World) {ys : List (NestedKey × Addr × Value)} (h : ∀ y ∈ ys, txl y.1 = true) : ys.map ent0 = ys.map (entryOfKey (nestedKind P w)) := by
  refine List.map_congr_left fun y hy => ?_
  unfold ent0 entryOfKey
  rw [show (nestedKind P w).hash y.1 = y.1.hash w from rfl, hash0_eq w (h y hy)]
theorem PrK.all {p : NestedKey × Addr → Prop} : ∀ {xs : List (NestedKey × Addr × V)} {ys : List (NestedKey × Addr × Value)}, Paired PrK xs ys → (∀ x ∈ xs, p (x.1, x.2.1)) → ∀ y ∈ ys, p (y.1, y.2.1)
  | _, _, .nil, _ => by simp
  | _, _, .cons r t, h => fun y hy => by
    rcases List.mem_cons.mp hy with rfl | hy
    · rw [← r.1, ← r.2.1]
      exact h _ (.head _)
    · exact PrK.all t (fun x hx => h x (.tail _ hx)) y hy
theorem PrK.keys : ∀ {xs : List (NestedKey × Addr × V)} {ys : List (NestedKey × Addr × Value)}, Paired PrK xs ys → xs.map (·.1) = ys.map (·.1)
  | _, _, .nil => rfl
  | _, _, .cons r t => by rw [List.map_cons, List.map_cons, r.1, PrK.keys t]
theorem PrK.len : ∀ {xs : List (NestedKey × Addr × V)} {ys : List (NestedKey × Addr × Value)}, Paired PrK xs ys → xs.length = ys.length
  | _, _, .nil => rfl
  | _, _, .cons r t => by rw [List.length_cons, List.length_cons, PrK.len t]
section
variable {X : Cx} {pins : List (Addr × Obj)} {σ : L2.St} {H : Hp} {s : Shared} {a : Addr} {xs : List (NestedKey × Addr × V)}
theorem dk_read (I : Inv X pins σ H s) (ha : H a = some (DkO a xs)) (hk : ∀ p ∈ xs, KOk X.K H p) : (a == sysModules) = false ∧ ∃ ys, Paired PrK xs ys ∧ s.heap.DictOfH (nestedKind X.prog X.w) a ys := by
  obtain ⟨⟨h1, ys, o, es, ep, pr, ho, hx, hd, he, hn⟩, _⟩ := I.hok a _ ha
  refine ⟨h1, ys, pr, o, es, ep, ho, hx, hd, ?_, ?_, hn⟩
  · rw [he]
    exact ent_eq _ _ (PrK.all (p := fun z => txl z.1 = true) pr fun x hx => (hk x hx).2.1)
  · exact PrK.all (p := fun z => (nestedKind X.prog X.w).is s.heap z.1 z.2) pr fun x hx => ⟨NK.is I (hk x hx).1 (u := .ref x.2.1) rfl, (hk x hx).2.2⟩
theorem dkO_ok {P : Program} {w : World} {H' : Hp} {h' : Heap} {ys : List (NestedKey × Addr × Value)} (h1 : (a == sysModules) = false) (pr : Paired PrK xs ys) (hk : ∀ x ∈ xs, txl x.1 = true) (hm : h'.DictOfH (nestedKind P w) a ys) : ObjOk P w H' h' a (DkO a xs) := by
  obtain ⟨o, es, ep, ho, hx, hd, he, _, hn⟩ := hm
  refine ⟨⟨h1, ys, o, es, ep, pr, ho, hx, hd, ?_, hn⟩, ⟨o, ho⟩, fun g1 g2 ⟨q1, ys, o, es, ep, q2, q3, q4⟩ st => ⟨q1, ys, o, es, ep, q2, st _ q3, q4⟩⟩
  rw [he]
  exact (ent_eq _ _ (PrK.all (p := fun z => txl z.1 = true) pr hk)).symm
end
/-! ### in, not in -/
def rInK (K : PySem.W.Frag) (neg : Bool) : R2 := fun x y H Q => ∃ a b xs k, x = V.ref b ∧ y = V.ref a ∧ H a = some (DkO a xs) ∧ (∀ p ∈ xs, KOk K H p) ∧ NK K H (.ref b) k ∧ k.depth ≤ 8 ∧ Q (.bl (if neg = true then !(atX xs k).isSome else (atX xs k).isSome)) H
section
variable {X : Cx}
theorem unitsIn {A : Around} (hu : A.units + 64 < cLine) : (nestedKind X.prog X.w).room A.in1 := by
  show A.units + 1 + 8 < cLine
  omega
theorem op_inK (hu : X.A.units + 64 < cLine) : OpR X (compareOp .In) (rInK X.K false) := by
  intro pins s σ H x y v u Q I rx ry h
  obtain ⟨a, b, xs, k, rfl, rfl, ha, hk, nk, hd, q⟩ := h
  cases rx
  cases ry
  obtain ⟨h1, ys, pr, hm⟩ := dk_read I ha hk
  refine in_keyed (knd := nestedKind X.prog X.w) (unitsIn hu) ⟨NK.is I nk rfl, hd⟩ h1 ⟨ys, hm, rfl⟩ ?_
  rw [valueAt_pairsH, Option.isSome_map, (PrK.at pr).1]
  exact ⟨.bl _, H, I.tok _, rfl, q⟩
theorem op_notInK (hu : X.A.units + 64 < cLine) : OpR X (compareOp .NotIn) (rInK X.K true) := by
  intro pins s σ H x y v u Q I rx ry h
  obtain ⟨a, b, xs, k, rfl, rfl, ha, hk, nk, hd, q⟩ := h
  cases rx
  cases ry
  obtain ⟨h1, ys, pr, hm⟩ := dk_read I ha hk
  refine notIn_keyed (knd := nestedKind X.prog X.w) (unitsIn hu) ⟨NK.is I nk rfl, hd⟩ h1 ⟨ys, hm, rfl⟩ ?_
  rw [valueAt_pairsH, Option.isSome_map, (PrK.at pr).1]
  exact ⟨.bl _, H, I.tok _, rfl, q⟩
/-! ### d[k] = v -/
def rSetK (K : PySem.W.Frag) : TSet := fun o i v H Q => ∃ a b xs k, o = V.ref a ∧ i = V.ref b ∧ H a = some (DkO a xs) ∧ (∀ p ∈ xs, KOk K H p) ∧ NK K H (.ref b) k ∧ txl k = true ∧ k.depth ≤ 8 ∧ xs.length ≤ sizeLine ∧ Q (upd H a (DkO a (storedX xs k b v)))
theorem stored_txl {xs : List (NestedKey × Addr × V)} {k : NestedKey} {b : Addr} {v : V} (h : ∀ x ∈ xs, txl x.1 = true) (hk : txl k = true) : ∀ x ∈ storedX xs k b v, txl x.1 = true := by
  intro x hx
  unfold storedX at hx
  split at hx
  · obtain ⟨y, hy, rfl⟩ := List.mem_map.mp hx
    unfold putX
    split
    · exact h y hy
    · exact h y hy
  · rcases List.mem_append.mp hx with hx | hx
    · exact h x hx
    · rw [List.mem_singleton.mp hx]
      exact hk
theorem set_dik (hu : X.A.units + 64 < cLine) : PSet X (rSetK X.K) := by
  intro pins s σ H o i v ov iv u Q I ro ri rv h
  obtain ⟨a, b, xs, k, rfl, rfl, ha, hk, nk, tk, hd, hl, q⟩ := h
  cases ro
  cases ri
  obtain ⟨h1, ys, pr, hm⟩ := dk_read I ha hk
  refine wpAny_setItem_heap (knd := nestedKind X.prog X.w) (hsz := by rw [← PrK.len pr]; exact hl) (unitsIn hu) ⟨NK.is I nk rfl, hd⟩ hm fun h' hm' hs => ?_
  refine ⟨_, d_write (a := a) I (by rw [ha]; exact True.intro) hs (let ⟨o, _, _, ho, _⟩ := hm'; ⟨o, ho⟩) (dkO_ok h1 (PrK.stored rv pr) (stored_txl (fun x hx => (hk x hx).2.1) tk) hm'), q⟩
/-! ### {}, {k: v} -/
def tDik0 : TE := fun _ H Q => ∀ p, H p = none → Q (.ref p) (upd H p (DkO p []))
theorem sys_ne (I : Inv X pins σ H s) : (s.heap.objs.size == sysModules) = false := beq_eq_false_iff_ne.mpr (Ne.symm (Nat.ne_of_lt I.big))
theorem dk_new0 {P : Program} {w : World} {H : Hp} (h : Heap) (hb : (h.objs.size == sysModules) = false) : ObjOk P w H (h.push { cls := .type "dict", data := .dict #[] }) h.objs.size (DkO h.objs.size []) :=
  dkO_ok (ys := []) hb .nil (by simp) (Heap.DictOfH.new h)
theorem pe_dik0 {pos : Pos} : PE X (.Dict [] [] pos) tDik0 := ⟨fun pins s σ H Q I h =>
  wpAny_Dict_empty ⟨.ref s.heap.objs.size, _, I.laid (a := s.heap.objs.size) (o := DkO s.heap.objs.size []) (t' := s.toks) (fun _ _ q => Heap.get?_push_of_some _ q) (Nat.le_refl _) (dk_new0 s.heap (sys_ne I)), rfl, h _ (I.hok.fresh (Nat.le_refl _))⟩⟩
/-- {k: v}, one pair; the new dict stands empty while the pair is made -/
def tDik1 (tk tv : TE) : TE := fun σ H Q => ∀ p, H p = none → tk σ (upd H p (DkO p [])) fun x H1 => tv σ H1 fun y H2 => H2 p = some (DkO p []) ∧ ∃ b k, x = V.ref b ∧ NK X.K H2 (.ref b) k ∧ txl k = true ∧ k.depth ≤ 8 ∧ Q (.ref p) (upd H2 p (DkO p [(k, b, y)]))
theorem pe_dik1 (hu : X.A.units + 64 < cLine) {pos : Pos} {ke ve : Expr} {tk tv : TE} (h1 : PE X ke tk) (h2 : PE X ve tv) : PE X (.Dict [some ke] [ve] pos) (tDik1 (X := X) tk tv) := by
  refine ⟨fun pins s σ H Q I q => ?_⟩
  have hn := I.hok.fresh (Nat.le_refl s.heap.objs.size)
  have I1 := I.laid (a := s.heap.objs.size) (o := DkO s.heap.objs.size []) (h' := s.heap.push { cls := .type "dict", data := .dict #[] }) (t' := s.toks) (fun _ _ q => Heap.get?_push_of_some _ q) (Nat.le_refl _) (dk_new0 s.heap (sys_ne I))
  rw [arm_eval_Dict, zip_pairTrees [some ke] [ve] X.env pos rfl rfl, dictDisplay_pairs (pairTrees [some ke] [ve] X.env pos) (fun z => by cases z) (by show 1 < 17; decide)]
  refine wpAny_bind (wpAny_standAt (wpAny_bind (wpAny_subDictH (knd := nestedKind X.prog X.w) (by show X.A.units + 8 < cLine; omega) (by show 1 ≤ 15; decide) ?_)))
  refine pairTrees_cons_walk (thn (h1.run pins _ σ _ _ I1 (q _ hn)) fun kv s2 ⟨x, H2, I2, rx, q2⟩ => thn (h2.run pins s2 σ H2 _ I2 q2) fun vv s3 ⟨y, H3, I3, ry, q3⟩ => pairTrees_nil_walk ?_)
  obtain ⟨e, b, k, rfl, nk, tx, dp, q4⟩ := q3
  cases rx
  obtain ⟨z1, ys, pr, hm⟩ := dk_read (xs := []) I3 e (by simp)
  cases pr
  refine ⟨[(k, b, vv)], ⟨rfl, rfl, ⟨NK.is I3 nk rfl, dp⟩, True.intro⟩, hm, fun h' tk' hm' hs => wpAny_pure ?_⟩
  have hm2 : h'.DictOfH (nestedKind X.prog X.w) s.heap.objs.size [(k, b, vv)] := hm'
  exact ⟨.ref s.heap.objs.size, _, d_write (a := s.heap.objs.size) I3 (by rw [e]; exact True.intro) hs (let ⟨o, _, _, ho, _⟩ := hm2; ⟨o, ho⟩) (dkO_ok z1 (.cons ⟨rfl, rfl, ry⟩ .nil) (by simpa using tx) hm2), rfl, q4⟩
end
end Dn
set_option Elab.async false
set_option linter.all false
set_option maxRecDepth 100000
set_option maxHeartbeats 1000000
/-! Dn2: operators by values. -/
noncomputable section
namespace Dn
open PySem PySem.Spec PyProof.Rows L2

/-! ### reading values -/
section
variable {K : PySem.W.Frag} {ρ : List Addr} {H : Hp} {v : V} {S : Sto}
theorem Dv.intI {i : Int} (h : Dv K ρ H v (.int i)) : v = .int i := by cases h; rfl
theorem Dv.blI {b : Bool} (h : Dv K ρ H v (.bl b)) : v = .bl b := by cases h; rfl
theorem Dv.strI {x : Str} (h : Dv K ρ H v (.str x)) : v = .str x := by cases h; rfl
theorem Dv.nonI (h : Dv K ρ H v .non) : v = .non := by cases h; rfl
theorem Dv.tupI {ds : List D} (h : Dv K ρ H v (.tup ds)) : ∃ a xs, v = .ref a ∧ SqT K H a xs ∧ DvAll K ρ H xs ds := by
  cases h with
  | tup a b => exact ⟨_, _, rfl, a, b⟩
theorem Dv.cellI {n : Nat} (h : Dv K ρ H v (.cell n)) : ∃ a, v = .ref a ∧ ρ[n]? = some a := by
  cases h with
  | cell a => exact ⟨_, rfl, a⟩
/-- the items of a tuple, a list -/
def items (S : Sto) : D → Option (List D)
  | .tup xs => some xs
  | .ro xs => some xs
  | .cell n => match S[n]? with
    | some (.lst xs) => some xs
    | _ => none
  | _ => none
theorem items_cell {n : Nat} {ds : List D} (h : items S (.cell n) = some ds) : S[n]? = some (.lst ds) := by
  unfold items at h
  cases e : S[n]? with
  | none => simp [e] at h
  | some c =>
    cases c with
    | lst xs => simp [e] at h; rw [h]
    | dic k => simp [e] at h
    | dik k => simp [e] at h
theorem Dv.seqI (R : Rep K ρ H S) {d : D} {ds : List D} (h : Dv K ρ H v d) (hi : items S d = some ds) : ∃ a xs, v = .ref a ∧ (SqL K H a xs ∨ SqT K H a xs) ∧ DvAll K ρ H xs ds := by
  cases h with
  | tup a b => cases hi; exact ⟨_, _, rfl, .inr a, b⟩
  | ro a f b => cases hi; exact ⟨_, _, rfl, .inl a, b⟩
  | cell q =>
    obtain ⟨xs, h1, h2⟩ := R.lst q (items_cell hi)
    exact ⟨_, xs, rfl, .inl (SqL.of h1), h2⟩
  | _ => cases hi
end

/-! ### arithmetic, + and * of sequences -/
def opAdd (x y : D) (S : Sto) : Res D := match x, y with
  | .int i, .int j => .ok (.int (i + j)) S
  | .tup xs, .tup ys => mkTup (xs ++ ys) S
  | .cell n, .cell m => match S[n]?, S[m]? with
    | some (.lst xs), some (.lst ys) => mkLst (xs ++ ys) S
    | _, _ => .bad
  | _, _ => .bad
def opI (g : Int → Int → Int) (c : Int → Int → Bool) (x y : D) (S : Sto) : Res D := match x, y with
  | .int i, .int j => if c i j = true then .ok (.int (g i j)) S else .bad
  | _, _ => .bad
def opSub := opI (fun i j => i - j) fun _ _ => true
def opFdiv := opI (fun i j => i.fdiv j) fun _ j => decide (j ≠ 0 ∧ j.natAbs < N30)
def opMod := opI (fun i j => i.fmod j) fun _ j => decide (j ≠ 0)
def opPow := opI (fun i j => i ^ j.toNat) fun i j => decide (0 ≤ j ∧ j ≤ M6 ∧ i.natAbs < N64)
def opCmpI (g : Int → Int → Bool) (x y : D) (S : Sto) : Res D := match x, y with
  | .int i, .int j => .ok (.bl (g i j)) S
  | _, _ => .bad
def opLt := opCmpI fun i j => decide (i < j)
def opLe := opCmpI fun i j => decide (i ≤ j)
def opGt := opCmpI fun i j => decide (j < i)
def opGe := opCmpI fun i j => decide (j ≤ i)
def opMul (x y : D) (S : Sto) : Res D := match x, y with
  | .int i, .int j => if decide ((-M64 < i ∧ i < M64) ∨ (-M64 < j ∧ j < M64)) = true then .ok (.int (i * j)) S else .bad
  | .tup xs, .int k => if decide (xs ≠ [] ∧ 1 ≤ k ∧ k ≤ 1000 ∧ xs.length ≤ 100) = true then .ok (.tup (List.replicate k.toNat xs).flatten) S else .bad
  | .cell n, .int k => match S[n]? with
    | some (.lst xs) => if decide (0 ≤ k ∧ k ≤ 1000 ∧ xs.length ≤ 100) = true then mkLst (List.replicate k.toNat xs).flatten S else .bad
    | _ => .bad
  | _, _ => .bad
section
variable {X : Cx} {cl : Str → Value} {E : XK}
abbrev wt (X : Cx) (cl : Str → Value) (E : XK) : Wt := ⟨X.K, cl, E⟩
theorem rD2.ints {W : Wt} {op : D → D → Sto → Res D} {x y : V} {H : Hp} {Q : VK} {C : Int → Int → Prop} {g : Int → Int → D} {gv : Int → Int → V} (hg : ∀ i j ρ H, Dv W.K ρ H (gv i j) (g i j))
    (h : rD2 W op x y H Q) (ho : ∀ d e S, op d e S = .bad ∨ ∃ i j, d = .int i ∧ e = .int j ∧ C i j ∧ op d e S = .ok (g i j) S) : ∃ i j, x = .int i ∧ y = .int j ∧ C i j ∧ Q (gv i j) H := by
  obtain ⟨ρ, S, d, e, R, r1, r2, P⟩ := h
  rcases ho d e S with z | ⟨i, j, rfl, rfl, c, z⟩
  · rw [z] at P
    exact P.elim
  · rw [z] at P
    exact ⟨i, j, r1.intI, r2.intI, c, P.now R (hg i j ρ H)⟩
theorem od_I {f : Value → Value → Sem Value} {g : Int → Int → Int} {c : Int → Int → Bool} {C : Int → Int → Prop} (h : OpR X f (rI C fun i j => .int (g i j))) (hc : ∀ i j, c i j = true → C i j) : OpD X (wt X cl E) f (opI g c) := by
  refine OpR.imp h fun x y H Q q => rD2.ints (g := fun i j => .int (g i j)) (gv := fun i j => .int (g i j)) (fun i j _ _ => .int _) q fun d e S => ?_
  unfold opI
  split
  · rename_i i j
    split
    · rename_i hh
      exact .inr ⟨i, j, rfl, rfl, hc i j hh, rfl⟩
    · exact .inl rfl
  · exact .inl rfl
theorem od_sub : OpD X (wt X cl E) (binaryOp .Sub) opSub := od_I (C := fun _ _ => True) (OpR.imp op_sub fun x y H Q ⟨i, j, a, b, _, c⟩ => ⟨i, j, a, b, c⟩) fun _ _ _ => trivial
theorem od_fdiv : OpD X (wt X cl E) (binaryOp .FloorDiv) opFdiv := od_I op_fdivN fun i j h => by
  have h2 := of_decide_eq_true (p := j ≠ 0 ∧ j.natAbs < N30) h
  rw [N30_eq] at h2
  exact h2
theorem od_mod : OpD X (wt X cl E) (binaryOp .Mod) opMod := od_I op_modN fun i j h => of_decide_eq_true h
theorem od_pow : OpD X (wt X cl E) (binaryOp .Pow) opPow := od_I op_pow fun i j h => by
  have h2 := of_decide_eq_true (p := 0 ≤ j ∧ j ≤ M6 ∧ i.natAbs < N64) h
  rw [M6_eq, N64_eq] at h2
  exact h2
theorem od_cmpI {f : Value → Value → Sem Value} {g : Int → Int → Bool} (h : OpR X f (rI0 fun i j => .bl (g i j))) : OpD X (wt X cl E) f (opCmpI g) := by
  refine OpR.imp h fun x y H Q q => ?_
  obtain ⟨i, j, a, b, _, c⟩ := rD2.ints (C := fun _ _ => True) (g := fun i j => .bl (g i j)) (gv := fun i j => .bl (g i j)) (fun i j _ _ => .bl _) q fun d e S => by
    unfold opCmpI
    split
    · rename_i i j
      exact .inr ⟨i, j, rfl, rfl, trivial, rfl⟩
    · exact .inl rfl
  exact ⟨i, j, a, b, c⟩
theorem od_lt : OpD X (wt X cl E) (compareOp .Lt) opLt := od_cmpI op_lt
theorem od_le : OpD X (wt X cl E) (compareOp .LtE) opLe := od_cmpI op_le
theorem od_gt : OpD X (wt X cl E) (compareOp .Gt) opGt := od_cmpI op_gt
theorem od_ge : OpD X (wt X cl E) (compareOp .GtE) opGe := od_cmpI op_ge
theorem od_add : OpD X (wt X cl E) (binaryOp .Add) opAdd := by
  refine OpR.imp (OpR.or op_add (OpR.or op_catA op_cat)) fun x y H Q q => ?_
  obtain ⟨ρ, S, d, e, R, r1, r2, P⟩ := q
  unfold opAdd at P
  split at P
  · rename_i i j
    exact .inl ⟨i, j, r1.intI, r2.intI, P.now R (.int _)⟩
  · rename_i xs ys
    refine .inr (.inl ?_)
    obtain ⟨a, us, rfl, s1, v1⟩ := r1.tupI
    obtain ⟨b, ws, rfl, s2, v2⟩ := r2.tupI
    obtain ⟨h1, h2⟩ := P.tup R (v1.append v2)
    rw [List.length_append] at h1
    refine ⟨a, b, us, ws, rfl, rfl, s1, s2, h1, fun z => ?_, fun z z2 => ?_, fun _ _ => h2⟩
    · have e1 : xs = [] := v1.nil_iff.mp z
      unfold mkTup at P
      split at P
      · rw [e1] at P
        exact P.now R r2
      · exact P.elim
    · have e1 : ys = [] := v2.nil_iff.mp z2
      unfold mkTup at P
      split at P
      · rw [e1, List.append_nil] at P
        exact P.now R r1
      · exact P.elim
  · rename_i n m
    split at P
    · rename_i xs ys h1 h2
      obtain ⟨a, rfl, q1⟩ := r1.cellI
      obtain ⟨b, rfl, q2⟩ := r2.cellI
      obtain ⟨us, g1, v1⟩ := R.lst q1 h1
      obtain ⟨ws, g2, v2⟩ := R.lst q2 h2
      obtain ⟨l, k⟩ := P.lst R (v1.append v2)
      rw [List.length_append] at l
      exact .inr (.inr ⟨a, b, us, ws, rfl, rfl, g1, g2, l, k⟩)
    · exact P.elim
  · exact P.elim
end

/-! ### a tuple times one is itself -/
theorem tup_mul_same (l : Addr) (its : Array Value) (n : Nat) (dd : Option Addr) (sl : Array (Option Value)) (x : Int) (u : Tok) (c0 : (decide (x < -(2 ^ 63)) || decide (x ≥ 2 ^ 63)) = false) (c1 : (its.isEmpty || x == 1) = true) :
    Meets (Builtin.«tuple.__mul__» ⟨[.ref l, .int x u], []⟩) (fun _ R s => s.heap.get? l = some { cls := .type "tuple", dict := dd, data := .seq its n, slots := sl } ∧ R (.ok (.ret (Value.ref l))) s) :=
  .of_wp fun prog w A R s h => by
    obtain ⟨hp, g, d, tk, os⟩ := s
    obtain ⟨hl, h⟩ := h
    have f1 := AutoSeq1.idx_int
    wp_walk using wpAny_loadPart' hl
    repeat (first
      | (refine wpAny_ite_false (decide_eq_false (by rw [c0]; exact Bool.false_ne_true)) ?_
         wp_walk using wpAny_loadPart' hl)
      | (refine wpAny_ite_true (by first | exact c1 | exact decide_eq_true c1) ?_
         wp_walk using wpAny_loadPart' hl))
    exact ⟨_, rfl, h⟩
def rRepT1 (K : PySem.W.Frag) : R2 := fun x y H Q => ∃ l xs, x = .ref l ∧ y = .int 1 ∧ SqT K H l xs ∧ Q (.ref l) H
section
variable {X : Cx} {cl : Str → Value} {E : XK}
theorem op_repT1 : OpR X (binaryOp .Mult) (rRepT1 X.K) := by
  intro pins s σ H x y v u Q I rx ry h
  obtain ⟨l, xs, rfl, rfl, hT, q⟩ := h
  obtain rfl : v = Value.ref l := rx
  obtain ⟨t, rfl⟩ := ry
  obtain ⟨its, r, ⟨⟨cls, dd, data, sl⟩, ho, hc, n, hd⟩, hs⟩ := I.tuple hT
  dsimp only at hc hd
  subst hc
  subst hd
  have same := tup_mul_same l its.toArray n dd sl 1 t (by decide) (by simp)
  have viaMul := call_meets (prog := X.prog) (w := X.w) (A := X.A) (E := X.xe) (s := s) (Q := EP X pins σ Q) F.slot_tuple_mul (show s.TypeIs (.ref l) "tuple" from ⟨_, ho, rfl⟩) F.entry_tuple_mul (F.args_tuple_mul_2 _ _) same ⟨ho, ⟨.ref l, H, I, rfl, q⟩⟩
  exact wpAny_binaryOp_repeat_ref (T := "tuple") (U := "int") (by decide) ⟨_, ho, rfl⟩ (fun s' => typeIs_int s' 1 t) noFill_tuple_mul F.fills_int_mul F.slot_int_rmul repeat_tuple F.slot_int_index.lookup
    (call_meets F.slot_int_rmul (typeIs_int s 1 t) F.entry_int_rmul (F.args_int_rmul_2 _ _) (int_rmul_tuple 1 t l its.toArray n dd sl) ⟨ho, rfl, ⟨_, ho, rfl⟩, viaMul⟩)
theorem od_mul : OpD X (wt X cl E) (binaryOp .Mult) opMul := by
  refine OpR.imp (OpR.or op_mul (OpR.or op_repT (OpR.or op_repT1 op_rep))) fun x y H Q q => ?_
  obtain ⟨ρ, S, d, e, R, r1, r2, P⟩ := q
  unfold opMul at P
  split at P
  · rename_i i j
    split at P
    · rename_i hc
      exact .inl ⟨i, j, r1.intI, r2.intI, (by
        have h2 := of_decide_eq_true (p := (-M64 < i ∧ i < M64) ∨ (-M64 < j ∧ j < M64)) hc
        rw [M64_eq] at h2
        exact h2), P.now R (.int _)⟩
    · exact P.elim
  · rename_i xs k
    split at P
    · rename_i hc
      obtain ⟨c1, c2, c3, c4⟩ := of_decide_eq_true hc
      obtain ⟨a, us, rfl, s1, v1⟩ := r1.tupI
      have e2 := r2.intI
      by_cases hk : k = 1
      · subst hk
        refine .inr (.inr (.inl ⟨a, us, rfl, e2, s1, ?_⟩))
        have e3 : (List.replicate (1 : Int).toNat xs).flatten = xs := by simp
        rw [e3] at P
        exact P.now R r1
      · refine .inr (.inl ⟨a, k, us, rfl, e2, s1, fun z => c1 (v1.nil_iff.mp z), by omega, c3, by rw [v1.length]; omega, fun p hp => ?_⟩)
        exact P ρ _ _ (Ext.new hp) (R.new hp) (.tup (.inl (.inl upd_same)) ((v1.rep _).mono (Ext.new hp)))
    · exact P.elim
  · rename_i n k
    split at P
    · rename_i xs h1
      split at P
      · rename_i hc
        obtain ⟨c2, c3, c4⟩ := of_decide_eq_true hc
        obtain ⟨a, rfl, q1⟩ := r1.cellI
        obtain ⟨us, g1, v1⟩ := R.lst q1 h1
        obtain ⟨l, kk⟩ := P.lst R (v1.rep k.toNat)
        refine .inr (.inr (.inr ⟨a, k, us, rfl, r2.intI, g1, by omega, by omega, ?_, kk⟩))
        have a1 : us.length * k.toNat ≤ 100 * 1000 := Nat.mul_le_mul (by rw [v1.length]; exact c4) (by omega)
        exact Nat.le_trans a1 (by decide)
      · exact P.elim
    · exact P.elim
  · exact P.elim

/-! ### == and !=: data of any depth -/
end
def allPy (f : D → Option PyData) : List D → Option (List PyData)
  | [] => some []
  | d :: ds => match f d, allPy f ds with
    | some p, some ps => some (p :: ps)
    | _, _ => none
def toPy : Nat → Sto → D → Option PyData
  | 0, _, _ => none
  | n + 1, S, d => match d with
    | .non => some .none
    | .bl b => some (.bool b)
    | .int i => some (.int i)
    | .str x => some (.str x)
    | .tup xs => (allPy (toPy n S) xs).map .tuple
    | .ro xs => (allPy (toPy n S) xs).map .list
    | .cell k => match S[k]? with
      | some (.lst xs) => (allPy (toPy n S) xs).map .list
      | _ => none
    | .rng _ _ => none
theorem allPy_dp {K : PySem.W.Frag} {ρ : List Addr} {H : Hp} {f : D → Option PyData} (hf : ∀ v d p, Dv K ρ H v d → f d = some p → Dp K H v p) : ∀ {vs : List V} {ds : List D} {ps : List PyData}, DvAll K ρ H vs ds → allPy f ds = some ps → DpAll K H vs ps
  | _, _, _, .nil, e => by cases e; exact .nil
  | _, _, _, .cons (d := d) (ds := ds) r t, e => by
    unfold allPy at e
    split at e
    · rename_i p qs h1 h2
      cases e
      exact .cons (hf _ _ _ r h1) (allPy_dp hf t h2)
    · cases e
theorem toPy_dp {K : PySem.W.Frag} {ρ : List Addr} {H : Hp} {S : Sto} (R : Rep K ρ H S) : ∀ (n : Nat) (v : V) (d : D) (p : PyData), Dv K ρ H v d → toPy n S d = some p → Dp K H v p
  | 0, _, _, _, _, e => by cases e
  | n + 1, v, d, p, h, e => by
    have ih := toPy_dp R n
    cases h with
    | non => cases e; exact .non
    | bl b => cases e; exact .bl b
    | int i => cases e; exact .int i
    | str x => cases e; exact .str x
    | tup a b =>
      obtain ⟨ps, h1, h2⟩ := Option.map_eq_some_iff.mp (show (allPy (toPy n S) _).map PyData.tuple = some p from e)
      rw [← h2]
      exact .tup a (allPy_dp ih b h1)
    | ro a f b =>
      obtain ⟨ps, h1, h2⟩ := Option.map_eq_some_iff.mp (show (allPy (toPy n S) _).map PyData.list = some p from e)
      rw [← h2]
      exact .lst a (allPy_dp ih b h1)
    | cell q =>
      unfold toPy at e
      dsimp only at e
      split at e
      · rename_i xs hx
        obtain ⟨us, g1, g2⟩ := R.lst q hx
        obtain ⟨ps, h1, h2⟩ := Option.map_eq_some_iff.mp e
        rw [← h2]
        exact .lst (SqL.of g1) (allPy_dp ih g2 h1)
      · cases e
    | rng q => cases e
def opEqP (neg : Bool) (x y : D) (S : Sto) : Res D := match toPy 60 S x, toPy 60 S y with
  | some p, some q => if (SeqAt.shaped p && SeqAt.shaped q) = true then .ok (.bl (if neg then !PyData.eqv p q else PyData.eqv p q)) S else .bad
  | _, _ => .bad
/-- two texts of any size; else data of any depth -/
def opEqG (neg : Bool) (x y : D) (S : Sto) : Res D := match x, y with
  | .str a, .str b => .ok (.bl (if neg then !decide (a = b) else decide (a = b))) S
  | x, y => opEqP neg x y S
def opEq := opEqG false
def opNe := opEqG true
section
variable {X : Cx} {cl : Str → Value} {E : XK}
theorem eqP_of {neg : Bool} {x y : V} {H : Hp} {Q : VK} (h : rD2 (wt X cl E) (opEqP neg) x y H Q) :
    ∃ d e, Dp X.K H x d ∧ Dp X.K H y e ∧ SeqAt.shaped d = true ∧ SeqAt.shaped e = true ∧ Q (.bl (if neg then !PyData.eqv d e else PyData.eqv d e)) H := by
  obtain ⟨ρ, S, d, e, R, r1, r2, P⟩ := h
  unfold opEqP at P
  split at P
  · rename_i p q h1 h2
    split at P
    · rename_i hc
      rw [Bool.and_eq_true] at hc
      exact ⟨p, q, toPy_dp R _ _ _ _ r1 h1, toPy_dp R _ _ _ _ r2 h2, hc.1, hc.2, P.now R (.bl _)⟩
    · exact P.elim
  · exact P.elim
theorem eqG_of {neg : Bool} {x y : V} {H : Hp} {Q : VK} (h : rD2 (wt X cl E) (opEqG neg) x y H Q) :
    (scal x y = true ∧ Q (.bl (if neg then !decide (x = y) else decide (x = y))) H) ∨ ∃ d e, Dp X.K H x d ∧ Dp X.K H y e ∧ SeqAt.shaped d = true ∧ SeqAt.shaped e = true ∧ Q (.bl (if neg then !PyData.eqv d e else PyData.eqv d e)) H := by
  obtain ⟨ρ, S, d, e, R, r1, r2, P⟩ := h
  unfold opEqG at P
  split at P
  · rename_i a b
    refine .inl ?_
    rw [r1.strI, r2.strI]
    refine ⟨rfl, ?_⟩
    have q := P.now R (.bl _)
    have e : decide (V.str a = V.str b) = decide (a = b) := by
      by_cases h : a = b
      · rw [h, decide_eq_true rfl, decide_eq_true rfl]
      · rw [decide_eq_false h, decide_eq_false (fun z => h (V.str.inj z))]
    rw [e]
    exact q
  · exact .inr (eqP_of ⟨ρ, S, d, e, R, r1, r2, P⟩)
theorem od_eq (hu : X.A.units + 64 < cLine) : OpD X (wt X cl E) (compareOp .Eq) opEq := OpR.imp (OpR.or op_eq (op_eqD hu)) fun x y H Q q => eqG_of (neg := false) q
theorem od_ne (hu : X.A.units + 64 < cLine) : OpD X (wt X cl E) (compareOp .NotEq) opNe := OpR.imp (OpR.or op_ne (op_neD hu)) fun x y H Q q => eqG_of (neg := true) q

/-! ### is None -/
end
def isNon : D → Bool
  | .non => true
  | _ => false
def opIsN (neg : Bool) (x y : D) (S : Sto) : Res D := match y with
  | .non => .ok (.bl (if neg then !isNon x else isNon x)) S
  | _ => .bad
section
variable {X : Cx} {cl : Str → Value} {E : XK}
theorem Dv.nonIff {K : PySem.W.Frag} {ρ : List Addr} {H : Hp} {v : V} {d : D} (h : Dv K ρ H v d) : decide (v = .non) = isNon d := by
  cases h <;> first | rfl | (exact decide_eq_false (by intro z; cases z))
theorem isN_of {neg : Bool} {x y : V} {H : Hp} {Q : VK} (h : rD2 (wt X cl E) (opIsN neg) x y H Q) : y = .non ∧ Q (.bl (if neg then !decide (x = .non) else decide (x = .non))) H := by
  obtain ⟨ρ, S, d, e, R, r1, r2, P⟩ := h
  unfold opIsN at P
  split at P
  · refine ⟨r2.nonI, ?_⟩
    rw [r1.nonIff]
    exact P.now R (.bl _)
  · exact P.elim
theorem od_isN : OpD X (wt X cl E) (compareOp .Is) (opIsN false) := OpR.imp op_isN fun _ _ _ _ q => isN_of (neg := false) q
theorem od_notN : OpD X (wt X cl E) (compareOp .IsNot) (opIsN true) := OpR.imp op_notN fun _ _ _ _ q => isN_of (neg := true) q
end

/-! ### in, not in: flat items -/
def flatD : D → Bool
  | .non => true
  | .bl _ => true
  | .int _ => true
  | .str _ => true
  | _ => false
def eqF : D → D → Bool
  | .non, .non => true
  | .bl a, .bl b => a == b
  | .bl a, .int b => (if a then 1 else 0) == b
  | .int a, .bl b => a == (if b then 1 else 0)
  | .int a, .int b => a == b
  | .str a, .str b => a == b
  | _, _ => false
def inD (x : D) (ys : List D) : Bool := ys.any fun y => eqF y x
/-! a dict whose keys are tuples -/
def dikOf (S : Sto) : D → Option (List (NestedKey × D))
  | .cell n => match S[n]? with
    | some (.dik kvs) => some kvs
    | _ => none
  | _ => none
def keyT : D → Option NestedKey
  | .tup ds => match keyD (.tup ds) with
    | some k => if (txl k && decide (k.depth ≤ 8)) = true then some k else none
    | none => none
  | _ => none
def dkGet (kvs : List (NestedKey × D)) (k : NestedKey) : Option D := (kvs.find? fun kv => decide (kv.1 = k)).map (·.2)
def dkPut (kvs : List (NestedKey × D)) (k : NestedKey) (d : D) : List (NestedKey × D) := if (dkGet kvs k).isSome = true then kvs.map (fun kv => if kv.1 = k then (kv.1, d) else kv) else kvs ++ [(k, d)]
theorem keyT_tup {d : D} {k : NestedKey} (h : keyT d = some k) : ∃ ds, d = .tup ds ∧ keyD (.tup ds) = some k ∧ txl k = true ∧ k.depth ≤ 8 := by
  unfold keyT at h
  split at h
  · rename_i ds
    split at h
    · rename_i k' hk
      split at h
      · rename_i hc
        cases h
        rw [Bool.and_eq_true, decide_eq_true_eq] at hc
        exact ⟨ds, rfl, hk, hc.1, hc.2⟩
      · cases h
    · cases h
  · cases h
theorem DkR.ok {K : PySem.W.Frag} {ρ : List Addr} {H : Hp} : ∀ {xs : List (NestedKey × Addr × V)} {kvs : List (NestedKey × D)}, DkR K ρ H xs kvs → ∀ p ∈ xs, KOk K H p
  | _, _, .nil => by simp
  | _, _, .cons a b c d e f => fun p hp => by
    rcases List.mem_cons.mp hp with rfl | hp
    · exact ⟨a.nk b, c, d⟩
    · exact DkR.ok f p hp
theorem DkR.get {K : PySem.W.Frag} {ρ : List Addr} {H : Hp} {k : NestedKey} : ∀ {xs : List (NestedKey × Addr × V)} {kvs : List (NestedKey × D)}, DkR K ρ H xs kvs → (atX xs k).isSome = (dkGet kvs k).isSome
  | _, _, .nil => rfl
  | _, _, .cons (k := k1) a b c d e f => by
    have ih := DkR.get (k := k) f
    unfold atX dkGet at *
    by_cases h : k1 = k
    · simp only [List.find?_cons, h, decide_true]
      rfl
    · simp only [List.find?_cons, h, decide_false]
      exact ih
theorem DkR.length {K : PySem.W.Frag} {ρ : List Addr} {H : Hp} : ∀ {xs : List (NestedKey × Addr × V)} {kvs : List (NestedKey × D)}, DkR K ρ H xs kvs → xs.length = kvs.length
  | _, _, .nil => rfl
  | _, _, .cons a b c d e f => by rw [List.length_cons, List.length_cons, DkR.length f]
theorem DkR.puts {K : PySem.W.Frag} {ρ : List Addr} {H : Hp} {k : NestedKey} {v : V} {d : D} (r : Dv K ρ H v d) : ∀ {xs : List (NestedKey × Addr × V)} {kvs : List (NestedKey × D)}, DkR K ρ H xs kvs → DkR K ρ H (xs.map (putX k v)) (kvs.map fun kv => if kv.1 = k then (kv.1, d) else kv)
  | _, _, .nil => .nil
  | _, _, .cons (k := k1) a b c d e f => by
    have ih := DkR.puts (k := k) r f
    simp only [List.map_cons, putX]
    by_cases h : k1 = k
    · simp only [h, if_true]
      subst h
      exact .cons a b c d r ih
    · simp only [h, if_false]
      exact .cons a b c d e ih
theorem DkR.snoc {K : PySem.W.Frag} {ρ : List Addr} {H : Hp} {k : NestedKey} {b : Addr} {v : V} {d : D} {ds : List D} (h1 : Dv K ρ H (.ref b) (.tup ds)) (h2 : keyD (.tup ds) = some k) (h3 : txl k = true) (h4 : k.depth ≤ 8) (r : Dv K ρ H v d) : ∀ {xs : List (NestedKey × Addr × V)} {kvs : List (NestedKey × D)}, DkR K ρ H xs kvs → DkR K ρ H (xs ++ [(k, b, v)]) (kvs ++ [(k, d)])
  | _, _, .nil => .cons h1 h2 h3 h4 r .nil
  | _, _, .cons a b c d e f => .cons a b c d e (DkR.snoc h1 h2 h3 h4 r f)
theorem DkR.put {K : PySem.W.Frag} {ρ : List Addr} {H : Hp} {k : NestedKey} {b : Addr} {v : V} {d : D} {ds : List D} (h1 : Dv K ρ H (.ref b) (.tup ds)) (h2 : keyD (.tup ds) = some k) (h3 : txl k = true) (h4 : k.depth ≤ 8) (r : Dv K ρ H v d) {xs : List (NestedKey × Addr × V)} {kvs : List (NestedKey × D)} (t : DkR K ρ H xs kvs) : DkR K ρ H (storedX xs k b v) (dkPut kvs k d) := by
  unfold storedX dkPut
  rw [t.get]
  split
  · exact t.puts r
  · exact DkR.snoc h1 h2 h3 h4 r t
theorem dik_of {K : PySem.W.Frag} {ρ : List Addr} {H : Hp} {S : Sto} (R : Rep K ρ H S) {x : V} {y : D} {kvs : List (NestedKey × D)} (r : Dv K ρ H x y) (h : dikOf S y = some kvs) : ∃ n a xs, y = .cell n ∧ x = .ref a ∧ S[n]? = some (.dik kvs) ∧ ρ[n]? = some a ∧ H a = some (DkO a xs) ∧ DkR K ρ H xs kvs := by
  unfold dikOf at h
  split at h
  · rename_i n
    split at h
    · rename_i kvs' hk
      cases h
      obtain ⟨a, rfl, q⟩ := r.cellI
      obtain ⟨xs, h1, h2⟩ := R.at n a _ q hk
      exact ⟨n, a, xs, rfl, rfl, hk, q, h1, h2⟩
    · cases h
  · cases h
def opIn (neg : Bool) (x y : D) (S : Sto) : Res D := match items S y with
  | some ys => if (flatD x && ys.all flatD) = true then .ok (.bl (if neg then !inD x ys else inD x ys)) S else .bad
  | none => match dikOf S y, keyT x with
    | some kvs, some k => .ok (.bl (if neg then !(dkGet kvs k).isSome else (dkGet kvs k).isSome)) S
    | _, _ => .bad
section
variable {K : PySem.W.Frag} {ρ : List Addr} {H : Hp}
theorem Dv.flat {v : V} {d : D} (h : Dv K ρ H v d) (f : flatD d = true) : flatV v = true := by
  cases h <;> first | rfl | exact f
theorem Dv.eqF {v w : V} {d e : D} (h : Dv K ρ H v d) (h' : Dv K ρ H w e) (f : flatD d = true) (f' : flatD e = true) : eqV v w = Dn.eqF d e := by
  cases h <;> cases h' <;> first | rfl | (exact absurd f (by decide)) | (exact absurd f' (by decide)) | (exact absurd (show false = true from f) (by decide)) | (exact absurd (show false = true from f') (by decide))
theorem DvAll.flat : ∀ {vs : List V} {ds : List D}, DvAll K ρ H vs ds → ds.all flatD = true → vs.all flatV = true
  | _, _, .nil, _ => rfl
  | _, _, .cons r t, f => by
    rw [List.all_cons, Bool.and_eq_true] at f
    rw [List.all_cons, r.flat f.1, DvAll.flat t f.2]
    rfl
theorem DvAll.inV {v : V} {d : D} (h : Dv K ρ H v d) (f : flatD d = true) : ∀ {vs : List V} {ds : List D}, DvAll K ρ H vs ds → ds.all flatD = true → L2.inV v vs = inD d ds
  | _, _, .nil, _ => rfl
  | v' :: vs, d' :: ds, .cons r t, g => by
    rw [List.all_cons, Bool.and_eq_true] at g
    have ih := DvAll.inV h f t g.2
    show (eqV v' v || L2.inV v vs) = (Dn.eqF d' d || inD d ds)
    rw [ih, r.eqF h g.1 f]
end
section
variable {X : Cx} {cl : Str → Value} {E : XK}
theorem in_of {neg : Bool} {x y : V} {H : Hp} {Q : VK} (h : rD2 (wt X cl E) (opIn neg) x y H Q) : rIn X.K neg x y H Q ∨ rInK X.K neg x y H Q := by
  obtain ⟨ρ, S, d, e, R, r1, r2, P⟩ := h
  unfold opIn at P
  split at P
  · rename_i ys hi
    split at P
    · rename_i hc
      rw [Bool.and_eq_true] at hc
      obtain ⟨a, us, rfl, sq, vs⟩ := r2.seqI R hi
      refine .inl ⟨a, us, rfl, sq, r1.flat hc.1, vs.flat hc.2, ?_⟩
      rw [DvAll.inV r1 hc.1 vs hc.2]
      exact P.now R (.bl _)
    · exact P.elim
  · split at P
    · rename_i kvs k h1 h2
      obtain ⟨ds, rfl, k1, k2, k3⟩ := keyT_tup h2
      obtain ⟨n, a, xs, rfl, rfl, g1, g2, g3, g4⟩ := dik_of R r2 h1
      obtain ⟨b, us, rfl, _⟩ := r1.tupI
      refine .inr ⟨a, b, xs, k, rfl, rfl, g3, g4.ok, r1.nk k1, k3, ?_⟩
      rw [g4.get]
      exact P.now R (.bl _)
    · exact P.elim
theorem od_in (hu : X.A.units + 64 < cLine) : OpD X (wt X cl E) (compareOp .In) (opIn false) := OpR.imp (OpR.or op_in_seq (op_inK hu)) fun _ _ _ _ q => in_of q
theorem od_notIn (hu : X.A.units + 64 < cLine) : OpD X (wt X cl E) (compareOp .NotIn) (opIn true) := OpR.imp (OpR.or op_notIn_seq (op_notInK hu)) fun _ _ _ _ q => in_of q
end

/-! ### subscripts, slices -/
def opIx (x y : D) (S : Sto) : Res D := match y with
  | .int i => match items S x with
    | some ds => match atI ds i with
      | some d => .ok d S
      | none => .bad
    | none => .bad
  | _ => .bad
theorem atI_dv {K : PySem.W.Frag} {ρ : List Addr} {H : Hp} {vs : List V} {ds : List D} {i : Int} {d : D} (h : DvAll K ρ H vs ds) (e : atI ds i = some d) : ∃ v, atI vs i = some v ∧ Dv K ρ H v d := by
  unfold atI at e ⊢
  rw [h.length]
  cases q : ixN ds.length i with
  | none => rw [q] at e; cases e
  | some j =>
    rw [q] at e
    exact h.get e
section
variable {X : Cx} {W : Wt} {cl : Str → Value} {E : XK} {a b : Expr} {da db : DE} {pos : Pos}
theorem ix_D : IxR X (rD2 (wt X cl E) opIx) := by
  intro value slice pins s σ H x y v u Q I rx ry q hs
  refine IxR.or ix_list ix_tup value slice pins s σ H x y v u Q I rx ry ?_ hs
  obtain ⟨ρ, S, d, e, R, r1, r2, P⟩ := q
  unfold opIx at P
  split at P
  · rename_i i
    split at P
    · rename_i ds hi
      split at P
      · rename_i z hz
        obtain ⟨p, us, rfl, sq, vs⟩ := r1.seqI R hi
        obtain ⟨w, h1, h2⟩ := atI_dv vs hz
        rcases sq with sq | sq
        · exact .inl ⟨p, us, i, w, rfl, r2.intI, sq, h1, P.now R h2⟩
        · exact .inr ⟨p, us, i, w, rfl, r2.intI, sq, h1, P.now R h2⟩
      · exact P.elim
    · exact P.elim
  · exact P.elim
theorem se_ix (ha : SE X (wt X cl E) a da) (hb : SE X (wt X cl E) b db) (hs : PlainIx b := by exact fun _ _ => rfl) : SE X (wt X cl E) (.Subscript a b pos) (dBin opIx da db) := pe_imp (pe_ix ix_D ha hb hs) fun _ _ _ h => tOp_of h
end
def cutD (xs : List D) (lo hi : Option Int) : List D := (xs.drop (HT.sIx xs.length 0 lo)).take (HT.sIx xs.length xs.length hi - HT.sIx xs.length 0 lo)
def opSl (x : D) (lo hi : Option Int) (S : Sto) : Res D := match x with
  | .tup xs => .ok (.tup (cutD xs lo hi)) S
  | .ro xs => .ok (.cell S.length) (S ++ [.lst (cutD xs lo hi)])
  | .cell n => match S[n]? with
    | some (.lst xs) => .ok (.cell S.length) (S ++ [.lst (cutD xs lo hi)])
    | _ => .bad
  | _ => .bad
def dNoPart : DO := fun _ S => .ok none S
def dPart (a : DE) : DO := fun δ S => (a δ S).bnd fun d S1 => match d with
  | .int i => .ok (some i) S1
  | _ => .bad
def dSl (a : DE) (lo hi : DO) : DE := fun δ S => (a δ S).bnd fun x S1 => (lo δ S1).bnd fun l S2 => (hi δ S2).bnd fun h S3 => opSl x l h S3
theorem cut_dv {K : PySem.W.Frag} {ρ : List Addr} {H : Hp} {vs : List V} {ds : List D} (lo hi : Option Int) (h : DvAll K ρ H vs ds) : DvAll K ρ H (cutV vs lo hi) (cutD ds lo hi) := by
  unfold cutV cutD
  rw [h.length]
  exact (h.drop _).take _
theorem cut_whole {α : Type} (xs : List α) {lo hi : Option Int} (h : HT.sIx xs.length 0 lo = 0 ∧ HT.sIx xs.length xs.length hi = xs.length) : (xs.drop (HT.sIx xs.length 0 lo)).take (HT.sIx xs.length xs.length hi - HT.sIx xs.length 0 lo) = xs := by
  rw [h.1, h.2, List.drop_zero, Nat.sub_zero, List.take_length]
section
variable {X : Cx} {W : Wt} {cl : Str → Value} {E : XK} {a : Expr} {da : DE} {pos p2 : Pos}
theorem so_none : PO X none (tOp' W dNoPart) := po_imp po_none fun σ H Q ⟨ρ, δ, S, R, N, P⟩ => Post.now (Rl := rlO) P R rfl
theorem so_some (h : SE X W a da) : PO X (some a) (tOp' W (dPart da)) := po_imp (po_some h) fun σ H Q h => tG.step h fun ρ δ ρ1 S1 H1 v d N e R r P => by
  cases r with
  | int i => exact ⟨i, rfl, Post.now (Rl := rlO) P R rfl⟩
  | _ => exact P.elim
theorem sl_D : SlR X (fun x lo hi H Q => ∃ ρ S d, Rep X.K ρ H S ∧ Dv X.K ρ H x d ∧ Post (wt X cl E) (Dv X.K) ρ H (opSl d lo hi S) Q) := by
  intro pins s σ H x v vl vu lo hi sl Q I rx hs pl pu q
  refine SlR.or sl_tupA sl_list pins s σ H x v vl vu lo hi sl Q I rx hs pl pu ?_
  obtain ⟨ρ, S, d, R, r, P⟩ := q
  unfold opSl at P
  have fresh : ∀ (us : List V) (ds : List D), DvAll X.K ρ H us ds → Post (wt X cl E) (Dv X.K) ρ H (.ok (.cell S.length) (S ++ [.lst (cutD ds lo hi)])) Q → ∀ p, H p = none → Q (.ref p) (upd H p (.lst (cutV us lo hi))) := fun us ds vs P p hp => by
    refine P (ρ ++ [p]) _ _ (Ext.newC hp) (R.newC hp ⟨_, upd_same, (cut_dv lo hi vs).mono (Ext.newC hp)⟩) (.cell ?_)
    rw [← R.len, List.getElem?_append_right (Nat.le_refl _), Nat.sub_self]
    rfl
  split at P
  · rename_i ds
    obtain ⟨p, us, rfl, sq, vs⟩ := r.tupI
    refine .inl ⟨p, us, rfl, sq, fun hw => ?_, fun _ p hp => ?_⟩
    · have e : cutD ds lo hi = ds := cut_whole ds (by rw [← vs.length]; exact hw)
      rw [e] at P
      exact P.now R r
    · exact P ρ _ _ (Ext.new hp) (R.new hp) (.tup (.inl (.inl upd_same)) ((cut_dv lo hi vs).mono (Ext.new hp)))
  · rename_i ds
    cases r with
    | ro sq f vs => exact .inr ⟨_, _, rfl, sq, fresh _ _ vs P⟩
  · rename_i n
    split at P
    · rename_i ds h1
      obtain ⟨p, rfl, q1⟩ := r.cellI
      obtain ⟨us, g1, vs⟩ := R.lst q1 h1
      exact .inr ⟨p, us, rfl, SqL.of g1, fresh _ _ vs P⟩
    · exact P.elim
  · exact P.elim
theorem se_sl {lo hi : Option Expr} {dl dh : DO} (ha : SE X (wt X cl E) a da) (hl : PO X lo (tOp' (wt X cl E) dl)) (hh : PO X hi (tOp' (wt X cl E) dh)) : SE X (wt X cl E) (.Subscript a (.Slice lo hi none p2) pos) (dSl da dl dh) :=
  pe_imp (pe_slice (sl_D (cl := cl) (E := E)) ha hl hh) fun σ H Q h => tG.step h fun ρ δ ρ1 S1 H1 v d N e R r P => ⟨ρ1, δ, S1, R, N, (Post.bnd P).imp fun l H2 ⟨ρ2, S2, d2, e2, R2, r2, P2⟩ => ⟨ρ2, δ, S2, R2, N.mono e2, (Post.bnd P2).imp fun h H3 ⟨ρ3, S3, d3, e3, R3, r3, P3⟩ => by
    have r2' : l = d2 := r2
    have r3' : h = d3 := r3
    rw [r2', r3']
    exact ⟨ρ3, S3, d, R3, (r.mono e2).mono e3, P3⟩⟩⟩
end
end Dn
set_option Elab.async false
set_option linter.all false
set_option maxRecDepth 100000
set_option maxHeartbeats 1000000
/-! DnE: enumerate(t), t a tuple. -/
noncomputable section
namespace Dn
open PySem PySem.Spec PyProof.Rows L2
theorem enum_new1 {v : Value} {o : Obj} {G : Heap → Prop} (B : Begins v o G) :
    Meets (Builtin.«enumerate.__new__» ⟨[.type "enumerate", v], []⟩) (fun _ R s => G s.heap ∧
      R (.ok (.ret (.ref (s.heap.push o).objs.size))) { s with heap := (s.heap.push o).push { cls := .type "enumerate", data := .fields #[.none, .bool false, .ref s.heap.objs.size, rawInt 0, .none, .none] } }) :=
  .of_wp fun prog w A R s h => by
    obtain ⟨hp, g, d, tk, os⟩ := s
    obtain ⟨h1, h⟩ := h
    have hsub := sub_enumerate
    have made : ∀ {A' : Around} {E : Value → Shared → Prop} {Q : Value → Shared → Prop}, Q (.ref hp.objs.size) ⟨hp.push o, g, d, tk, os⟩ → wpAny (model prog w) A' (pyIter v) Q E ⟨hp, g, d, tk, os⟩ :=
      fun q => B.iter prog w _ _ ⟨hp, g, d, tk, os⟩ _ h1 q
    wp_walk using made
    refine wpAny_stack_any fun st => wpAny_pure ?_
    split
    · rename_i c _ _ _ _ _
      cases (c == Value.type "enumerate") <;>
        (wp_walk using made
         exact ⟨_, rfl, h⟩)
    · wp_walk using made
      exact ⟨_, rfl, h⟩
section
variable {prog : Program} {w : World} {A : Around} {E : Value → Shared → Prop} {s : Shared}
theorem call_enum1 {v : Value} {o : Obj} {G : Heap → Prop} {Q : Value → Shared → Prop} (B : Begins v o G) (h1 : G s.heap)
    (h : ∀ h', IsEnum h' (s.heap.objs.size + 1) s.heap.objs.size 0 .none → h'.get? s.heap.objs.size = some o → h'.objs.size = s.heap.objs.size + 2 → (∀ b u, s.heap.get? b = some u → h'.get? b = some u) → Q (.ref (s.heap.objs.size + 1)) { s with heap := h' }) :
    wpAny (model prog w) A (call (.type "enumerate") [v]) Q E s := by
  have z1 : (s.heap.push o).objs.size = s.heap.objs.size + 1 := Heap.size_push ..
  refine callType_new F.called_enumerate (by decide) (F.typeCall_enumerate_1 _) (F.newCall_enumerate_1 _) (fun obj => F.args_object_init_2 obj _) F.entry_enumerate_new (enum_new1 B) ⟨h1, ?_⟩
  have there : IsEnum ((s.heap.push o).push { cls := .type "enumerate", data := .fields #[.none, .bool false, .ref s.heap.objs.size, rawInt 0, .none, .none] }) (s.heap.objs.size + 1) s.heap.objs.size 0 .none := by
    have q := Heap.get?_push_size (s.heap.push o) (o := { cls := .type "enumerate", data := .fields #[.none, .bool false, .ref s.heap.objs.size, rawInt 0, .none, .none] }) rfl
    rw [z1] at q
    exact q
  show _ ∧ _
  rw [z1]
  exact ⟨⟨_, there, rfl⟩, h _ there (Heap.get?_push_of_some _ (Heap.get?_push_size _ B.free)) (by rw [Heap.size_push, z1]) fun b u x => Heap.get?_push_of_some _ (Heap.get?_push_of_some _ x)⟩
end
/-- the tuple at a, its items in new pairs with their numbers -/
def ItU (K : PySem.W.Frag) (a : Addr) : It where
  go := fun i H => ∃ (xs : List V) (x : V), SqT K H a xs ∧ xs[i]? = some x
  yld := fun i H v H' => ∃ T x, v = .ref T ∧ H T = none ∧ H' = upd H T (.tup [.int (i : Nat), x]) ∧ ∀ xs, SqT K H a xs → xs[i]? = some x
  stop := fun i H => ∃ xs : List V, SqT K H a xs ∧ xs.length ≤ i
theorem turn_enumU {P : Program} {w : World} {K : PySem.W.Frag} {elts : List Expr} {kk : Nat} {tpos : Pos} (a e it : Addr) :
    Turn P w K (.Tuple elts kk tpos) (ItU K a) [e, it] e (fun i h => (∃ old, IsEnum h e it ((i : Nat) : Int) old) ∧ h.IsTupleIter it a i ∧ e ≠ it ∧ a ≠ it ∧ a ≠ e) where
  mem := by simp
  obj := fun i h ⟨⟨old, he⟩, ⟨o, ho, hc, hd⟩, _⟩ b hb => by
    rcases List.mem_cons.mp hb with z | z
    · exact z ▸ ⟨_, he, fun v q => nomatch q⟩
    · rw [List.mem_singleton.mp z]
      exact ⟨o, ho, fun v q => by
        rw [hd] at q
        cases q⟩
  keep := fun i h h' ⟨⟨old, he⟩, hi, hne⟩ k => ⟨⟨old, k e (by simp) _ he⟩, hi.at fun o q => k it (by simp) o q, hne⟩
  item := by
    intro X hP hw hK hc i pins s σ H E I hf ⟨⟨old, he⟩, hit, hne, hai, hae⟩ ⟨xs, x, hq, hx⟩
    subst hP
    subst hw
    subst hK
    obtain ⟨its, rv, p, hz⟩ := I.tuple hq
    obtain ⟨u, hu, ru⟩ := rv.get hx
    have hel : e < s.heap.objs.size := Heap.lt_size he
    have hil : it < s.heap.objs.size := let ⟨_, q, _⟩ := hit; Heap.lt_size q
    have hlt : i < its.toArray.size := by
      rw [List.size_toArray]
      exact (List.getElem?_eq_some_iff.mp hu).1
    have D := Draws.tuple (prog := X.prog) (w := X.w) (A := X.A.in1) (I.ok.hd hc) it a hai its.toArray
    refine wpAny_pyNext_enum_itemD D he ⟨hit, p⟩ hlt hne (by simp [hne, Ne.symm hae]) fun y h' tk hy ho hst hT hsz hk => ?_
    obtain rfl : u = y := by
      have hy' : its[i]? = some y := by simpa using hy
      rw [hu] at hy'
      exact Option.some.inj hy'
    refine ⟨_, rfl, wpAny_letOwnedTupleGo_enum (s := { s with heap := h', toks := tk + 1 }) ho fun h2 he2 sb => ?_⟩
    have hT2 : h2.get? s.heap.objs.size = some { cls := .type "tuple", data := .seq #[.int i tk, u] } := (sb.2 _ (Nat.ne_of_gt hel)).trans hT
    have new : ObjOk X.prog X.w (upd H s.heap.objs.size (.tup [.int (i : Nat), x])) h2 s.heap.objs.size (.tup [.int (i : Nat), x]) :=
      ⟨by show 2 ≤ sizeLine; decide, [.int i tk, u], .cons ⟨_, rfl⟩ (.cons ru .nil), ⟨_, hT2, rfl, _, rfl⟩⟩
    have kept : ∀ b ob, b ∉ [e, it] → s.heap.get? b = some ob → h2.get? b = some ob := fun b ob hb q =>
      (sb.2 b fun z => hb (by simp [z])).trans (hk b ob (fun z => hb (by simp [z])) (fun z => hb (by simp [z])) q)
    have I1 : Inv X pins σ (upd H s.heap.objs.size (.tup [.int (i : Nat), x])) { s with heap := h2, toks := tk + 1 } := I.turnedNew (ch := [e, it]) kept hf (Nat.le_refl _) new
    have nxt : ((i + 1 : Nat) : Int) = (i : Int) + 1 := by omega
    refine ⟨.ref s.heap.objs.size, _, I1, rfl, ⟨_, x, rfl, I.hok.fresh (Nat.le_refl _), rfl, fun ys hy => by rw [I.tuple_inj hy hq]; exact hx⟩, ⟨⟨u, by rw [nxt]; exact he2⟩, hst.1.at fun o q => (sb.2 it (Ne.symm hne)).trans q, hne, hai, hae⟩, fun b hb => ?_⟩
    have hb' : b < s.heap.objs.size := by
      rcases List.mem_cons.mp hb with z | z
      · exact z ▸ hel
      · rw [List.mem_singleton.mp z]
        exact hil
    rw [upd_ne (Nat.ne_of_lt hb')]
    exact (hf b hb).1
  done := by
    intro X hP hw hK hc i pins s σ H E I hf ⟨⟨old, he⟩, hit, hne, hai, hae⟩ ⟨xs, hq, hx⟩
    subst hP
    subst hw
    subst hK
    obtain ⟨its, rv, p, hz⟩ := I.tuple hq
    obtain ⟨f0, f1, f2, f3, f4, f5⟩ := hf it (by simp)
    have hl := rv.length
    unfold pyNext
    refine wpAny_bind (wpAny_attempt (wpAny_callSpecial?_slot (name := Str.ofString "__next__") (show s.TypeIs (.ref e) "enumerate" from ⟨_, he, rfl⟩) F.slot_enumerate_next
      (wpAny_call_entry F.slot_enumerate_next (show s.TypeIs (.ref e) "enumerate" from ⟨_, he, rfl⟩) F.entry_enumerate_next ?_ (F.args_enumerate_next_1 _))))
    show wpAny _ _ (field (.ref e) 2 >>= _) _ _ _
    refine wpAny_bind (wpAny_field he rfl (x := .ref it) rfl ?_)
    refine wpAny_bind (wpAny_nextOf_tuple_end (I.ok.hd hc) hit p (by simp; omega) fun h' x eb hx' => ?_)
    obtain ⟨o, ho, hcl⟩ := hx'
    exact wpAny_bind (wpAny_isInstance (T := "StopIteration") (b := true) ⟨o, ho, hcl⟩ isSubtype_stop (wpAny_pure ⟨rfl, I.turned (t' := s.toks) (fun b u hb q => eb b u hb q) f0 f1 f3 f4 f5⟩))
  self := fun A i s Q E ⟨⟨_, he⟩, _⟩ h => wpAny_pyIter_enum he h
def iEnumT (K : PySem.W.Frag) (ta : TA) : TI := fun σ H R => ta σ H fun vs H1 => ∃ a xs, vs = [.ref a] ∧ SqT K H1 a xs ∧ R (ItU K a) H1
theorem pi_enumT {X : Cx} {e : Expr} {ta : TA} {p pos tpos : Pos} {elts : List Expr} {kk : Nat} (hg : Gl X "enumerate") (hm : X.mg "enumerate" = none) (ha : PA X [e] ta) (hs : starEach [e] X.env = [(false, eval e X.env)] := by rfl) :
    PI X (.Tuple elts kk tpos) (.Call (.Name "enumerate" p) [e] [] pos) (iEnumT X.K ta) := by
  refine ⟨fun pins s σ H R I h => ?_⟩
  refine Call_ (ld_blt I hg hm boot_enumerate (PyProof.Rows.callWith_type1 (thn (ha.run pos pins s σ H _ I h) fun us s1 ⟨vs, H1, I1, r1, a, xs, ex, hq, q⟩ => ?_) hs rfl))
  subst ex
  cases r1 with
  | cons r rr =>
    cases rr
    cases r
    obtain ⟨its, rv, pt, hz⟩ := I1.tuple hq
    have hal : a < s1.heap.objs.size := by
      obtain ⟨o, ho, _⟩ := pt
      exact Heap.lt_size ho
    refine call_enum1 (begins_tuple a its.toArray) pt fun h' he hit hsz hk => wpAny_pyIter_enum he ?_
    have I2 : Inv X pins σ H1 { s1 with heap := h' } := I1.kept (t' := s1.toks) hk
    have own : ∀ b ∈ [s1.heap.objs.size + 1, s1.heap.objs.size], s1.heap.objs.size ≤ b := fun b hb => by
      rcases List.mem_cons.mp hb with z | z
      · exact z ▸ Nat.le_add_right _ _
      · rw [List.mem_singleton.mp z]
        exact Nat.le_refl _
    exact ⟨s1.heap.objs.size + 1, [s1.heap.objs.size + 1, s1.heap.objs.size], _, _, H1, rfl, I2, turn_enumU a (s1.heap.objs.size + 1) s1.heap.objs.size,
      ⟨⟨.none, he⟩, ⟨_, hit, rfl, rfl⟩, Nat.succ_ne_self _, Nat.ne_of_lt hal, Nat.ne_of_lt (Nat.lt_succ_of_lt hal)⟩, fun b hb => I1.fpOk (own b hb) (I1.hok.fresh (own b hb)), q⟩
end Dn
set_option Elab.async false
set_option linter.all false
set_option maxRecDepth 100000
set_option maxHeartbeats 1000000
/-! Dn3: targets, statements, loops, comprehensions, functions. -/
noncomputable section
namespace Dn
open PySem PySem.Spec PyProof.Rows L2

/-! ### targets -/
inductive Tg where
  | nm (i : Nat) | tp (ts : List Tg)
mutual
def Tg.set : Tg → D → En → Option En
  | .nm i, d, δ => some (δ.set i (some d))
  | .tp ts, d, δ => match d with
    | .tup ds => Tg.setAll ts ds δ
    | _ => none
def Tg.setAll : List Tg → List D → En → Option En
  | [], [], δ => some δ
  | t :: ts, d :: ds, δ => match t.set d δ with
    | some δ' => Tg.setAll ts ds δ'
    | none => none
  | _, _, _ => none
end
mutual
def Tg.slots : Tg → List Nat
  | .nm i => [i]
  | .tp ts => Tg.slotsAll ts
def Tg.slotsAll : List Tg → List Nat
  | [] => []
  | t :: ts => t.slots ++ Tg.slotsAll ts
end
structure Off (vs : List Nat) (σ σ' : L2.St) : Prop where
  len : σ'.length = σ.length
  at' : ∀ i, i ∉ vs → σ'[i]? = σ[i]?
theorem Off.trans {vs ws us : List Nat} {σ σ1 σ2 : L2.St} (a : Off vs σ σ1) (b : Off ws σ1 σ2) (h1 : ∀ i ∈ vs, i ∈ us) (h2 : ∀ i ∈ ws, i ∈ us) : Off us σ σ2 :=
  ⟨b.len.trans a.len, fun i hi => (b.at' i fun z => hi (h2 i z)).trans (a.at' i fun z => hi (h1 i z))⟩
def gD (K : PySem.W.Frag) (g : Tg) : TG := fun v σ H Q => ∃ ρ δ d δ', EnvR K ρ H σ δ ∧ Dv K ρ H v d ∧ g.set d δ = some δ' ∧ ∀ σ', EnvR K ρ H σ' δ' → Off g.slots σ σ' → Q σ' H
def gsD (K : PySem.W.Frag) (gs : List Tg) : TGs := fun vs σ H Q => ∃ ρ δ ds δ', EnvR K ρ H σ δ ∧ DvAll K ρ H vs ds ∧ Tg.setAll gs ds δ = some δ' ∧ ∀ σ', EnvR K ρ H σ' δ' → Off (Tg.slotsAll gs) σ σ' → Q σ' H
theorem pg_imp {X : Cx} {e : Expr} {t t' : TG} (h : PG X e t) (i : ∀ v σ H Q, t' v σ H Q → t v σ H Q) : PG X e t' := by
  obtain ⟨h1⟩ := h
  exact ⟨by intros; apply h1 <;> first | assumption | (apply i; assumption)⟩
theorem pgs_imp {X : Cx} {e : List Expr} {t t' : TGs} (h : PGs X e t) (i : ∀ v σ H Q, t' v σ H Q → t v σ H Q) : PGs X e t' := by
  obtain ⟨h1⟩ := h
  exact ⟨by intros; apply h1 <;> first | assumption | (apply i; assumption)⟩

section
variable {X : Cx} {pos : Pos}
theorem sg_name {i : Nat} {x : Str} (hN : X.N.Nodup) (hi : X.N[i]? = some x) (hx : Loc X.env.scope x) (hf : X.fn x = true ∨ X.env.scope.names.lookup x = some .local := by first | exact .inl rfl | exact .inr rfl | assumption) : PG X (.Name x pos) (gD X.K (.nm i)) :=
  pg_imp (pg_name hN hi hx hf) fun v σ H Q ⟨ρ, δ, d, δ', N, r, e, k⟩ => by
    cases e
    refine k _ (N.set i r) ⟨List.length_set, fun j hj => ?_⟩
    exact List.getElem?_set_ne fun z => hj (by rw [z]; exact List.mem_singleton.mpr rfl)
theorem sgs_nil : PGs X [] (gsD X.K []) :=
  pgs_imp pgs_nil fun vs σ H Q ⟨ρ, δ, ds, δ', N, r, e, k⟩ => by
    cases r with
    | nil =>
      cases e
      exact ⟨rfl, k σ N ⟨rfl, fun _ _ => rfl⟩⟩
    | cons a b => cases e
theorem sgs_cons {e : Expr} {es : List Expr} {g : Tg} {gs : List Tg} (h1 : PG X e (gD X.K g)) (h2 : PGs X es (gsD X.K gs))
    (hs : (assignEach (e :: es) X.env).map (·.2) = assign e X.env :: (assignEach es X.env).map (·.2) := by rfl) : PGs X (e :: es) (gsD X.K (g :: gs)) :=
  pgs_imp (pgs_cons h1 h2 hs) fun vs σ H Q ⟨ρ, δ, ds, δ', N, r, e, k⟩ => by
    cases r with
    | nil => cases e
    | cons a b =>
      unfold Tg.setAll at e
      split at e
      · rename_i δ1 h
        refine ⟨_, _, rfl, ρ, δ, _, δ1, N, a, h, fun σ1 N1 o1 => ⟨ρ, δ1, _, δ', N1, b, e, fun σ2 N2 o2 => k σ2 N2 (o1.trans o2 ?_ ?_)⟩⟩
        · intro i hi
          exact List.mem_append_left _ hi
        · intro i hi
          exact List.mem_append_right _ hi
      · cases e
theorem sg_tup {es : List Expr} {k : Nat} {gs : List Tg} (hc : X.calm = true) (h : PGs X es (gsD X.K gs)) (hl : gs.length = es.length := by rfl)
    (hn : (assignEach es X.env).length = es.length := by rfl) (hst : (assignEach es X.env).findIdx? (·.1) = none := by rfl) : PG X (.Tuple es k pos) (gD X.K (.tp gs)) :=
  pg_imp (pg_tup hc h hn hst) fun v σ H Q ⟨ρ, δ, d, δ', N, r, e, k⟩ => by
    unfold Tg.set at e
    split at e
    · rename_i ds
      obtain ⟨a, xs, rfl, sq, vs⟩ := r.tupI
      have len : ∀ (gs : List Tg) (ds : List D) (δ δ' : En), Tg.setAll gs ds δ = some δ' → ds.length = gs.length := by
        intro gs
        induction gs with
        | nil =>
          intro ds δ δ' e
          cases ds with
          | nil => rfl
          | cons a b => cases e
        | cons g gs ih =>
          intro ds δ δ' e
          cases ds with
          | nil => cases e
          | cons a b =>
            unfold Tg.setAll at e
            split at e
            · exact congrArg Nat.succ (ih b _ _ e)
            · cases e
      refine ⟨a, xs, rfl, sq, ?_, ρ, δ, ds, δ', N, vs, e, k⟩
      rw [vs.length, len gs ds δ δ' e, hl]
    · cases e
end

/-! ### how statements end -/
def PostS (W : Wt) (ρ : List Addr) (H : Hp) (o : Out) (D : Ends) : Prop := match o with
  | .nx δ S => ∀ ρ' H' σ', Ext ρ H ρ' H' → Rep W.K ρ' H' S → EnvR W.K ρ' H' σ' δ → D.nx σ' H'
  | .bk δ S => ∀ ρ' H' σ', Ext ρ H ρ' H' → Rep W.K ρ' H' S → EnvR W.K ρ' H' σ' δ → D.bk σ' H'
  | .ct δ S => ∀ ρ' H' σ', Ext ρ H ρ' H' → Rep W.K ρ' H' S → EnvR W.K ρ' H' σ' δ → D.ct σ' H'
  | .rt d S => ∀ ρ' H' v, Ext ρ H ρ' H' → Rep W.K ρ' H' S → Dv W.K ρ' H' v d → D.rt v H'
  | .exc c S => ∀ ρ' H', Ext ρ H ρ' H' → Rep W.K ρ' H' S → W.E (W.cl c) none H'
  | .bad => False
theorem PostS.base {W : Wt} {ρ ρ' : List Addr} {H H' : Hp} {o : Out} {D : Ends} (e : Ext ρ H ρ' H') (h : PostS W ρ H o D) : PostS W ρ' H' o D := by
  cases o with
  | nx δ S => exact fun ρ2 H2 σ2 e2 => h ρ2 H2 σ2 (e.trans e2)
  | bk δ S => exact fun ρ2 H2 σ2 e2 => h ρ2 H2 σ2 (e.trans e2)
  | ct δ S => exact fun ρ2 H2 σ2 e2 => h ρ2 H2 σ2 (e.trans e2)
  | rt d S => exact fun ρ2 H2 v e2 => h ρ2 H2 v (e.trans e2)
  | exc c S => exact fun ρ2 H2 e2 => h ρ2 H2 (e.trans e2)
  | bad => exact h
/-- a statement's reading -/
def tS (W : Wt) (ds : DS) : TS := fun D σ H => ∃ ρ δ S, Rep W.K ρ H S ∧ EnvR W.K ρ H σ δ ∧ PostS W ρ H (ds δ S) D
abbrev SS (X : Cx) (W : Wt) (st : Stmt) (ds : DS) : Prop := PS X st (tS W ds)
abbrev SB (X : Cx) (W : Wt) (st : List Stmt) (ds : DS) : Prop := PSs X st (tS W ds)
theorem ps_imp {X : Cx} {st : Stmt} {t t' : TS} (h : PS X st t) (i : ∀ D σ H, t' D σ H → t D σ H) : PS X st t' := ⟨fun pins s σ H D I q => h.run pins s σ H D I (i D σ H q)⟩
theorem pss_imp {X : Cx} {st : List Stmt} {t t' : TS} (h : PSs X st t) (i : ∀ D σ H, t' D σ H → t D σ H) : PSs X st t' := ⟨fun pins s σ H D I q => h.run pins s σ H D I (i D σ H q)⟩
def andThen (o : Out) (k : DS) : Out := match o with
  | .nx δ S => k δ S
  | .bk δ S => .bk δ S
  | .ct δ S => .ct δ S
  | .rt d S => .rt d S
  | .exc c S => .exc c S
  | .bad => .bad
def dSkip : DS := fun δ S => .nx δ S
def dSeq (a b : DS) : DS := fun δ S => andThen (a δ S) b
/-- a result, then a statement -/
def thenS {α : Type} (r : Res α) (k : α → Sto → Out) : Out := match r with
  | .ok a S => k a S
  | .exc c S => .exc c S
  | .bad => .bad
def dDrop (e : DE) : DS := fun δ S => thenS (e δ S) fun _ S1 => .nx δ S1
def dRet (e : DE) : DS := fun δ S => thenS (e δ S) fun d S1 => .rt d S1
def dRetN : DS := fun _ S => .rt .non S
def dIfS (c : DT) (a b : DS) : DS := fun δ S => thenS (c δ S) fun k S1 => if k = true then a δ S1 else b δ S1
def dSet (i : Nat) (e : DE) : DS := fun δ S => thenS (e δ S) fun d S1 => .nx (δ.set i (some d)) S1
def dAsg (g : Tg) (e : DE) : DS := fun δ S => thenS (e δ S) fun d S1 => match g.set d δ with
  | some δ' => .nx δ' S1
  | none => .bad
def dBrk : DS := fun δ S => .bk δ S
def dCont : DS := fun δ S => .ct δ S
theorem PostS.res {α β : Type} {W : Wt} {Rl : List Addr → Hp → β → α → Prop} {ρ : List Addr} {H : Hp} {r : Res α} {k : α → Sto → Out} {D : Ends} {Q : β → Hp → Prop} (h : PostS W ρ H (thenS r k) D)
    (q : ∀ ρ1 H1 v d S1, Ext ρ H ρ1 H1 → Rep W.K ρ1 H1 S1 → Rl ρ1 H1 v d → PostS W ρ1 H1 (k d S1) D → Q v H1) : Post W Rl ρ H r Q := by
  cases r with
  | ok d S => exact fun ρ1 H1 v e R r => q ρ1 H1 v d S e R r (PostS.base e h)
  | exc c S => exact h
  | bad => exact h
section
variable {X : Cx} {W : Wt} {st : Stmt} {rest : List Stmt} {e : Expr} {pos : Pos} {a b : DS} {de : DE}
theorem sb_nil : SB X W [] dSkip := pss_imp pss_nil fun D σ H ⟨ρ, δ, S, R, N, P⟩ => P ρ H σ (Ext.refl ρ H) R N
theorem sb_cons (h1 : SS X W st a) (h2 : SB X W rest b) : SB X W (st :: rest) (dSeq a b) := pss_imp (pss_cons h1 h2) fun D σ H ⟨ρ, δ, S, R, N, P⟩ => by
  refine ⟨ρ, δ, S, R, N, ?_⟩
  unfold dSeq at P
  cases q : a δ S with
  | nx δ1 S1 =>
    rw [q] at P
    exact fun ρ1 H1 σ1 e1 R1 N1 => ⟨ρ1, δ1, S1, R1, N1, PostS.base e1 P⟩
  | bk δ1 S1 => rw [q] at P; exact P
  | ct δ1 S1 => rw [q] at P; exact P
  | rt δ1 S1 => rw [q] at P; exact P
  | exc δ1 S1 => rw [q] at P; exact P
  | bad => rw [q] at P; exact P
theorem sb_one (h1 : SS X W st a) : SB X W [st] a := pss_one h1
theorem ss_pass : SS X W (.Pass pos) dSkip := ps_imp ps_pass fun D σ H ⟨ρ, δ, S, R, N, P⟩ => P ρ H σ (Ext.refl ρ H) R N
theorem ss_break : SS X W (.Break pos) dBrk := ps_imp ps_break fun D σ H ⟨ρ, δ, S, R, N, P⟩ => P ρ H σ (Ext.refl ρ H) R N
theorem ss_continue : SS X W (.Continue pos) dCont := ps_imp ps_continue fun D σ H ⟨ρ, δ, S, R, N, P⟩ => P ρ H σ (Ext.refl ρ H) R N
theorem ss_expr (he : SE X W e de) (hs : swapsWith e none pos.line X.env = pure false := by rfl) : SS X W (.Expr e pos) (dDrop de) := ps_imp (ps_expr he hs) fun D σ H ⟨ρ, δ, S, R, N, P⟩ =>
  ⟨ρ, δ, S, R, N, PostS.res P fun ρ1 H1 v d S1 e1 R1 r1 P1 => P1 ρ1 H1 σ (Ext.refl ρ1 H1) R1 (N.mono e1)⟩
theorem ss_ret (he : SE X W e de) : SS X W (.Return (some e) pos) (dRet de) := ps_imp (ps_ret he) fun D σ H ⟨ρ, δ, S, R, N, P⟩ =>
  ⟨ρ, δ, S, R, N, PostS.res P fun ρ1 H1 v d S1 e1 R1 r1 P1 => P1 ρ1 H1 v (Ext.refl ρ1 H1) R1 r1⟩
theorem ss_retN : SS X W (.Return none pos) dRetN := ps_imp ps_retN fun D σ H ⟨ρ, δ, S, R, N, P⟩ => P ρ H .non (Ext.refl ρ H) R .non
theorem ss_if {c : Expr} {as bs : List Stmt} {dt : DT} (hc : ST X W c dt) (ha : SB X W as a) (hb : SB X W bs b) : SS X W (.If c as bs pos) (dIfS dt a b) := ps_imp (ps_if hc ha hb) fun D σ H ⟨ρ, δ, S, R, N, P⟩ =>
  ⟨ρ, δ, S, R, N, PostS.res P fun ρ1 H1 v d S1 e1 R1 r1 P1 => by
    have r1' : v = d := r1
    subst r1'
    cases v with
    | true =>
      show tS W a D σ H1
      exact ⟨ρ1, δ, S1, R1, N.mono e1, P1⟩
    | false =>
      show tS W b D σ H1
      exact ⟨ρ1, δ, S1, R1, N.mono e1, P1⟩⟩
theorem tSet_of {i : Nat} {D : Ends} {σ : L2.St} {H : Hp} (h : tS W (dSet i de) D σ H) : tAsg (tE W de) (gName i) D σ H := by
  obtain ⟨ρ, δ, S, R, N, P⟩ := h
  exact ⟨ρ, δ, S, R, N, PostS.res P fun ρ1 H1 v d S1 e1 R1 r1 P1 => P1 ρ1 H1 _ (Ext.refl ρ1 H1) R1 ((N.mono e1).set i r1)⟩
theorem ss_set {i : Nat} {x : Str} {pos' : Pos} (hN : X.N.Nodup) (hi : X.N[i]? = some x) (hx : Loc X.env.scope x) (he : SE X W e de) (hs : swapsWith e (some (.Name x pos')) pos.line X.env = pure false := by rfl)
    (hf : X.fn x = true ∨ X.env.scope.names.lookup x = some .local := by first | exact .inl rfl | exact .inr rfl | assumption) : SS X W (.Assign [.Name x pos'] e pos) (dSet i de) := ps_imp (ps_set hN hi hx he hs hf) fun D σ H h => tSet_of h
theorem ss_asg {tg : Expr} {g : Tg} (he : SE X W e de) (hg : PG X tg (gD X.K g)) (hW : W.K = X.K := by rfl) (hs : swapsWithSole [tg] e pos.line X.env = pure false := by rfl) (hw : swappedStores [tg] e X.env = pure none := by rfl)
    (h1 : (assignEach [tg] X.env).map (·.2) = [assign tg X.env] := by rfl) : SS X W (.Assign [tg] e pos) (dAsg g de) := ps_imp (ps_asg he hg hs hw h1) fun D σ H ⟨ρ, δ, S, R, N, P⟩ =>
  ⟨ρ, δ, S, R, N, PostS.res P fun ρ1 H1 v d S1 e1 R1 r1 P1 => by
    split at P1
    · rename_i δ' hδ
      rw [← hW]
      exact ⟨ρ1, δ, d, δ', N.mono e1, r1, hδ, fun σ' N' o' => P1 ρ1 H1 σ' (Ext.refl ρ1 H1) R1 N'⟩
    · exact P1.elim⟩
end
/-- a, b = e, f without a tuple; a, b, c = e, f, g -/
def dPar (is : List Nat) (as : DA) : DS := fun δ S => thenS (as δ S) fun ds S1 => match Tg.setAll (is.map .nm) ds δ with
  | some δ' => .nx δ' S1
  | none => .bad
section
variable {X : Cx} {W : Wt} {da : DA} {pos : Pos}
theorem ss_par {i j : Nat} {x y : Str} {a b : Expr} {px py pt : Pos} {kt k2 pt2} (hc : X.calm = true) (hN : X.N.Nodup) (hi : X.N[i]? = some x) (hj : X.N[j]? = some y) (hij : i ≠ j)
    (hx : X.env.scope.names.lookup x = some .local) (hy : X.env.scope.names.lookup y = some .local) (ha : SA X W [a, b] da)
    (hw : swappedStores [.Tuple [.Name x px, .Name y py] kt pt] (.Tuple [a, b] k2 pt2) X.env = pure (some [x, y]))
    (hs : swapsWithSole [.Tuple [.Name x px, .Name y py] kt pt] (.Tuple [a, b] k2 pt2) pos.line X.env = pure false := by rfl) :
    SS X W (.Assign [.Tuple [.Name x px, .Name y py] kt pt] (.Tuple [a, b] k2 pt2) pos) (dPar [i, j] da) := ps_imp (ps_par hc hN hi hj hij hx hy ha hw hs) fun D σ H ⟨ρ, δ, S, R, N, P⟩ =>
  ⟨ρ, δ, S, R, N, PostS.res P fun ρ1 H1 v d S1 e1 R1 r1 P1 => by
    cases r1 with
    | nil => exact P1.elim
    | cons r1 r2 =>
      cases r2 with
      | nil => exact P1.elim
      | cons r2 r3 =>
        cases r3 with
        | cons _ _ => exact P1.elim
        | nil => exact ⟨_, _, rfl, P1 ρ1 H1 _ (Ext.refl ρ1 H1) R1 (((N.mono e1).set i r1).set j r2)⟩⟩
theorem ss_par3 {i j l : Nat} {x y z : Str} {a b c : Expr} {px py pz pt : Pos} {kt k2 pt2} (hc : X.calm = true) (hN : X.N.Nodup) (hi : X.N[i]? = some x) (hj : X.N[j]? = some y) (hl : X.N[l]? = some z) (hij : i ≠ j) (hil : i ≠ l) (hjl : j ≠ l)
    (hx : X.env.scope.names.lookup x = some .local) (hy : X.env.scope.names.lookup y = some .local) (hz : X.env.scope.names.lookup z = some .local) (ha : SA X W [a, b, c] da)
    (hw : swappedStores [.Tuple [.Name x px, .Name y py, .Name z pz] kt pt] (.Tuple [a, b, c] k2 pt2) X.env = pure (some [x, y, z]))
    (hs : swapsWithSole [.Tuple [.Name x px, .Name y py, .Name z pz] kt pt] (.Tuple [a, b, c] k2 pt2) pos.line X.env = pure false := by rfl) :
    SS X W (.Assign [.Tuple [.Name x px, .Name y py, .Name z pz] kt pt] (.Tuple [a, b, c] k2 pt2) pos) (dPar [i, j, l] da) := ps_imp (ps_par3 hc hN hi hj hl hij hil hjl hx hy hz ha hw hs) fun D σ H ⟨ρ, δ, S, R, N, P⟩ =>
  ⟨ρ, δ, S, R, N, PostS.res P fun ρ1 H1 v d S1 e1 R1 r1 P1 => by
    cases r1 with
    | nil => exact P1.elim
    | cons r1 r2 =>
      cases r2 with
      | nil => exact P1.elim
      | cons r2 r3 =>
        cases r3 with
        | nil => exact P1.elim
        | cons r3 r4 =>
          cases r4 with
          | cons _ _ => exact P1.elim
          | nil => exact ⟨_, _, _, rfl, P1 ρ1 H1 _ (Ext.refl ρ1 H1) R1 ((((N.mono e1).set i r1).set j r2).set l r3)⟩⟩
end

/-! ### what is walked -/
inductive Src where
  | seq (d : D) | rng (lo hi : Int) | en (d : D) | zp (d e : D) | rv (d : D) (n : Nat)
def Src.len (S : Sto) : Src → Option Nat
  | .seq d => (items S d).map List.length
  | .rng lo hi => some (hi - lo).toNat
  | .en d => (items S d).map List.length
  | .zp d e => (items S d).bind fun xs => (items S e).map fun ys => min xs.length ys.length
  | .rv d n => (items S d).bind fun xs => if xs.length = n then some n else none
def Src.item (S : Sto) (i : Nat) : Src → Option D
  | .seq d => (items S d).bind (·[i]?)
  | .rng lo hi => if i < (hi - lo).toNat then some (.int (lo + i)) else none
  | .en d => (items S d).bind fun xs => xs[i]?.map fun x => .tup [.int i, x]
  | .zp d e => (items S d).bind fun xs => (items S e).bind fun ys => xs[i]?.bind fun x => ys[i]?.map fun y => .tup [x, y]
  | .rv d n => (items S d).bind fun xs => xs[n - 1 - i]?
/-- the walk is that of the source, from here on -/
def SrcR (K : PySem.W.Frag) (ρ0 : List Addr) (H0 : Hp) (J : It) (s : Src) : Prop := ∀ ρ H S, Ext ρ0 H0 ρ H → Rep K ρ H S → ∀ n, s.len S = some n →
  (∀ i, i < n → J.go i H) ∧ (∀ i, n ≤ i → J.stop i H) ∧ ∀ i x H', i < n → J.yld i H x H' → ∃ d, s.item S i = some d ∧ Ext ρ H ρ H' ∧ Rep K ρ H' S ∧ Dv K ρ H' x d
abbrev DSrc := En → Sto → Res Src
def tSrc (W : Wt) (ds : DSrc) : TI := tG W (fun ρ H J s => SrcR W.K ρ H J s) ds
theorem pi_imp {X : Cx} {tg iter : Expr} {t t' : TI} (h : PI X tg iter t) (i : ∀ σ H R, t' σ H R → t σ H R) : PI X tg iter t' := ⟨fun pins s σ H R I q => h.run pins s σ H R I (i σ H R q)⟩
def isL (S : Sto) : D → Bool
  | .ro _ => true
  | .cell n => match S[n]? with
    | some (.lst _) => true
    | _ => false
  | _ => false
def isT : D → Bool
  | .tup _ => true
  | _ => false
def srcL (a : DE) : DSrc := fun δ S => (a δ S).bnd fun d S1 => if isL S1 d = true then .ok (.seq d) S1 else .bad
def srcT (a : DE) : DSrc := fun δ S => (a δ S).bnd fun d S1 => if isT d = true then .ok (.seq d) S1 else .bad
def enL (a : DA) : DSrc := fun δ S => (a δ S).bnd fun ds S1 => match ds with
  | [d] => if isL S1 d = true then .ok (.en d) S1 else .bad
  | _ => .bad
def enT (a : DA) : DSrc := fun δ S => (a δ S).bnd fun ds S1 => match ds with
  | [d] => if isT d = true then .ok (.en d) S1 else .bad
  | _ => .bad
def inRng (i : Int) : Bool := decide (-M62 ≤ i ∧ i < M62)
theorem inRng_bd {i : Int} (h : inRng i = true) : -(2 ^ 62) ≤ i ∧ i < 2 ^ 62 := by
  have h2 := of_decide_eq_true (p := -M62 ≤ i ∧ i < M62) h
  rw [M62_eq] at h2
  exact h2
def rng1 (a : DA) : DSrc := fun δ S => (a δ S).bnd fun ds S1 => match ds with
  | [.int j] => if inRng j = true then .ok (.rng 0 j) S1 else .bad
  | _ => .bad
def rng2 (a : DA) : DSrc := fun δ S => (a δ S).bnd fun ds S1 => match ds with
  | [.int i, .int j] => if (inRng i && inRng j) = true then .ok (.rng i j) S1 else .bad
  | _ => .bad
section
variable {K : PySem.W.Frag} {ρ : List Addr} {H : Hp} {S : Sto}
theorem isL_items {d : D} (h : isL S d = true) : ∃ ds, items S d = some ds := by
  unfold isL at h
  unfold items
  split at h
  · exact ⟨_, rfl⟩
  · dsimp only
    split at h
    · rename_i ds e
      exact ⟨ds, by first | rfl | rw [e]⟩
    · cases h
  · cases h
/-- a list value reads as a list, now and later -/
theorem Dv.listI (R : Rep K ρ H S) {v : V} {d : D} {ds : List D} (h : Dv K ρ H v d) (hl : isT d = false) (hi : items S d = some ds) : ∃ a xs, v = .ref a ∧ SqL K H a xs ∧ DvAll K ρ H xs ds := by
  cases h with
  | tup a b => cases hl
  | ro a f b => cases hi; exact ⟨_, _, rfl, a, b⟩
  | cell q =>
    obtain ⟨xs, h1, h2⟩ := R.lst q (items_cell hi)
    exact ⟨_, xs, rfl, SqL.of h1, h2⟩
  | _ => cases hi
theorem isL_not {d : D} (h : isL S d = true) : isT d = false := by
  cases d <;> first | rfl | cases h
theorem src_list {v : V} {d : D} {a : Addr} (hv : v = .ref a) (r : Dv K ρ H v d) (hl : isT d = false) : SrcR K ρ H (Itl K a) (.seq d) := fun ρ1 H1 S1 e R n hn => by
  obtain ⟨ds, hi, rfl⟩ := Option.map_eq_some_iff.mp (show (items S1 d).map List.length = some n from hn)
  obtain ⟨b, xs, hb, sq, vs⟩ := (r.mono e).listI R hl hi
  rw [hv] at hb
  cases hb
  refine ⟨fun i hi2 => ⟨xs, xs[i]'(by rw [vs.length]; exact hi2), sq, List.getElem?_eq_getElem _⟩, fun i hi2 => ⟨xs, sq, by rw [vs.length]; exact hi2⟩, fun i x H' hi2 y => ?_⟩
  obtain ⟨hH, hx⟩ := y
  obtain ⟨d', q1, q2⟩ := vs.getV (hx xs sq)
  refine ⟨d', ?_, by rw [hH]; exact Ext.refl _ _, by rw [hH]; exact R, by rw [hH]; exact q2⟩
  show (items S1 d).bind _ = _
  rw [hi]
  exact q1
theorem src_tup {v : V} {d : D} {a : Addr} (hv : v = .ref a) (r : Dv K ρ H v d) (hl : isT d = true) : SrcR K ρ H (Itt K a) (.seq d) := fun ρ1 H1 S1 e R n hn => by
  cases d with
  | tup ds =>
    obtain ⟨b, xs, hb, sq, vs⟩ := (r.mono e).tupI
    rw [hv] at hb
    cases hb
    have hn' : ds.length = n := Option.some.inj hn
    subst hn'
    refine ⟨fun i hi2 => ⟨xs, xs[i]'(by rw [vs.length]; exact hi2), sq, List.getElem?_eq_getElem _⟩, fun i hi2 => ⟨xs, sq, by rw [vs.length]; exact hi2⟩, fun i x H' hi2 y => ?_⟩
    obtain ⟨hH, hx⟩ := y
    obtain ⟨d', q1, q2⟩ := vs.getV (hx xs sq)
    exact ⟨d', q1, by rw [hH]; exact Ext.refl _ _, by rw [hH]; exact R, by rw [hH]; exact q2⟩
  | _ => cases hl
theorem pairD {R : Rep K ρ H S} {T : Addr} {i : Nat} {x : V} {d : D} (hT : H T = none) (r : Dv K ρ H x d) : Ext ρ H ρ (upd H T (.tup [.int i, x])) ∧ Rep K ρ (upd H T (.tup [.int i, x])) S ∧ Dv K ρ (upd H T (.tup [.int i, x])) (.ref T) (.tup [.int i, d]) :=
  ⟨Ext.new hT, R.new hT, .tup (.inl (.inl upd_same)) (.cons (.int _) (.cons (r.mono (Ext.new hT)) .nil))⟩
theorem src_enL {v : V} {d : D} {a : Addr} (hv : v = .ref a) (r : Dv K ρ H v d) (hl : isT d = false) : SrcR K ρ H (Ite K a) (.en d) := fun ρ1 H1 S1 e R n hn => by
  obtain ⟨ds, hi, rfl⟩ := Option.map_eq_some_iff.mp (show (items S1 d).map List.length = some n from hn)
  obtain ⟨b, xs, hb, sq, vs⟩ := (r.mono e).listI R hl hi
  rw [hv] at hb
  cases hb
  refine ⟨fun i hi2 => ⟨xs, xs[i]'(by rw [vs.length]; exact hi2), sq, List.getElem?_eq_getElem _⟩, fun i hi2 => ⟨xs, sq, by rw [vs.length]; exact hi2⟩, fun i x H' hi2 y => ?_⟩
  obtain ⟨T, z, rfl, hT, rfl, hx⟩ := y
  obtain ⟨d', q1, q2⟩ := vs.getV (hx xs sq)
  obtain ⟨k1, k2, k3⟩ := pairD (R := R) (i := i) hT q2
  refine ⟨.tup [.int i, d'], ?_, k1, k2, k3⟩
  show (items S1 d).bind _ = _
  rw [hi]
  show ds[i]?.map _ = _
  rw [q1]
  rfl
theorem src_enT {v : V} {d : D} {a : Addr} (hv : v = .ref a) (r : Dv K ρ H v d) (hl : isT d = true) : SrcR K ρ H (ItU K a) (.en d) := fun ρ1 H1 S1 e R n hn => by
  cases d with
  | tup ds =>
    obtain ⟨b, xs, hb, sq, vs⟩ := (r.mono e).tupI
    rw [hv] at hb
    cases hb
    have hn' : ds.length = n := Option.some.inj hn
    subst hn'
    refine ⟨fun i hi2 => ⟨xs, xs[i]'(by rw [vs.length]; exact hi2), sq, List.getElem?_eq_getElem _⟩, fun i hi2 => ⟨xs, sq, by rw [vs.length]; exact hi2⟩, fun i x H' hi2 y => ?_⟩
    obtain ⟨T, z, rfl, hT, rfl, hx⟩ := y
    obtain ⟨d', q1, q2⟩ := vs.getV (hx xs sq)
    obtain ⟨k1, k2, k3⟩ := pairD (R := R) (i := i) hT q2
    refine ⟨.tup [.int i, d'], ?_, k1, k2, k3⟩
    show ds[i]?.map _ = _
    rw [q1]
    rfl
  | _ => cases hl
theorem src_rng (lo hi : Int) : SrcR K ρ H (Itr lo (hi - lo).toNat) (.rng lo hi) := fun ρ1 H1 S1 e R n hn => by
  have hn' : (hi - lo).toNat = n := Option.some.inj hn
  subst hn'
  refine ⟨fun i h => h, fun i h => h, fun i x H' h y => ?_⟩
  obtain ⟨hH, hx⟩ := y
  refine ⟨.int (lo + i), if_pos h, by rw [hH]; exact Ext.refl _ _, by rw [hH]; exact R, by rw [hx]; exact .int _⟩
end
section
variable {X : Cx} {cl : Str → Value} {E : XK} {tg e : Expr} {de : DE} {da : DA} {p pos tpos : Pos}
theorem so_list (h : SE X (wt X cl E) e de) : PI X tg e (tSrc (wt X cl E) (srcL de)) := pi_imp (pi_list h) fun σ H R h => tG.step h fun ρ δ ρ1 S1 H1 v d N e R1 r P => by
  split at P
  · rename_i hl
    obtain ⟨ds, hi⟩ := isL_items hl
    obtain ⟨a, xs, rfl, sq, vs⟩ := r.listI R1 (isL_not hl) hi
    exact ⟨a, rfl, ⟨xs, sq⟩, Post.now (Rl := fun ρ H J s => SrcR X.K ρ H J s) P R1 (src_list rfl r (isL_not hl))⟩
  · exact P.elim
theorem so_tup (h : SE X (wt X cl E) e de) : PI X tg e (tSrc (wt X cl E) (srcT de)) := pi_imp (pi_tup h) fun σ H R h => tG.step h fun ρ δ ρ1 S1 H1 v d N e R1 r P => by
  split at P
  · rename_i hl
    cases d with
    | tup ds =>
      obtain ⟨a, xs, rfl, sq, vs⟩ := r.tupI
      exact ⟨a, rfl, ⟨xs, sq⟩, Post.now (Rl := fun ρ H J s => SrcR X.K ρ H J s) P R1 (src_tup rfl r hl)⟩
    | _ => cases hl
  · exact P.elim
theorem one_of {K : PySem.W.Frag} {ρ : List Addr} {H : Hp} {vs : List V} {d : D} (h : DvAll K ρ H vs [d]) : ∃ v, vs = [v] ∧ Dv K ρ H v d := by
  cases h with
  | cons a b =>
    cases b
    exact ⟨_, rfl, a⟩
theorem two_of {K : PySem.W.Frag} {ρ : List Addr} {H : Hp} {vs : List V} {d d' : D} (h : DvAll K ρ H vs [d, d']) : ∃ v w, vs = [v, w] ∧ Dv K ρ H v d ∧ Dv K ρ H w d' := by
  cases h with
  | cons a b =>
    obtain ⟨w, rfl, c⟩ := one_of b
    exact ⟨_, w, rfl, a, c⟩
theorem so_enumL {elts : List Expr} {kk : Nat} (hg : Gl X "enumerate") (hm : X.mg "enumerate" = none) (ha : SA X (wt X cl E) [e] da) (hs : starEach [e] X.env = [(false, eval e X.env)] := by rfl) :
    PI X (.Tuple elts kk tpos) (.Call (.Name "enumerate" p) [e] [] pos) (tSrc (wt X cl E) (enL da)) := pi_imp (pi_enum hg hm ha hs) fun σ H R h => tG.step h fun ρ δ ρ1 S1 H1 v d N e R1 r P => by
  split at P
  · split at P
    · rename_i d hl
      obtain ⟨w, rfl, r3⟩ := one_of r
      obtain ⟨ds, hi⟩ := isL_items hl
      obtain ⟨a, xs, rfl, sq, vs⟩ := r3.listI R1 (isL_not hl) hi
      exact ⟨a, xs, rfl, sq, Post.now (Rl := fun ρ H J s => SrcR X.K ρ H J s) P R1 (src_enL rfl r3 (isL_not hl))⟩
    · exact P.elim
  · exact P.elim
theorem so_enumT {elts : List Expr} {kk : Nat} (hg : Gl X "enumerate") (hm : X.mg "enumerate" = none) (ha : SA X (wt X cl E) [e] da) (hs : starEach [e] X.env = [(false, eval e X.env)] := by rfl) :
    PI X (.Tuple elts kk tpos) (.Call (.Name "enumerate" p) [e] [] pos) (tSrc (wt X cl E) (enT da)) := pi_imp (pi_enumT hg hm ha hs) fun σ H R h => tG.step h fun ρ δ ρ1 S1 H1 v d N e R1 r P => by
  split at P
  · split at P
    · rename_i d hl
      obtain ⟨w, rfl, r3⟩ := one_of r
      cases d with
      | tup ds =>
        obtain ⟨a, xs, rfl, sq, vs⟩ := r3.tupI
        exact ⟨a, xs, rfl, sq, Post.now (Rl := fun ρ H J s => SrcR X.K ρ H J s) P R1 (src_enT rfl r3 hl)⟩
      | _ => cases hl
    · exact P.elim
  · exact P.elim
theorem so_range1 (hg : Gl X "range") (hm : X.mg "range" = none) (ha : SA X (wt X cl E) [e] da) (hs : starEach [e] X.env = [(false, eval e X.env)] := by rfl) : PI X tg (.Call (.Name "range" p) [e] [] pos) (tSrc (wt X cl E) (rng1 da)) :=
  pi_imp (pi_range1 hg hm ha hs) fun σ H R h => tG.step h fun ρ δ ρ1 S1 H1 v d N e R1 r P => by
    split at P
    · rename_i j
      split at P
      · rename_i hl
        obtain ⟨w, rfl, r3⟩ := one_of r
        have b := inRng_bd hl
        refine ⟨j, by rw [r3.intI], b.1, b.2, Post.now (Rl := fun ρ H J s => SrcR X.K ρ H J s) P R1 ?_⟩
        have q := src_rng (K := X.K) (ρ := ρ1) (H := H1) 0 j
        rw [show (j - 0).toNat = j.toNat by rw [Int.sub_zero]] at q
        exact q
      · exact P.elim
    · exact P.elim
theorem so_range2 {f : Expr} (hg : Gl X "range") (hm : X.mg "range" = none) (ha : SA X (wt X cl E) [e, f] da) (hs : starEach [e, f] X.env = [(false, eval e X.env), (false, eval f X.env)] := by rfl) (hs2 : starEach [f] X.env = [(false, eval f X.env)] := by rfl) :
    PI X tg (.Call (.Name "range" p) [e, f] [] pos) (tSrc (wt X cl E) (rng2 da)) :=
  pi_imp (pi_range2 hg hm ha hs hs2) fun σ H R h => tG.step h fun ρ δ ρ1 S1 H1 v d N e R1 r P => by
    split at P
    · rename_i i j
      split at P
      · rename_i hl
        rw [Bool.and_eq_true] at hl
        obtain ⟨w1, w2, rfl, r1, r2⟩ := two_of r
        have b1 := inRng_bd hl.1
        have b2 := inRng_bd hl.2
        exact ⟨i, j, by rw [r1.intI, r2.intI], ⟨b1.1, b1.2, b2.1, b2.2⟩, Post.now (Rl := fun ρ H J s => SrcR X.K ρ H J s) P R1 (src_rng i j)⟩
      · exact P.elim
    · exact P.elim
end
end Dn
set_option Elab.async false
set_option linter.all false
set_option maxRecDepth 100000
set_option maxHeartbeats 1000000
/-! Dn4: for, comprehensions, functions and their calls. -/
noncomputable section
namespace Dn
open PySem PySem.Spec PyProof.Rows L2

/-! ### for -/
/-- one turn's end -/
def loopEnd (o : Out) (k : En → Sto → Out) : Out := match o with
  | .nx δ S => k δ S
  | .ct δ S => k δ S
  | .bk δ S => .nx δ S
  | .rt d S => .rt d S
  | .exc c S => .exc c S
  | .bad => .bad
def dLoop (g : Tg) (body : DS) (s : Src) : Nat → Nat → DS
  | 0, i, δ, S => match s.len S with
    | some n => if n ≤ i then .nx δ S else .bad
    | none => .bad
  | f + 1, i, δ, S => match s.len S with
    | some n => if n ≤ i then .nx δ S else match s.item S i with
      | some d => match g.set d δ with
        | some δ1 => loopEnd (body δ1 S) fun δ2 S2 => dLoop g body s f (i + 1) δ2 S2
        | none => .bad
      | none => .bad
    | none => .bad
def dFor (src : DSrc) (g : Tg) (body : DS) : DS := fun δ S => thenS (src δ S) fun s S1 => match s.len S1 with
  | some n => dLoop g body s n 0 δ S1
  | none => .bad
theorem tFor_of {W : Wt} {src : DSrc} {g : Tg} {body : DS} {D : Ends} {σ : L2.St} {H : Hp} (h : tS W (dFor src g body) D σ H) : tFor (tSrc W src) (gD W.K g) (tS W body) D σ H := by
  obtain ⟨ρ, δ, S, R, N, P⟩ := h
  refine ⟨ρ, δ, S, R, N, PostS.res P fun ρ1 H1 J s S1 e1 R1 sr P1 => ?_⟩
  cases hn : s.len S1 with
  | none => rw [hn] at P1; exact P1.elim
  | some n =>
    rw [hn] at P1
    refine ⟨fun i m σ H => ∃ ρ δ S, Ext ρ1 H1 ρ H ∧ Rep W.K ρ H S ∧ EnvR W.K ρ H σ δ ∧ PostS W ρ H (dLoop g body s m i δ S) D, ⟨n, ρ1, δ, S1, Ext.refl _ _, R1, N.mono e1, P1⟩, ?_⟩
    rintro i m σ H ⟨ρ, δ, S, e, R, N, P⟩
    cases m with
    | zero =>
      unfold dLoop at P
      cases hl : s.len S with
      | none => rw [hl] at P; exact P.elim
      | some l =>
        rw [hl] at P
        dsimp only at P
        split at P
        · rename_i hle
          exact .inl ⟨(sr ρ H S e R l hl).2.1 i hle, P ρ H σ (Ext.refl _ _) R N⟩
        · exact P.elim
    | succ m =>
      unfold dLoop at P
      cases hl : s.len S with
      | none => rw [hl] at P; exact P.elim
      | some l =>
        rw [hl] at P
        dsimp only at P
        split at P
        · rename_i hle
          exact .inl ⟨(sr ρ H S e R l hl).2.1 i hle, P ρ H σ (Ext.refl _ _) R N⟩
        · rename_i hle
          have hlt : i < l := Nat.lt_of_not_le hle
          refine .inr ⟨(sr ρ H S e R l hl).1 i hlt, fun σ' H' => ∃ ρ δ S, Ext ρ1 H1 ρ H' ∧ Rep W.K ρ H' S ∧ EnvR W.K ρ H' σ' δ ∧ PostS W ρ H' (dLoop g body s m (i + 1) δ S) D, fun σ' H' q => ⟨m, Nat.lt_succ_self m, q⟩, fun x H' y => ?_⟩
          obtain ⟨d, hd, e2, R2, r2⟩ := (sr ρ H S e R l hl).2.2 i x H' hlt y
          rw [hd] at P
          dsimp only at P
          cases hg : g.set d δ with
          | none => rw [hg] at P; exact P.elim
          | some δ1 =>
            rw [hg] at P
            refine ⟨ρ, δ, d, δ1, N.mono e2, r2, hg, fun σ2 N2 _ => ⟨ρ, δ1, S, R2, N2, ?_⟩⟩
            have P2 : PostS W ρ H' (loopEnd (body δ1 S) fun δ2 S2 => dLoop g body s m (i + 1) δ2 S2) D := PostS.base e2 P
            have e02 := e.trans e2
            cases hb : body δ1 S with
            | nx δ2 S2 =>
              rw [hb] at P2
              exact fun ρ3 H3 σ3 e3 R3 N3 => ⟨ρ3, δ2, S2, e02.trans e3, R3, N3, PostS.base e3 P2⟩
            | ct δ2 S2 =>
              rw [hb] at P2
              exact fun ρ3 H3 σ3 e3 R3 N3 => ⟨ρ3, δ2, S2, e02.trans e3, R3, N3, PostS.base e3 P2⟩
            | bk δ2 S2 => rw [hb] at P2; exact P2
            | rt d2 S2 => rw [hb] at P2; exact P2
            | exc c2 S2 => rw [hb] at P2; exact P2
            | bad => rw [hb] at P2; exact P2
theorem ss_for {X : Cx} {cl : Str → Value} {E : XK} {tg iter : Expr} {bs : List Stmt} {src : DSrc} {g : Tg} {b : DS} {pos : Pos} (hp : PassesOwn (model X.prog X.w) X.A X.env X.xe) (hc : X.calm = true) (hi : PI X tg iter (tSrc (wt X cl E) src)) (hg : PG X tg (gD X.K g))
    (hb : SB X (wt X cl E) bs b) (hs : ∀ x, foldedSetIterable iter X.env x = pure x := by intro _; rfl) : SS X (wt X cl E) (.For tg iter bs [] pos) (dFor src g b) := ps_imp (ps_for hp hc hi hg hb hs) fun D σ H h => tFor_of h

/-! ### comprehensions -/
def nox {α : Type} (r : Res α) : Res α := match r with
  | .ok a S => .ok a S
  | .exc _ _ => .bad
  | .bad => .bad
@[simp] theorem nox_ok {α : Type} (a : α) (S : Sto) : nox (.ok a S) = .ok a S := rfl
@[simp] theorem nox_bad {α : Type} : nox (.bad : Res α) = .bad := rfl
def lcPut (c : Nat) (y : D) (S : Sto) : Option Sto := match S[c]? with
  | some (.lst acc) => if acc.length < lim then some (S.set c (.lst (acc ++ [y]))) else none
  | _ => none
def dLcGo (g : Tg) (t : DT) (elt : DE) (s : Src) (c : Nat) (δ : En) : Nat → Nat → Sto → Res D
  | 0, i, S => match s.len S with
    | some n => if n ≤ i then .ok (.cell c) S else .bad
    | none => .bad
  | f + 1, i, S => match s.len S with
    | some n => if n ≤ i then .ok (.cell c) S else match s.item S i with
      | some d => match g.set d δ with
        | some δ1 => (nox (t δ1 S)).bnd fun b S2 => if b = true then (nox (elt δ1 S2)).bnd fun y S3 => match lcPut c y S3 with
            | some S4 => dLcGo g t elt s c δ f (i + 1) S4
            | none => .bad
          else dLcGo g t elt s c δ f (i + 1) S2
        | none => .bad
      | none => .bad
    | none => .bad
def dLc (src : DSrc) (g : Tg) (t : DT) (elt : DE) (own : List Nat) : DE := fun δ S => (src δ S).bnd fun s S1 => match s.len (S1 ++ [.lst []]) with
  | some n => dLcGo g t elt s S1.length (wipeD δ own) n 0 (S1 ++ [.lst []])
  | none => .bad
def dYes : DT := fun _ S => .ok true S
theorem wipe_len (σ : L2.St) (vs : List Nat) : (L2.wipe σ vs).length = σ.length := L2.wipe_length σ vs
theorem wipe_get {σ : L2.St} {i : Nat} : ∀ {vs : List Nat}, i ∉ vs → (L2.wipe σ vs)[i]? = σ[i]?
  | [], _ => rfl
  | v :: vs, h => by
    show ((L2.wipe σ vs).set v none)[i]? = _
    rw [List.getElem?_set_ne fun z => h (by rw [z]; exact List.mem_cons_self)]
    exact wipe_get fun z => h (List.mem_cons_of_mem _ z)
theorem wipe_in {σ : L2.St} {i : Nat} : ∀ {vs : List Nat}, i ∈ vs → i < σ.length → (L2.wipe σ vs)[i]? = some none
  | v :: vs, h, hl => by
    show ((L2.wipe σ vs).set v none)[i]? = _
    by_cases e : v = i
    · subst e
      exact List.getElem?_set_self (by rw [wipe_len]; exact hl)
    · rw [List.getElem?_set_ne e]
      rcases List.mem_cons.mp h with z | z
      · exact absurd z.symm e
      · exact wipe_in z hl
theorem wipe_off {vs ws : List Nat} {σ σ2 : L2.St} (h : Off ws (L2.wipe σ vs) σ2) (hs : ∀ i ∈ ws, i ∈ vs) : L2.wipe σ2 vs = L2.wipe σ vs := by
  apply List.ext_getElem?
  intro i
  by_cases hi : i ∈ vs
  · by_cases hl : i < σ.length
    · rw [wipe_in hi hl, wipe_in hi (by rw [h.len, wipe_len]; exact hl)]
    · rw [List.getElem?_eq_none (by rw [wipe_len, h.len, wipe_len]; exact Nat.le_of_not_lt hl), List.getElem?_eq_none (by rw [wipe_len]; exact Nat.le_of_not_lt hl)]
  · rw [wipe_get hi, h.at' i fun z => hi (hs i z)]
theorem Post.nox {α β γ β' : Type} {W W0 : Wt} {Rl : List Addr → Hp → β → α → Prop} {Rl' : List Addr → Hp → β' → γ → Prop} (hK : W0.K = W.K) {ρ : List Addr} {H : Hp} {r : Res α} {f : α → Sto → Res γ} {Q : β' → Hp → Prop} (h : Post W Rl' ρ H ((Dn.nox r).bnd f) Q) {Q' : β → Hp → Prop}
    (q : ∀ ρ1 H1 v d S1, Ext ρ H ρ1 H1 → Rep W.K ρ1 H1 S1 → Rl ρ1 H1 v d → Post W Rl' ρ1 H1 (f d S1) Q → Q' v H1) : Post W0 Rl ρ H r Q' := by
  cases r with
  | ok d S => exact fun ρ1 H1 v e R r => q ρ1 H1 v d S e (hK ▸ R) r (Post.base e h)
  | exc c S => exact h.elim
  | bad => exact h
theorem tLc_of {W W0 : Wt} (hK : W0.K = W.K) {src : DSrc} {g : Tg} {t : DT} {elt : DE} {own : List Nat} (hs : ∀ i ∈ g.slots, i ∈ own) {σ : L2.St} {H : Hp} {Q : VK} (h : tE W (dLc src g t elt own) σ H Q) : tLc (tSrc W src) (gD W.K g) (tT W0 t) (tE W0 elt) own σ H Q := by
  refine tG.step h fun ρ δ ρ1 S1 H1 J s N e R1 sr P => ?_
  intro D hD
  cases hn : s.len (S1 ++ [.lst []]) with
  | none => rw [hn] at P; exact P.elim
  | some n =>
    rw [hn] at P
    have e1 : Ext ρ1 H1 (ρ1 ++ [D]) (upd H1 D (.lst [])) := Ext.newC hD
    have R2 : Rep W.K (ρ1 ++ [D]) (upd H1 D (.lst [])) (S1 ++ [.lst []]) := R1.newC hD ⟨[], upd_same, .nil⟩
    have hc : (ρ1 ++ [D])[S1.length]? = some D := by
      rw [← R1.len, List.getElem?_append_right (Nat.le_refl _), Nat.sub_self]
      rfl
    refine ⟨fun i m H => ∃ ρ S, Ext (ρ1 ++ [D]) (upd H1 D (.lst [])) ρ H ∧ Rep W.K ρ H S ∧ Post W (Dv W.K) ρ H (dLcGo g t elt s S1.length (wipeD δ own) m i S) Q, ⟨n, _, _, Ext.refl _ _, R2, Post.base e1 P⟩, ?_⟩
    rintro i m H ⟨ρ, S, e2, R, P⟩
    have e12 := e1.trans e2
    have hcρ := e2.pre _ _ hc
    have stop : ∀ l, s.len S = some l → l ≤ i → Post W (Dv W.K) ρ H (.ok (.cell S1.length) S) Q → (J.stop i H ∧ Q (.ref D) H) := fun l hl hle P => ⟨(sr ρ H S e12 R l hl).2.1 i hle, P.now R (.cell hcρ)⟩
    cases m with
    | zero =>
      unfold dLcGo at P
      cases hl : s.len S with
      | none => rw [hl] at P; exact P.elim
      | some l =>
        rw [hl] at P
        dsimp only at P
        split at P
        · rename_i hle
          exact .inl (stop l hl hle P)
        · exact P.elim
    | succ m =>
      unfold dLcGo at P
      cases hl : s.len S with
      | none => rw [hl] at P; exact P.elim
      | some l =>
        rw [hl] at P
        dsimp only at P
        split at P
        · rename_i hle
          exact .inl (stop l hl hle P)
        · rename_i hle
          have hlt : i < l := Nat.lt_of_not_le hle
          refine .inr ⟨(sr ρ H S e12 R l hl).1 i hlt, fun H' => ∃ ρ S, Ext (ρ1 ++ [D]) (upd H1 D (.lst [])) ρ H' ∧ Rep W.K ρ H' S ∧ Post W (Dv W.K) ρ H' (dLcGo g t elt s S1.length (wipeD δ own) m (i + 1) S) Q, fun H' q => ⟨m, Nat.lt_succ_self m, q⟩, fun x H' y => ?_⟩
          obtain ⟨d, hd, e3, R3, r3⟩ := (sr ρ H S e12 R l hl).2.2 i x H' hlt y
          rw [hd] at P
          dsimp only at P
          cases hg : g.set d (wipeD δ own) with
          | none => rw [hg] at P; exact P.elim
          | some δ1 =>
            rw [hg] at P
            have N3 : EnvR W.K ρ H' (L2.wipe σ own) (wipeD δ own) := ((N.mono e12).mono e3).wipe own
            refine ⟨ρ, wipeD δ own, d, δ1, N3, r3, hg, fun σ2 N2 o2 => ⟨wipe_off o2 hs, ?_⟩⟩
            have N2' : EnvR W0.K ρ H' σ2 δ1 := by rw [hK]; exact N2
            have R3' : Rep W0.K ρ H' S := by rw [hK]; exact R3
            refine ⟨ρ, δ1, S, R3', N2', Post.nox (Rl := rlB) hK (Post.base e3 P) fun ρ4 H4 b b' S4 e4 R4 r4 P4 => ?_⟩
            have r4' : b = b' := r4
            subst r4'
            cases b with
            | false => exact ⟨ρ4, S4, (e2.trans e3).trans e4, R4, P4⟩
            | true =>
              have P4' : Post W (Dv W.K) ρ4 H4 ((Dn.nox (elt δ1 S4)).bnd fun y S3 => match lcPut S1.length y S3 with
                | some S4 => dLcGo g t elt s S1.length (wipeD δ own) m (i + 1) S4
                | none => .bad) Q := P4
              refine ⟨ρ4, δ1, S4, by rw [hK]; exact R4, N2'.mono e4, Post.nox (Rl := Dv W0.K) hK P4' fun ρ5 H5 v dv S5 e5 R5 r5 P5 => ?_⟩
              have r5' : Dv W.K ρ5 H5 v dv := by rw [← hK]; exact r5
              have hc5 := e5.pre _ _ (e4.pre _ _ hcρ)
              unfold lcPut at P5
              split at P5
              · rename_i S6 hput
                split at hput
                · rename_i acc hacc
                  split at hput
                  · rename_i hlim
                    cases hput
                    obtain ⟨us, g1, g2⟩ := R5.lst hc5 hacc
                    have ew : Ext ρ5 H5 ρ5 (upd H5 D (.lst (us ++ [v]))) := R5.ext_write hc5
                    refine ⟨us, g1, by rw [g2.length]; exact lt_lim hlim, ρ5, _, (((e2.trans e3).trans e4).trans e5).trans ew, R5.write (c := .lst (acc ++ [dv])) hc5 ⟨_, upd_same, (g2.append (.cons r5' .nil)).mono ew⟩, Post.base ew P5⟩
                  · cases hput
                · cases hput
              · exact P5.elim
section
variable {X : Cx} {cl : Str → Value} {E : XK} {elt tg iter : Expr} {ifs : List Expr} {scope : Scope} {own : List (Str × Nat)} {pos : Pos} {src : DSrc} {g : Tg} {t : DT} {de : DE}
theorem pts_yes {X : Cx} {W : Wt} : PTs X [] (tT W dYes) := ⟨fun pins s σ H Q I ⟨ρ, δ, S, R, N, P⟩ => pts_nil.run pins s σ H Q I (Post.now (Rl := rlB) P R rfl)⟩
theorem se_lc (hc : X.calm = true) (hN : X.N.Nodup) (hi : PI X tg iter (tSrc (wt X cl E) src)) (ok : BlkOk X.N X.env.scope scope own) (hsl : ∀ i ∈ g.slots, i ∈ own.map (·.2))
    (hg : ∀ (s : Shared) (H : Hp) (C : Addr) (cs : List (Str × Addr)) (fp : List Addr), PG (X.blk s H scope (compEnvC scope cs C X.env) fp) tg (gD X.K g)) (ht : ∀ (s : Shared) (H : Hp) (C : Addr) (cs : List (Str × Addr)) (fp : List Addr), PTs (X.blk s H scope (compEnvC scope cs C X.env) fp) ifs (tT (wt X cl E0) t))
    (he : ∀ (s : Shared) (H : Hp) (C : Addr) (cs : List (Str × Addr)) (fp : List Addr), PE (X.blk s H scope (compEnvC scope cs C X.env) fp) elt (tE (wt X cl E0) de)) (hs : ∀ x, foldedSetIterable iter X.env x = pure x := by intro _; rfl) :
    SE X (wt X cl E) (.ListComp elt [⟨tg, iter, ifs, 0⟩] scope pos) (dLc src g t de (own.map (·.2))) := pe_imp (pe_lc hc hN hi ok hg ht he hs) fun σ H Q h => tLc_of (W := wt X cl E) (W0 := wt X cl E0) rfl hsl h
theorem ss_setLc {i : Nat} {y : Str} {py spos : Pos} (hc : X.calm = true) (hN : X.N.Nodup) (hy : X.N[i]? = some y) (hyl : X.env.scope.names.lookup y = some .local)
    (hsw : swapsWith (.ListComp elt [⟨tg, iter, ifs, 0⟩] scope pos) (some (.Name y py)) spos.line X.env = pure true) (hi : PI X tg iter (tSrc (wt X cl E) src)) (ok : BlkOk X.N X.env.scope scope own) (hsl : ∀ i ∈ g.slots, i ∈ own.map (·.2))
    (hg : ∀ (s : Shared) (H : Hp) (C : Addr) (cs : List (Str × Addr)) (fp : List Addr), PG (X.blk s H scope (compEnvC scope cs C X.env) fp) tg (gD X.K g)) (ht : ∀ (s : Shared) (H : Hp) (C : Addr) (cs : List (Str × Addr)) (fp : List Addr), PTs (X.blk s H scope (compEnvC scope cs C X.env) fp) ifs (tT (wt X cl E0) t))
    (he : ∀ (s : Shared) (H : Hp) (C : Addr) (cs : List (Str × Addr)) (fp : List Addr), PE (X.blk s H scope (compEnvC scope cs C X.env) fp) elt (tE (wt X cl E0) de)) (hs : ∀ x, foldedSetIterable iter X.env x = pure x := by intro _; rfl) :
    SS X (wt X cl E) (.Assign [.Name y py] (.ListComp elt [⟨tg, iter, ifs, 0⟩] scope pos) spos) (dSet i (dLc src g t de (own.map (·.2)))) := ps_imp (ps_setLc hc hN hy hyl hsw hi ok hg ht he hs) fun D σ H h => by
    obtain ⟨ρ, δ, S, R, N, P⟩ := h
    have q : tE (wt X cl E) (dLc src g t de (own.map (·.2))) σ H fun x H1 => gName i x σ H1 D.nx := ⟨ρ, δ, S, R, N, PostS.res P fun ρ1 H1 v d S1 e1 R1 r1 P1 => P1 ρ1 H1 _ (Ext.refl ρ1 H1) R1 ((N.mono e1).set i r1)⟩
    exact tLc_of (W := wt X cl E) (W0 := wt X cl E0) rfl hsl q
end

/-! ### functions -/
def rDF (W : Wt) (f : DF) : List V → Hp → VK → Prop := fun vs H Q => ∃ ρ S ds, Rep W.K ρ H S ∧ DvAll W.K ρ H vs ds ∧ Post W (Dv W.K) ρ H (f ds S) Q
def SpD (K : PySem.W.Frag) (cl : Str → Value) (f : DF) : Sp := fun vs H Q E => rDF ⟨K, cl, E⟩ f vs H Q
def startD (N : Nat) (ds : List D) : En := ds.map some ++ List.replicate (N - ds.length) none
def endF (o : Out) : Res D := match o with
  | .nx _ S => .ok .non S
  | .rt d S => .ok d S
  | .exc c S => .exc c S
  | _ => .bad
/-- a function of n parameters and N names -/
def dFn (n N : Nat) (body : DS) : DF := fun ds S => if ds.length = n then endF (body (startD N ds) S) else .bad
def dCall (f : DF) (as : DA) : DE := fun δ S => (as δ S).bnd f
theorem envR_start {K : PySem.W.Frag} {ρ : List Addr} {H : Hp} {N : List Str} {vs : List V} {ds : List D} (h : DvAll K ρ H vs ds) : EnvR K ρ H (L2.start N vs) (startD N.length ds) := by
  refine ⟨by unfold L2.start startD; simp only [List.length_append, List.length_map, List.length_replicate]; rw [h.length], fun i d e => ?_⟩
  unfold startD at e
  unfold L2.start
  by_cases hi : i < ds.length
  · rw [List.getElem?_append_left (by simpa using hi), List.getElem?_map] at e
    cases q : ds[i]? with
    | none => rw [q] at e; cases e
    | some d' =>
      rw [q] at e
      cases e
      obtain ⟨v, h1, h2⟩ := h.get q
      refine ⟨v, ?_, h2⟩
      rw [List.getElem?_append_left (by simpa [h.length] using hi), List.getElem?_map, h1]
      rfl
  · rw [List.getElem?_append_right (by simpa using hi), List.getElem?_replicate] at e
    split at e <;> cases e
section
variable {P : Program} {w : World} {K : PySem.W.Frag} {mg : Str → Option Value} {base : Heap} {cl : Str → Value}
/-- THE RULE for a def: its body's denotation -/
theorem fn_ok {x qual : Str} {st : Stmt} {f : Addr} {fd : FuncData} {N ps : List Str} {k : Nat} {body : DS} (F : Fun K x qual st f fd) (S : FnScope N ps (defScope st))
    (hbody : ∀ (cdv : Value) (A : Around) (outer : List Env) (s : Shared) (H : Hp) (E : XK), Room k (A.deeper (envOfC qual (defScope st) s.heap.objs.size f cdv)) →
      SB (cxOf (L2.CX P w) P w K mg base N qual (defScope st) f cdv A outer s H E) ⟨K, cl, E⟩ (defBody st) body) : FnOk P w K mg base (L2.CX P w) (k + 1) f fd ps (SpD K cl (dFn ps.length N.length body)) := by
  refine F.okX S (fun vs H Q E h => ?_) fun cdv A outer s H vs Q E hr h => ?_
  · obtain ⟨ρ, S, ds, R, v, P⟩ := h
    unfold dFn at P
    split at P
    · rename_i hl
      rw [v.length, hl]
    · exact P.elim
  · obtain ⟨ρ, S, ds, R, v, P⟩ := h
    refine ⟨_, hbody cdv A outer s H E hr, ρ, startD N.length ds, S, R, envR_start v, ?_⟩
    unfold dFn at P
    split at P
    · cases q : body (startD N.length ds) S with
      | nx δ S1 =>
        rw [q] at P
        exact fun ρ1 H1 σ1 e1 R1 N1 => P ρ1 H1 .non e1 R1 .non
      | rt d S1 =>
        rw [q] at P
        exact P
      | exc c S1 =>
        rw [q] at P
        exact P
      | bk δ S1 => rw [q] at P; exact P.elim
      | ct δ S1 => rw [q] at P; exact P.elim
      | bad => rw [q] at P; exact P.elim
    · exact P.elim
/-- a def as its callers see it -/
structure Has (P : Program) (w : World) (K : PySem.W.Frag) (mg : Str → Option Value) (base : Heap) (cl : Str → Value) (x : Str) (k : Nat) (g : DF) : Prop where
  ex : ∃ (f : Addr) (fd : FuncData) (ps : List Str), FnOk P w K mg base (L2.CX P w) k f fd ps (SpD K cl g) ∧ mg x = some (.ref f) ∧ PySem.W.keepIn K (.ref f) = true ∧ Binds K fd ps []
end
section
variable {X : Cx} {cl : Str → Value} {E : XK} {x : Str} {p pos : Pos} {e : Expr} {es : List Expr} {da : DA} {k : Nat} {g : DF}
theorem se_call (F : Has X.prog X.w X.K X.mg X.base cl x k g) (hr : Room k X.A) (hg : Gl X x) (hx : Passes (L2.CX X.prog X.w) X E) (ha : SA X (wt X cl E) (e :: es) da) (hdb : (x == ("__debug__" : Str)) = false := by decide)
    (he : starEach (e :: es) X.env = (false, eval e X.env) :: starEach es X.env := by rfl) (hpl : (backTo pos (starEach es X.env)).any (·.1) = false := by rfl) : SE X (wt X cl E) (.Call (.Name x p) (e :: es) [] pos) (dCall g da) := by
  obtain ⟨f, fd, ps, F, hm, hk, hb⟩ := F.ex
  exact pe_imp (pe_call F hr hg hm hk hb .nil hx ha hdb he hpl) fun σ H Q h => tG.step h fun ρ δ ρ1 S1 H1 v d N e R r P => by
    show SpD X.K cl g (v ++ []) H1 Q E
    rw [List.append_nil]
    exact ⟨ρ1, S1, d, R, r, P⟩
/-- a built-in function, a built-in type called -/
abbrev CallD (X : Cx) (cl : Str → Value) (E : XK) (f : Value) (g : DF) : Prop := CallR X f (rDF (wt X cl E) g)
theorem se_callB {id : String} (h : CallD X cl E (.builtin id) g) (hg : Gl X x) (hm : X.mg x = none) (hv : bootBuiltins x = some (.builtin id)) (ha : SA X (wt X cl E) (e :: es) da) (hn : x ≠ "__name__" := by decide) (hdb : (x == ("__debug__" : Str)) = false := by decide)
    (he : starEach (e :: es) X.env = (false, eval e X.env) :: starEach es X.env := by rfl) (hpl : (backTo pos (starEach es X.env)).any (·.1) = false := by rfl) : SE X (wt X cl E) (.Call (.Name x p) (e :: es) [] pos) (dCall g da) :=
  pe_imp (pe_callB h hg hm hv ha hn hdb he hpl) fun σ H Q h => tG.step h fun ρ δ ρ1 S1 H1 v d N e R r P => ⟨ρ1, S1, d, R, r, P⟩
theorem se_callTy {T : String} (h : CallD X cl E (.type T) g) (hg : Gl X x) (hm : X.mg x = none) (hv : bootBuiltins x = some (.type T)) (ha : SA X (wt X cl E) (e :: es) da) (hn : x ≠ "__name__" := by decide) (hdb : (x == ("__debug__" : Str)) = false := by decide)
    (he : starEach (e :: es) X.env = (false, eval e X.env) :: starEach es X.env := by rfl) (hpl : (backTo pos (starEach es X.env)).any (·.1) = false := by rfl) : SE X (wt X cl E) (.Call (.Name x p) (e :: es) [] pos) (dCall g da) :=
  pe_imp (pe_callTy h hg hm hv ha hn hdb he hpl) fun σ H Q h => tG.step h fun ρ δ ρ1 S1 H1 v d N e R r P => ⟨ρ1, S1, d, R, r, P⟩
end
end Dn
set_option Elab.async false
set_option linter.all false
set_option maxRecDepth 100000
set_option maxHeartbeats 1000000
/-! Dn5: built-ins, methods, dicts, raise, try, keywords. -/
noncomputable section
namespace Dn
open PySem PySem.Spec PyProof.Rows L2

theorem cr_imp {X : Cx} {f : Value} {r r' : List V → Hp → VK → Prop} (h : CallR X f r) (i : ∀ xs H Q, r' xs H Q → r xs H Q) : CallR X f r' := fun pins s σ H xs us Q I r q => h pins s σ H xs us Q I r (i _ _ _ q)
def bLen : DF := fun ds S => match ds with
  | [d] => match items S d with
    | some xs => .ok (.int xs.length) S
    | none => .bad
  | _ => .bad
def bTuple : DF := fun ds S => match ds with
  | [.tup xs] => .ok (.tup xs) S
  | [d] => match items S d with
    | some xs => .ok (.tup xs) S
    | none => .bad
  | _ => .bad
def bList : DF := fun ds S => match ds with
  | [d] => match items S d with
    | some xs => .ok (.cell S.length) (S ++ [.lst xs])
    | none => .bad
  | _ => .bad
def bInt : DF := fun ds S => match ds with
  | [.int i] => .ok (.int i) S
  | [.bl k] => .ok (.int (if k then 1 else 0)) S
  | _ => .bad
def bAbs : DF := fun ds S => match ds with
  | [.int i] => .ok (.int (if i < 0 then -i else i)) S
  | _ => .bad
def blsOf : List D → Option (List Bool)
  | [] => some []
  | .bl b :: r => (blsOf r).map (b :: ·)
  | _ => none
def intsOf : List D → Option (List Int)
  | [] => some []
  | .int b :: r => (intsOf r).map (b :: ·)
  | _ => none
def bAll : DF := fun ds S => match ds with
  | [d] => if isL S d = true then match (items S d).bind blsOf with
      | some bs => .ok (.bl (bs.all id)) S
      | none => .bad
    else .bad
  | _ => .bad
def maxI : List Int → Int
  | [] => 0
  | [x] => x
  | x :: y :: r => if maxI (y :: r) > x then maxI (y :: r) else x
def bMax : DF := fun ds S => match ds with
  | [.int i, .int j] => .ok (.int (if j > i then j else i)) S
  | [d] => if isL S d = true then match (items S d).bind intsOf with
      | some (n :: ns) => .ok (.int (maxI (n :: ns))) S
      | _ => .bad
    else .bad
  | _ => .bad
theorem maxI_mem : ∀ (x : Int) (r : List Int), maxI (x :: r) ∈ x :: r
  | x, [] => List.mem_singleton.mpr rfl
  | x, y :: r => by
    have ih := maxI_mem y r
    show (if maxI (y :: r) > x then maxI (y :: r) else x) ∈ _
    split
    · exact List.mem_cons_of_mem _ ih
    · exact List.mem_cons_self
theorem maxI_le : ∀ (x : Int) (r : List Int) (z : Int), z ∈ x :: r → z ≤ maxI (x :: r)
  | x, [], z, h => by
    rw [List.mem_singleton.mp h]
    exact Int.le_refl _
  | x, y :: r, z, h => by
    show z ≤ (if maxI (y :: r) > x then maxI (y :: r) else x)
    rcases List.mem_cons.mp h with rfl | h
    · split <;> omega
    · have ih := maxI_le y r z h
      split <;> omega
section
variable {X : Cx} {cl : Str → Value} {E : XK} {K : PySem.W.Frag} {ρ : List Addr} {H : Hp} {S : Sto}
theorem ints_dv : ∀ {vs : List V} {ds : List D} {ns : List Int}, DvAll K ρ H vs ds → intsOf ds = some ns → vs = ns.map V.int
  | _, _, _, .nil, e => by cases e; rfl
  | _, _, ns, .cons (d := d) (ds := ds) r t, e => by
    unfold intsOf at e
    split at e
    · rename_i heq
      cases heq
    · rename_i i q heq
      cases heq
      obtain ⟨ms, h1, h2⟩ := Option.map_eq_some_iff.mp e
      rw [← h2, r.intI, ints_dv t h1]
      rfl
    · cases e
theorem bls_dv : ∀ {vs : List V} {ds : List D} {ns : List Bool}, DvAll K ρ H vs ds → blsOf ds = some ns → vs = ns.map V.bl
  | _, _, _, .nil, e => by cases e; rfl
  | _, _, ns, .cons (d := d) (ds := ds) r t, e => by
    unfold blsOf at e
    split at e
    · rename_i heq
      cases heq
    · rename_i i q heq
      cases heq
      obtain ⟨ms, h1, h2⟩ := Option.map_eq_some_iff.mp e
      rw [← h2, r.blI, bls_dv t h1]
      rfl
    · cases e
theorem cd_len : CallD X cl E (.builtin "len") bLen := cr_imp call_len_seq fun xs H Q ⟨ρ, S, ds, R, rs, P⟩ => by
  unfold bLen at P
  split at P
  · rename_i d
    split at P
    · rename_i its hi
      obtain ⟨v, rfl, r⟩ := one_of rs
      obtain ⟨a, us, rfl, sq, vs⟩ := r.seqI R hi
      refine ⟨a, us, rfl, sq, ?_⟩
      rw [vs.length]
      exact P.now R (.int _)
    · exact P.elim
  · exact P.elim
theorem cd_tuple : CallD X cl E (.type "tuple") bTuple := cr_imp call_tuple_of fun xs H Q ⟨ρ, S, ds, R, rs, P⟩ => by
  unfold bTuple at P
  split at P
  · obtain ⟨v, rfl, r⟩ := one_of rs
    obtain ⟨a, us, rfl, sq, vs⟩ := r.tupI
    exact ⟨a, us, rfl, .inr ⟨sq, P.now R r⟩⟩
  · rename_i d hd
    split at P
    · rename_i its hi
      obtain ⟨v, rfl, r⟩ := one_of rs
      have ht : isT d = false := by
        cases d <;> first | rfl | exact absurd rfl (hd _)
      obtain ⟨a, us, rfl, sq, vs⟩ := r.listI R ht hi
      exact ⟨a, us, rfl, .inl ⟨sq, fun p hp => P ρ _ _ (Ext.new hp) (R.new hp) (.tup (.inl (.inl upd_same)) (vs.mono (Ext.new hp)))⟩⟩
    · exact P.elim
  · exact P.elim
theorem cd_list : CallD X cl E (.type "list") bList := cr_imp call_list_of fun xs H Q ⟨ρ, S, ds, R, rs, P⟩ => by
  unfold bList at P
  split at P
  · rename_i d
    split at P
    · rename_i its hi
      obtain ⟨v, rfl, r⟩ := one_of rs
      obtain ⟨a, us, rfl, sq, vs⟩ := r.seqI R hi
      refine ⟨a, us, rfl, sq, fun p hp => P (ρ ++ [p]) _ _ (Ext.newC hp) (R.newC hp ⟨us, upd_same, vs.mono (Ext.newC hp)⟩) (.cell ?_)⟩
      rw [← R.len, List.getElem?_append_right (Nat.le_refl _), Nat.sub_self]
      rfl
    · exact P.elim
  · exact P.elim
theorem cd_int : CallD X cl E (.type "int") bInt := cr_imp call_int1 fun xs H Q ⟨ρ, S, ds, R, rs, P⟩ => by
  unfold bInt at P
  split at P
  · obtain ⟨v, rfl, r⟩ := one_of rs
    exact .inl ⟨_, by rw [r.intI], P.now R (.int _)⟩
  · obtain ⟨v, rfl, r⟩ := one_of rs
    exact .inr ⟨_, by rw [r.blI], P.now R (.int _)⟩
  · exact P.elim
theorem cd_abs : CallD X cl E (.builtin "abs") bAbs := cr_imp call_abs fun xs H Q ⟨ρ, S, ds, R, rs, P⟩ => by
  unfold bAbs at P
  split at P
  · obtain ⟨v, rfl, r⟩ := one_of rs
    exact ⟨_, by rw [r.intI], P.now R (.int _)⟩
  · exact P.elim
theorem cd_all (hc : X.calm = true) : CallD X cl E (.builtin "all") bAll := cr_imp (cr_all hc) fun xs H Q ⟨ρ, S, ds, R, rs, P⟩ => by
  unfold bAll at P
  split at P
  · rename_i d
    split at P
    · rename_i hl
      split at P
      · rename_i bs hb
        obtain ⟨v, rfl, r⟩ := one_of rs
        obtain ⟨its, hi, h2⟩ := Option.bind_eq_some_iff.mp hb
        obtain ⟨a, us, rfl, sq, vs⟩ := r.listI R (isL_not hl) hi
        refine ⟨a, bs, rfl, ?_, P.now R (.bl _)⟩
        rw [← bls_dv vs h2]
        exact sq
      · exact P.elim
    · exact P.elim
  · exact P.elim
theorem cd_max (hc : X.calm = true) : CallD X cl E (.builtin "max") bMax := cr_imp (CallR.or (call_max2 hc) (cr_max hc)) fun xs H Q ⟨ρ, S, ds, R, rs, P⟩ => by
  unfold bMax at P
  split at P
  · obtain ⟨v, w, rfl, r1, r2⟩ := two_of rs
    exact .inl ⟨_, _, by rw [r1.intI, r2.intI], P.now R (.int _)⟩
  · rename_i d
    split at P
    · rename_i hl
      split at P
      · rename_i n ns hb
        obtain ⟨v, rfl, r⟩ := one_of rs
        obtain ⟨its, hi, h2⟩ := Option.bind_eq_some_iff.mp hb
        obtain ⟨a, us, rfl, sq, vs⟩ := r.listI R (isL_not hl) hi
        refine .inr ⟨a, n :: ns, rfl, ?_, Nat.succ_pos _, fun m hm hle => ?_⟩
        · rw [← ints_dv vs h2]
          exact sq
        · have e : m = maxI (n :: ns) := Int.le_antisymm (maxI_le n ns m hm) (hle _ (maxI_mem n ns))
          rw [e]
          exact P.now R (.int _)
      · exact P.elim
    · exact P.elim
  · exact P.elim
end

/-! ### isinstance -/
def tyD (S : Sto) : D → String
  | .non => "NoneType"
  | .bl _ => "bool"
  | .int _ => "int"
  | .str _ => "str"
  | .tup _ => "tuple"
  | .ro _ => "list"
  | .cell n => match S[n]? with
    | some (.dic _) => "dict"
    | some (.dik _) => "dict"
    | _ => "list"
  | .rng _ _ => "#none"
theorem kitB_none {T : String} (h : T ≠ "#none") : kitB "#none" T = none := by
  unfold kitB
  have e : (Value.type "#none" == Value.type T) = false := by
    cases q : (Value.type "#none" == Value.type T) with
    | false => rfl
    | true => exact absurd (by simpa [BEq.beq, eq_comm] using q) h
  rw [e]
  have e2 : PySem.fastBuiltinMro "#none" = none := by decide +kernel
  rw [e2]
  simp
/-- a value's type, dicts with tuple keys too -/
inductive TyZ (K : PySem.W.Frag) (H : Hp) : V → Value → Prop
  | x {v : V} {t : Value} : TyX K H v t → TyZ K H v t
  | dik {a : Addr} {xs : List (NestedKey × Addr × V)} : H a = some (DkO a xs) → TyZ K H (.ref a) (.type "dict")
theorem kit_ofZ {X : Cx} {pins : List (Addr × Obj)} {σ : L2.St} {H : Hp} {s : Shared} {v : V} {u t : Value} (I : Inv X pins σ H s) (rx : RelV v u) (ty : TyZ X.K H v t) : ∃ P : Heap → Prop, PySem.W.KitX X.K u t P ∧ P s.heap ∧ u ≠ .builtin "__main__.__loader__#opaque" := by
  cases ty with
  | x h => exact kit_of I rx h
  | @dik a xs ea =>
    cases rx
    obtain ⟨⟨_, ys, o, es, ep, _, ho, hx, _⟩, _⟩ := I.hok a _ ea
    exact ⟨_, PySem.W.kitx_dict, ⟨o, ho, hx.1⟩, fun z => nomatch z⟩
def rIsiZ (K : PySem.W.Frag) : List V → Hp → VK → Prop := fun xs H Q => ∃ (v c : V) (t u : Value) (b : Bool), xs = [v, c] ∧ ClsV c u ∧ TyZ K H v t ∧ PySem.W.kitOne K t u = some b ∧ Q (.bl b) H
theorem call_isiZ {X : Cx} : CallR X (.builtin "isinstance") (rIsiZ X.K) := fun pins s σ H xs us Q I r ⟨x, c, t, u, b, e1, k, ty, e, q⟩ => by
  subst e1
  obtain ⟨u1, u2, rfl, r1, r2⟩ := vals2 r
  have e2 := k.eq r2
  subst e2
  obtain ⟨P, Z, p, hx⟩ := kit_ofZ I r1 ty
  exact PySem.W.kia_one Z I.kIn p e hx fun tk => ⟨.bl b, H, I.tok tk, rfl, q⟩
def dIsI (T : String) (a : DE) : DE := fun δ S => (a δ S).bnd fun d S1 => match kitB (tyD S1 d) T with
  | some b => .ok (.bl b) S1
  | none => .bad
section
variable {X : Cx} {cl : Str → Value} {E : XK} {K : PySem.W.Frag} {ρ : List Addr} {H : Hp} {S : Sto}
theorem Dv.ty (R : Rep K ρ H S) {v : V} {d : D} (h : Dv K ρ H v d) (hn : tyD S d ≠ "#none") : TyZ K H v (.type (tyD S d)) := by
  cases h with
  | non => exact .x <| .base .non
  | bl b => exact .x <| .base (.bl b)
  | int i => exact .x <| .base (.int i)
  | str x => exact .x <| .base (.str x)
  | tup sq vs =>
    rcases sq with (sq | ⟨o, sq⟩) | ⟨o, its, n, k, c, _⟩
    · exact .x <| .base (.tup sq)
    · exact .x <| .fTuple sq
    · exact .x <| .kTuple k c
  | ro sq f vs =>
    rcases sq with (sq | ⟨o, sq⟩) | ⟨o, its, n, k, c, _⟩
    · exact .x <| .base (.lst sq)
    · exact .x <| .base (.frz sq)
    · exact .x <| .kList k c
  | @cell a n q =>
    obtain ⟨c, h1, h2⟩ := R.cell q
    cases c with
    | lst xs =>
      obtain ⟨us, g1, _⟩ := h2
      have e : tyD S (.cell n) = "list" := by simp only [tyD, h1]
      rw [e]
      exact .x <| .base (.lst g1)
    | dic kvs =>
      obtain ⟨us, g1, _⟩ := h2
      have e : tyD S (.cell n) = "dict" := by simp only [tyD, h1]
      rw [e]
      exact .x <| .base (.dK g1)
    | dik kvs =>
      obtain ⟨us, g1, _⟩ := h2
      have e : tyD S (.cell n) = "dict" := by simp only [tyD, h1]
      rw [e]
      exact .dik g1
  | rng q => exact absurd rfl hn
theorem se_isi {x y : Str} {p p2 pos : Pos} {e : Expr} {de : DE} {T : String} (hgx : Gl X x) (hmx : X.mg x = none) (hvx : bootBuiltins x = some (.builtin "isinstance")) (he : SE X (wt X cl E) e de) (hg : Gl X y) (hm : X.mg y = none) (hv : bootBuiltins y = some (.type T))
    (hnx : x ≠ "__name__" := by decide) (hdx : (x == ("__debug__" : Str)) = false := by decide) (hn : y ≠ "__name__" := by decide) (hd : (y == ("__debug__" : Str)) = false := by decide) (hT : T ≠ "#none" := by decide)
    (hs : starEach [e, .Name y p2] X.env = (false, eval e X.env) :: starEach [.Name y p2] X.env := by rfl) (hpl : (backTo pos (starEach [.Name y p2] X.env)).any (·.1) = false := by rfl) : SE X (wt X cl E) (.Call (.Name x p) [e, .Name y p2] [] pos) (dIsI T de) :=
  pe_imp (pe_callB call_isiZ hgx hmx hvx (pa_cons he (pa_cons (pe_bltn hg hm hv (v := .ty T) rfl hn hd) pa_nil) hs) hnx hdx hs hpl) fun σ H Q h => tG.step h fun ρ δ ρ1 S1 H1 v d N e R r P => by
    split at P
    · rename_i b hb
      exact ⟨v, .ty T, _, _, b, rfl, .ty T, r.ty R (fun z => by rw [z, kitB_none hT] at hb; cases hb), kit_ty hb, P.now R (.bl b)⟩
    · exact P.elim
end

/-! ### methods of lists -/
def dMth (f : D → List D → Sto → Res D) (o : DE) (as : DA) : DE := fun δ S => (o δ S).bnd fun x S1 => if isL S1 x = true then (as δ S1).bnd fun xs S2 => f x xs S2 else .bad
def rMD (W : Wt) (f : D → List D → Sto → Res D) : V → List V → Hp → VK → Prop := fun x xs H Q => ∃ ρ S d ds, Rep W.K ρ H S ∧ Dv W.K ρ H x d ∧ DvAll W.K ρ H xs ds ∧ Post W (Dv W.K) ρ H (f d ds S) Q
def mAppend (x : D) (xs : List D) (S : Sto) : Res D := match x, xs with
  | .cell n, [d] => match S[n]? with
    | some (.lst ds) => if ds.length < lim then .ok .non (S.set n (.lst (ds ++ [d]))) else .bad
    | _ => .bad
  | _, _ => .bad
def mPop (x : D) (xs : List D) (S : Sto) : Res D := match x, xs with
  | .cell n, [] => match S[n]? with
    | some (.lst ds) => match ds[ds.length - 1]? with
      | some d => .ok d (S.set n (.lst ds.dropLast))
      | none => .bad
    | _ => .bad
  | .cell n, [.int i] => match S[n]? with
    | some (.lst ds) => if decide (0 ≤ i ∧ i < ds.length ∧ ds.length ≤ lim) = true then match ds[i.toNat]? with
        | some d => .ok d (S.set n (.lst (ds.eraseIdx i.toNat)))
        | none => .bad
      else .bad
    | _ => .bad
  | _, _ => .bad
section
variable {X : Cx} {cl : Str → Value} {E : XK}
theorem mt_imp {id : String} {r r' : V → List V → Hp → VK → Prop} (h : MtM X id r) (i : ∀ x xs H Q, r' x xs H Q → r x xs H Q) : MtR X id r' := fun pins s σ H x xs v us Q I r1 r2 q => h pins s σ H x xs v us Q I r1 r2 (i _ _ _ _ q)
theorem mt_or {id : String} {r r' : V → List V → Hp → VK → Prop} (h : MtM X id r) (h' : MtM X id r') : MtM X id (fun x xs H Q => r x xs H Q ∨ r' x xs H Q) := fun pins s σ H x xs v us Q I r1 r2 q => by
  rcases q with q | q
  · exact h pins s σ H x xs v us Q I r1 r2 q
  · exact h' pins s σ H x xs v us Q I r1 r2 q
theorem md_append : MtR X "list.append" (rMD (wt X cl E) mAppend) := mt_imp mt_append fun x xs H Q ⟨ρ, S, d, ds, R, r, rs, P⟩ => by
  unfold mAppend at P
  split at P
  · rename_i n e
    split at P
    · rename_i its hi
      split at P
      · rename_i hl
        obtain ⟨v, rfl, r2⟩ := one_of rs
        obtain ⟨a, rfl, q⟩ := r.cellI
        obtain ⟨us, g1, g2⟩ := R.lst q hi
        have ew : Ext ρ H ρ (upd H a (.lst (us ++ [v]))) := R.ext_write q
        exact ⟨a, us, v, rfl, rfl, g1, by rw [g2.length]; exact lt_lim hl, P ρ _ .non ew (R.write (c := .lst (its ++ [e])) q ⟨_, upd_same, (g2.append (.cons r2 .nil)).mono ew⟩) .non⟩
      · exact P.elim
    · exact P.elim
  · exact P.elim
theorem md_pop : MtR X "list.pop" (rMD (wt X cl E) mPop) := mt_imp (mt_or mt_pop mt_popAt) fun x xs H Q ⟨ρ, S, d, ds, R, r, rs, P⟩ => by
  unfold mPop at P
  split at P
  · rename_i n
    split at P
    · rename_i its hi
      split at P
      · rename_i e he
        cases rs
        obtain ⟨a, rfl, q⟩ := r.cellI
        obtain ⟨us, g1, g2⟩ := R.lst q hi
        obtain ⟨v, h1, h2⟩ := g2.get he
        have ew : Ext ρ H ρ (upd H a (.lst us.dropLast)) := R.ext_write q
        exact .inl ⟨a, us, v, rfl, rfl, g1, by rw [g2.length]; exact h1, P ρ _ v ew (R.write (c := .lst its.dropLast) q ⟨_, upd_same, g2.dropLast.mono ew⟩) (h2.mono ew)⟩
      · exact P.elim
    · exact P.elim
  · rename_i n i
    split at P
    · rename_i its hi
      split at P
      · rename_i hb
        have hb' := of_decide_eq_true (p := 0 ≤ i ∧ i < its.length ∧ its.length ≤ lim) hb
        split at P
        · rename_i e he
          obtain ⟨w, rfl, r2⟩ := one_of rs
          obtain ⟨a, rfl, q⟩ := r.cellI
          obtain ⟨us, g1, g2⟩ := R.lst q hi
          obtain ⟨v, h1, h2⟩ := g2.get he
          have ew : Ext ρ H ρ (upd H a (.lst (us.eraseIdx i.toNat))) := R.ext_write q
          have hlim : (its.length : Int) ≤ 100000 := by
            have := hb'.2.2
            rw [lim_eq] at this
            omega
          refine .inr ⟨a, us, i, i.toNat, v, rfl, by rw [r2.intI], g1, by omega, by omega, ?_, h1, P ρ _ v ew (R.write (c := .lst (its.eraseIdx i.toNat)) q ⟨_, upd_same, (g2.eraseIdx _).mono ew⟩) (h2.mono ew)⟩
          rw [g2.length]
          refine (ixN_seq (j := i.toNat) ?_).1
          unfold ixN
          rw [if_pos hb'.1, if_pos hb'.2.1]
        · exact P.elim
      · exact P.elim
    · exact P.elim
  · exact P.elim
variable {o e : Expr} {es : List Expr} {do' : DE} {da : DA} {apos cpos : Pos} {name : Str} {id : String} {f : D → List D → Sto → Res D}
theorem tyL_of {K : PySem.W.Frag} {ρ : List Addr} {H : Hp} {S : Sto} (R : Rep K ρ H S) {v : V} {d : D} (r : Dv K ρ H v d) (h : isL S d = true) : tyV K "list" v H := by
  obtain ⟨ds, hi⟩ := isL_items h
  obtain ⟨a, us, rfl, sq, _⟩ := r.listI R (isL_not h) hi
  exact .inl ⟨rfl, us, sq⟩
theorem se_mth (slot : Slot "list" name id) (hty : typeOf (.builtin id) = pure (.type "method_descriptor")) (hm : MtR X id (rMD (wt X cl E) f)) (ho : SE X (wt X cl E) o do') (ha : SA X (wt X cl E) (e :: es) da)
    (hbase : attributeBase o name X.env (eval o X.env) = eval o X.env := by rfl)
    (hfew : ((backTo cpos (starEach (e :: es) X.env)).all (fun x => !x.1) && (backToKw cpos (keywordEach [] X.env)).all (fun x => x.1.isSome) && decide ((e :: es).length + ([] : List Keyword).length + (if ([] : List Keyword).isEmpty then 0 else 1) < 30)) = true := by rfl)
    (hline : (apos.endLine == cpos.line) = true := by rfl) (hs : starEach (e :: es) X.env = (false, eval e X.env) :: starEach es X.env := by rfl) (hplain : (backTo cpos (starEach es X.env)).any (·.1) = false := by rfl) :
    SE X (wt X cl E) (.Call (.Attribute o name apos) (e :: es) [] cpos) (dMth f do' da) := pe_imp (pe_bm PySem.F.plainAttrs_list slot hty hm ho ha hbase hfew hline hs hplain) fun σ H Q h => tG.step h fun ρ δ ρ1 S1 H1 v d N e R r P => by
  split at P
  · rename_i hl
    exact ⟨tyL_of R r hl, ρ1, δ, S1, R, N, (Post.bnd P).imp fun vs H2 ⟨ρ2, S2, d2, e2, R2, r2, P2⟩ => ⟨ρ2, S2, d, d2, R2, r.mono e2, r2, P2⟩⟩
  · exact P.elim
theorem se_mth0 (slot : Slot "list" name id) (hty : typeOf (.builtin id) = pure (.type "method_descriptor")) (hm : MtR X id (rMD (wt X cl E) f)) (ho : SE X (wt X cl E) o do')
    (hbase : attributeBase o name X.env (eval o X.env) = eval o X.env := by rfl) (hline : (apos.endLine == cpos.line) = true := by rfl) : SE X (wt X cl E) (.Call (.Attribute o name apos) [] [] cpos) (dMth f do' dNil) := pe_imp (pe_bm0 PySem.F.plainAttrs_list slot hty hm ho hbase hline) fun σ H Q h => tG.step h fun ρ δ ρ1 S1 H1 v d N e R r P => by
  split at P
  · rename_i hl
    exact ⟨tyL_of R r hl, ρ1, S1, d, [], R, r, .nil, P⟩
  · exact P.elim
end

/-! ### dicts -/
def valD (kvs : List (Key × D)) (k : Key) : Option D := (kvs.find? fun kv => decide (kv.1 = k)).map (·.2)
def putD (kvs : List (Key × D)) (k : Key) (v : D) : List (Key × D) := if (kvs.any fun kv => decide (kv.1 = k)) = true then kvs.map (fun kv => if kv.1 = k then (kv.1, v) else kv) else kvs ++ [(k, v)]
def mergeD (kvs more : List (Key × D)) : List (Key × D) := more.foldl (fun acc kv => putD acc kv.1 kv.2) kvs
section
variable {K : PySem.W.Frag} {ρ : List Addr} {H : Hp}
theorem DvKs.val {k : Key} : ∀ {vs : List (Key × V)} {ds : List (Key × D)} {d : D}, DvKs K ρ H vs ds → valD ds k = some d → ∃ v, valV vs k = some v ∧ Dv K ρ H v d
  | _, _, _, .nil, e => by cases e
  | _, _, d, .cons (k := k') (v := v) (vs := vs) (d := d') (ds := ds) r t, e => by
    by_cases h : k' = k
    · have e1 : valD ((k', d') :: ds) k = some d' := by simp [valD, h]
      rw [e1] at e
      cases e
      exact ⟨v, valV_pos (p := (k', v)) h, r⟩
    · have e1 : valD ((k', d') :: ds) k = valD ds k := by simp [valD, h]
      rw [e1] at e
      obtain ⟨u, h1, h2⟩ := DvKs.val t e
      exact ⟨u, by rw [valV_neg (p := (k', v)) h]; exact h1, h2⟩
theorem DvKs.any {k : Key} : ∀ {vs : List (Key × V)} {ds : List (Key × D)}, DvKs K ρ H vs ds → (vs.any fun kv => decide (kv.1 = k)) = ds.any fun kv => decide (kv.1 = k)
  | _, _, .nil => rfl
  | _, _, .cons r t => by
    rw [List.any_cons, List.any_cons, DvKs.any t]
theorem DvKs.mapPut {k : Key} {v : V} {d : D} (h : Dv K ρ H v d) : ∀ {vs : List (Key × V)} {ds : List (Key × D)}, DvKs K ρ H vs ds → DvKs K ρ H (vs.map fun kv => if kv.1 = k then (kv.1, v) else kv) (ds.map fun kv => if kv.1 = k then (kv.1, d) else kv)
  | _, _, .nil => .nil
  | _, _, .cons (k := k') (v := v') (vs := vs) (d := d') (ds := ds) r t => by
    have ih := DvKs.mapPut (k := k) h t
    by_cases e : k' = k
    · have a1 : (if k' = k then (k', v) else (k', v')) = (k', v) := if_pos e
      have a2 : (if k' = k then (k', d) else (k', d')) = (k', d) := if_pos e
      show DvKs K ρ H ((if k' = k then (k', v) else (k', v')) :: _) ((if k' = k then (k', d) else (k', d')) :: _)
      rw [a1, a2]
      exact .cons h ih
    · have a1 : (if k' = k then (k', v) else (k', v')) = (k', v') := if_neg e
      have a2 : (if k' = k then (k', d) else (k', d')) = (k', d') := if_neg e
      show DvKs K ρ H ((if k' = k then (k', v) else (k', v')) :: _) ((if k' = k then (k', d) else (k', d')) :: _)
      rw [a1, a2]
      exact .cons r ih
theorem DvKs.snoc {k : Key} {v : V} {d : D} (h : Dv K ρ H v d) : ∀ {vs : List (Key × V)} {ds : List (Key × D)}, DvKs K ρ H vs ds → DvKs K ρ H (vs ++ [(k, v)]) (ds ++ [(k, d)])
  | _, _, .nil => .cons h .nil
  | _, _, .cons r t => .cons r (DvKs.snoc h t)
theorem DvKs.put {k : Key} {v : V} {d : D} (h : Dv K ρ H v d) {vs : List (Key × V)} {ds : List (Key × D)} (t : DvKs K ρ H vs ds) : DvKs K ρ H (putK vs k v) (putD ds k d) := by
  unfold putK putD
  rw [t.any]
  split
  · exact t.mapPut h
  · exact t.snoc h
theorem DvKs.length : ∀ {vs : List (Key × V)} {ds : List (Key × D)}, DvKs K ρ H vs ds → vs.length = ds.length
  | _, _, .nil => rfl
  | _, _, .cons _ t => congrArg Nat.succ (DvKs.length t)
theorem DvKs.merge : ∀ {ms : List (Key × V)} {es : List (Key × D)} {vs : List (Key × V)} {ds : List (Key × D)}, DvKs K ρ H ms es → DvKs K ρ H vs ds → DvKs K ρ H (mergeK vs ms) (mergeD ds es)
  | _, _, _, _, .nil, t => t
  | _, _, vs, ds, .cons (k := k) (v := v) (vs := ms) (d := d) (ds := es) r s, t => by
    show DvKs K ρ H (mergeK (putK vs k v) ms) (mergeD (putD ds k d) es)
    exact DvKs.merge s (t.put r)
end
def opDGet (x y : D) (S : Sto) : Res D := match x, y with
  | .cell n, .str k => match S[n]? with
    | some (.dic kvs) => match valD kvs (.inr k) with
      | some d => .ok d S
      | none => .bad
    | _ => .bad
  | _, _ => .bad
/-- x[k] = v -/
def putAt (x k v : D) (S : Sto) : Option Sto := match x, k with
  | .cell n, .str s => match S[n]? with
    | some (.dic kvs) => if kvs.length < lim then some (S.set n (.dic (putD kvs (.inr s) v))) else none
    | _ => none
  | .cell n, .int i => match S[n]? with
    | some (.lst ds) => match ixN ds.length i with
      | some j => some (S.set n (.lst (ds.set j v)))
      | none => none
    | _ => none
  | _, _ => none
def dDPut (o : DE) (k : Str) (v : DE) : DS := fun δ S => thenS (v δ S) fun d S1 => thenS (o δ S1) fun x S2 => match putAt x (.str k) d S2 with
  | some S4 => .nx δ S4
  | none => .bad
def dikPut (x y d : D) (S : Sto) : Option Sto := match x, dikOf S x, keyT y with
  | .cell n, some kvs, some k => if kvs.length < lim then some (S.set n (.dik (dkPut kvs k d))) else none
  | _, _, _ => none
/-- x[i] = v -/
def dIPut (o i v : DE) : DS := fun δ S => thenS (v δ S) fun d S1 => thenS (o δ S1) fun x S2 => thenS (i δ S2) fun y S3 => match y with
  | .int j => match putAt x (.int j) d S3 with
    | some S4 => .nx δ S4
    | none => .bad
  | y => match dikPut x y d S3 with
    | some S4 => .nx δ S4
    | none => .bad
/-- {'k': v, ..} -/
def dPairs : List (Str × DE) → En → Sto → Res (List (Key × D))
  | [], _, S => .ok [] S
  | (k, e) :: r, δ, S => (e δ S).bnd fun d S1 => (dPairs r δ S1).bnd fun ds S2 => .ok ((.inr k, d) :: ds) S2
def dDisp (l : List (Str × DE)) : DE := fun δ S => (dPairs l δ (S ++ [.dic []])).bnd fun kvs S1 => match S1[S.length]? with
  | some (.dic []) => if kvs.length ≤ 15 then .ok (.cell S.length) (S1.set S.length (.dic (mergeD [] kvs))) else .bad
  | _ => .bad
section
variable {X : Cx} {cl : Str → Value} {E : XK} {o i e : Expr} {do' di de : DE} {pos pos' : Pos}
theorem dget_of {K : PySem.W.Frag} {ρ : List Addr} {H : Hp} {S : Sto} (R : Rep K ρ H S) {x : V} {n : Nat} {kvs : List (Key × D)} (r : Dv K ρ H x (.cell n)) (h : S[n]? = some (.dic kvs)) : ∃ a kws, x = .ref a ∧ ρ[n]? = some a ∧ H a = some (.dK kws) ∧ DvKs K ρ H kws kvs := by
  obtain ⟨a, rfl, q⟩ := r.cellI
  obtain ⟨kws, h1, h2⟩ := R.at n a _ q h
  exact ⟨a, kws, rfl, q, h1, h2⟩
theorem se_dget (hu : X.A.units + 1 < cLine) (ho : SE X (wt X cl E) o do') (hi : SE X (wt X cl E) i di) (hs : NoSl i := by exact fun _ _ => rfl) : SE X (wt X cl E) (.Subscript o i pos) (dBin opDGet do' di) :=
  pe_imp (pe_dget hu ho hi hs) fun σ H Q h => tG.step h fun ρ δ ρ1 S1 H1 v d N e R r P => ⟨ρ1, δ, S1, R, N, (Post.bnd P).imp fun y H2 ⟨ρ2, S2, d2, e2, R2, r2, P2⟩ => by
    dsimp only at P2
    unfold opDGet at P2
    split at P2
    · split at P2
      · rename_i kvs hk
        split at P2
        · rename_i z hz
          obtain ⟨a, kws, rfl, _, h1, h2⟩ := dget_of R2 (r.mono e2) hk
          obtain ⟨u, g1, g2⟩ := h2.val hz
          rw [r2.strI]
          exact ⟨a, u, rfl, .inl ⟨kws, _, .inl h1, rfl, g1.symm⟩, P2.now R2 g2⟩
        · exact P2.elim
      · exact P2.elim
    · exact P2.elim⟩
theorem put_key {K : PySem.W.Frag} {ρ : List Addr} {H : Hp} {S S4 : Sto} (R : Rep K ρ H S) {x y v : V} {dx d : D} {k : Str} (rx : Dv K ρ H x dx) (ry : Dv K ρ H y (.str k)) (rv : Dv K ρ H v d) (h : putAt dx (.str k) d S = some S4) :
    ∃ a H', x = .ref a ∧ DPut H a y v H' ∧ Ext ρ H ρ H' ∧ Rep K ρ H' S4 := by
  unfold putAt at h
  split at h
  · rename_i n s heq
    cases heq
    split at h
    · rename_i kvs hk
      split at h
      · rename_i hl
        cases h
        obtain ⟨a, kws, rfl, q, h1, h2⟩ := dget_of R rx hk
        have ew : Ext ρ H ρ (upd H a (.dK (putK kws (.inr k) v))) := R.ext_write q
        rw [ry.strI]
        exact ⟨a, _, rfl, .inl ⟨kws, .inr k, h1, rfl, by rw [h2.length]; exact lt_lim hl, rfl⟩, ew, R.write (c := .dic (putD kvs (.inr k) d)) q ⟨_, upd_same, (h2.put rv).mono ew⟩⟩
      · cases h
    · cases h
  · rename_i heq
    cases heq
  · cases h
theorem put_ix {K : PySem.W.Frag} {ρ : List Addr} {H : Hp} {S S4 : Sto} (R : Rep K ρ H S) {x y v : V} {dx d : D} {j : Int} (rx : Dv K ρ H x dx) (ry : Dv K ρ H y (.int j)) (rv : Dv K ρ H v d) (h : putAt dx (.int j) d S = some S4) :
    ∃ a us l, x = .ref a ∧ y = .int j ∧ H a = some (.lst us) ∧ ixN us.length j = some l ∧ Ext ρ H ρ (upd H a (.lst (us.set l v))) ∧ Rep K ρ (upd H a (.lst (us.set l v))) S4 := by
  unfold putAt at h
  split at h
  · rename_i heq
    cases heq
  · rename_i n i heq
    cases heq
    split at h
    · rename_i ds hk
      split at h
      · rename_i l hl
        cases h
        obtain ⟨a, rfl, q⟩ := rx.cellI
        obtain ⟨us, g1, g2⟩ := R.lst q hk
        have ew : Ext ρ H ρ (upd H a (.lst (us.set l v))) := R.ext_write q
        exact ⟨a, us, l, rfl, ry.intI, g1, by rw [g2.length]; exact hl, ew, R.write (c := .lst (ds.set l d)) q ⟨_, upd_same, (g2.set rv l).mono ew⟩⟩
      · cases h
    · cases h
  · cases h
/-- d['k'] = v -/
theorem ss_dput {k : Str} {j : Nat} {p2 : Pos} (hu : X.A.units + 1 < cLine) (ho : SE X (wt X cl E) o do') (hv : SE X (wt X cl E) e de) (hs : swapsWith e (some (.Subscript o (.Constant (.str k) j p2) pos')) pos.line X.env = pure false := by rfl) :
    SS X (wt X cl E) (.Assign [.Subscript o (.Constant (.str k) j p2) pos'] e pos) (dDPut do' k de) := ps_imp (ps_dput hu ho pe_str hv hs) fun D σ H ⟨ρ, δ, S, R, N, P⟩ =>
  ⟨ρ, δ, S, R, N, PostS.res P fun ρ1 H1 v d S1 e1 R1 r1 P1 => ⟨ρ1, δ, S1, R1, N.mono e1, PostS.res P1 fun ρ2 H2 x dx S2 e2 R2 r2 P2 => by
    split at P2
    · rename_i S4 h4
      obtain ⟨a, H', ex, g, ew, R4⟩ := put_key R2 r2 (.str k) (r1.mono e2) h4
      exact ⟨a, H', ex, g, P2 ρ2 H' σ ew R4 (((N.mono e1).mono e2).mono ew)⟩
    · exact P2.elim⟩⟩
theorem put_dik {K : PySem.W.Frag} {ρ : List Addr} {H : Hp} {S S4 : Sto} (R : Rep K ρ H S) {x y v : V} {dx dy d : D} (rx : Dv K ρ H x dx) (ry : Dv K ρ H y dy) (rv : Dv K ρ H v d) (h : dikPut dx dy d S = some S4) :
    ∃ a b xs k, x = .ref a ∧ y = .ref b ∧ H a = some (DkO a xs) ∧ (∀ p ∈ xs, KOk K H p) ∧ NK K H (.ref b) k ∧ txl k = true ∧ k.depth ≤ 8 ∧ xs.length ≤ sizeLine ∧ Ext ρ H ρ (upd H a (DkO a (storedX xs k b v))) ∧ Rep K ρ (upd H a (DkO a (storedX xs k b v))) S4 := by
  unfold dikPut at h
  split at h
  · rename_i n kvs k h2 h1
    split at h
    · rename_i hl
      cases h
      obtain ⟨ds, rfl, k1, k2, k3⟩ := keyT_tup h2
      obtain ⟨n2, a, xs, e, rfl, g1, g2, g3, g4⟩ := dik_of R rx h1
      cases e
      obtain ⟨b, us, rfl, _⟩ := ry.tupI
      have ew : Ext ρ H ρ (upd H a (DkO a (storedX xs k b v))) := R.ext_write g2
      exact ⟨a, b, xs, k, rfl, rfl, g3, g4.ok, ry.nk k1, k2, k3, by rw [g4.length]; exact Nat.le_of_lt (lt_lim hl), ew, R.write (c := .dik (dkPut kvs k d)) g2 ⟨_, upd_same, (g4.put ry k1 k2 k3 rv).mono ew⟩⟩
    · cases h
  · cases h
theorem set_or {X : Cx} {t t' : TSet} (h : PSet X t) (h' : PSet X t') : PSet X (fun o i v H Q => t o i v H Q ∨ t' o i v H Q) := fun pins s σ H o i v ov iv u Q I r1 r2 r3 q => by
  rcases q with q | q
  · exact h pins s σ H o i v ov iv u Q I r1 r2 r3 q
  · exact h' pins s σ H o i v ov iv u Q I r1 r2 r3 q
/-- xs[i] = v -/
theorem ss_iput (hu : X.A.units + 64 < cLine) (ho : SE X (wt X cl E) o do') (hi : SE X (wt X cl E) i di) (hv : SE X (wt X cl E) e de)
    (ha : ∀ v, assign (.Subscript o i pos') X.env v = (do
      let ov ← holding [v] (eval o X.env)
      let iv ← holding [v, ov] (eval i X.env)
      standAt pos'
      holding [v, ov, iv] (setItem ov iv v)
      release [v, ov, iv] []) := by intro _; rfl)
    (hs : swapsWithSole [.Subscript o i pos'] e pos.line X.env = pure false := by rfl) (hw : swappedStores [.Subscript o i pos'] e X.env = pure none := by rfl) (h1 : (assignEach [.Subscript o i pos'] X.env).map (·.2) = [assign (.Subscript o i pos') X.env] := by rfl) :
    SS X (wt X cl E) (.Assign [.Subscript o i pos'] e pos) (dIPut do' di de) := ps_imp (ps_asg hv (pg_sub ho hi (set_or set_list (set_dik hu)) ha) hs hw h1) fun D σ H ⟨ρ, δ, S, R, N, P⟩ =>
  ⟨ρ, δ, S, R, N, PostS.res P fun ρ1 H1 v d S1 e1 R1 r1 P1 => ⟨ρ1, δ, S1, R1, N.mono e1, PostS.res P1 fun ρ2 H2 x dx S2 e2 R2 r2 P2 => ⟨ρ2, δ, S2, R2, (N.mono e1).mono e2, PostS.res P2 fun ρ3 H3 y dy S3 e3 R3 r3 P3 => by
    split at P3
    · split at P3
      · rename_i S4 h4
        obtain ⟨a, us, l, ex, ey, g1, g2, ew, R4⟩ := put_ix R3 (r2.mono e3) r3 ((r1.mono e2).mono e3) h4
        exact .inl ⟨a, us, _, l, ex, ey, g1, g2, P3 ρ3 _ σ ew R4 ((((N.mono e1).mono e2).mono e3).mono ew)⟩
      · exact P3.elim
    · split at P3
      · rename_i S4 h4
        obtain ⟨a, b, xs, k, ex, ey, g1, g2, g3, g4, g5, g6, ew, R4⟩ := put_dik R3 (r2.mono e3) r3 ((r1.mono e2).mono e3) h4
        exact .inr ⟨a, b, xs, k, ex, ey, g1, g2, g3, g4, g5, g6, P3 ρ3 _ σ ew R4 ((((N.mono e1).mono e2).mono e3).mono ew)⟩
      · exact P3.elim⟩⟩⟩
theorem pps_of {ks : List (Option Expr)} {vs : List Expr} {l : List (Str × DE)} {trs : List (TE × TE)} (h : PPs X pos ks vs trs) (ht : trs = l.map fun p => (tC (.str p.1), tE (wt X cl E) p.2)) : ∀ (σ : L2.St) (H : Hp) (Q : List (V × V) → Hp → Prop),
    tG (wt X cl E) (fun ρ H (ps : List (V × V)) (ds : List (Key × D)) => ∃ kws : List (Key × V), ps = kws.map (fun kv => (kV kv.1, kv.2)) ∧ DvKs X.K ρ H kws ds) (dPairs l) σ H Q → tPairs trs σ H Q := by
  subst ht
  clear h
  induction l with
  | nil => exact fun σ H Q ⟨ρ, δ, S, R, N, P⟩ => P ρ H [] (Ext.refl ρ H) R ⟨[], rfl, .nil⟩
  | cons p l ih =>
    intro σ H Q h
    show tE (wt X cl E) p.2 σ H fun y H1 => tPairs (l.map fun p => (tC (.str p.1), tE (wt X cl E) p.2)) σ H1 fun ps H3 => Q ((.str p.1, y) :: ps) H3
    refine tG.step (Q' := fun y H1 => tPairs (l.map fun p => (tC (.str p.1), tE (wt X cl E) p.2)) σ H1 fun ps H3 => Q ((.str p.1, y) :: ps) H3) h fun ρ δ ρ1 S1 H1 v d N e R r P => ih σ H1 _ ⟨ρ1, δ, S1, R, N, (Post.bnd P).imp fun ps H2 ⟨ρ2, S2, ds, e2, R2, ⟨kws, h1, h2⟩, P2⟩ => ?_⟩
    exact P2 ρ2 H2 _ (Ext.refl ρ2 H2) R2 ⟨(.inr p.1, v) :: kws, by rw [h1]; rfl, .cons (r.mono e2) h2⟩
theorem se_disp {ks : List (Option Expr)} {vs : List Expr} (l : List (Str × DE)) (h : PPs X pos ks vs (l.map fun p => (tC (.str p.1), tE (wt X cl E) p.2))) (hall : ks.all (·.isSome) = true) (hl : ks.length = vs.length) (h0 : ks ≠ []) (h15 : ks.length ≤ 15) : SE X (wt X cl E) (.Dict ks vs pos) (dDisp l) :=
  pe_imp (pe_disp h hall hl h0 h15) fun σ H Q ⟨ρ, δ, S, R, N, P⟩ p hp => by
    have e1 : Ext ρ H (ρ ++ [p]) (upd H p (.dK [])) := Ext.newC hp
    have R1 : Rep X.K (ρ ++ [p]) (upd H p (.dK [])) (S ++ [.dic []]) := R.newC hp ⟨[], upd_same, .nil⟩
    have hc : (ρ ++ [p])[S.length]? = some p := by
      rw [← R.len, List.getElem?_append_right (Nat.le_refl _), Nat.sub_self]
      rfl
    have P1 : Post (wt X cl E) (Dv X.K) (ρ ++ [p]) (upd H p (.dK [])) (dDisp l δ S) Q := Post.base e1 P
    refine pps_of h rfl σ _ _ ⟨ρ ++ [p], δ, S ++ [.dic []], R1, N.mono e1, (Post.bnd P1).imp fun ps H2 ⟨ρ2, S2, ds, e2, R2, ⟨kws, h1, h2⟩, P2⟩ => ?_⟩
    dsimp only at P2
    split at P2
    · rename_i hd
      split at P2
      · rename_i h15
        have hc2 := e2.pre _ _ hc
        obtain ⟨kz, g1, g2⟩ := R2.at _ p _ hc2 hd
        cases g2
        have ew : Ext ρ2 H2 ρ2 (upd H2 p (.dK (mergeK [] kws))) := R2.ext_write hc2
        exact ⟨g1, kws, h1, by rw [h2.length]; exact h15, P2 ρ2 _ _ ew (R2.write (c := .dic (mergeD [] ds)) hc2 ⟨_, upd_same, (h2.merge .nil).mono ew⟩) (.cell hc2)⟩
      · exact P2.elim
    · exact P2.elim
theorem sp_nil : PPs X pos [] [] ([] : List (TE × TE)) := pps_nil
theorem sp_cons {k : Str} {j : Nat} {p2 : Pos} {ks : List (Option Expr)} {vs : List Expr} {trs : List (TE × TE)} (hv : SE X (wt X cl E) e de) (h : PPs X pos ks vs trs) : PPs X pos (some (.Constant (.str k) j p2) :: ks) (e :: vs) ((tC (.str k), tE (wt X cl E) de) :: trs) := pps_cons pe_str hv h
end

/-! ### raise, try -/
def dRaise (c : Str) : DS := fun _ S => .exc c S
/-- try: body; except c: return b -/
def dTryR (body : DS) (c : Str) (b : Bool) : DS := fun δ S => match body δ S with
  | .exc c' S1 => if c' = c then .rt (.bl b) S1 else .bad
  | o => o
section
variable {X : Cx} {cl : Str → Value} {E : XK}
theorem pmk_own0 {C : Addr} {bmB : List Value} {B newId initId : String} {x : Str} {p pos : Pos} (F : ExcBaseFacts B newId initId bmB) (q : PySem.W.excIn X.K C bmB newId = true) (gC : X.mg x = some (.ref C)) (kC : PySem.W.keepIn X.K (.ref C) = true) (r : Raises X (.ref C)) (hg : Gl X x)
    (hdb : (x == ("__debug__" : Str)) = false := by decide) : PMk X (.Call (.Name x p) [] [] pos) (fun _ H Q => Q (.ref C) none H) := by
  intro pins s σ H Q I h
  refine wpAny_Call_Name_kw (ld_glob I hg gC ?_ hdb)
  refine PySem.W.callWith_K0 I.kIn kC ?_
  obtain ⟨bm, N, nm, qn, bs, hdct, sn, sub, ab, col, dd, k0, k1, k2, k3, k5, mN, hC, hN, hni, T⟩ := exc_obj I.kIn q
  show wpAny _ _ (call (.ref C) []) _ _ _
  exact wpAny_call_exc_subT F T hC hN hni (fun h' e hm => mk_of I hm r h (I.hok.gone hm.new)) (Nat.zero_le _)
/-- what a raised class is to the walk -/
structure Exn (K : PySem.W.Frag) (mg : Str → Option Value) (cl : Str → Value) (x : Str) : Prop where
  ex : ∃ C, mg x = some (.ref C) ∧ cl x = .ref C ∧ PySem.W.excIn K C [.type "ValueError", .type "Exception", .type "BaseException", .type "object"] "ValueError.__new__" = true ∧ PySem.W.keepIn K (.ref C) = true ∧
    PySem.W.subIn K (.ref C) (.type "BaseException") = some true ∧ PySem.W.typeIn K (.ref C) = some (.type "type") ∧ PySem.W.exmOne K (.ref C) (.ref C) = some true
theorem ss_raise {x : Str} {p pos pos' : Pos} (T : Exn X.K X.mg cl x) (hc : X.calm = true) (tk : Takes X (fun cls d _ H => E cls d H)) (hg : Gl X x) (hdb : (x == ("__debug__" : Str)) = false := by decide) : SS X (wt X cl E) (.Raise (some (.Call (.Name x p) [] [] pos')) none pos) (dRaise x) := by
  obtain ⟨C, gC, eC, xC, kC, sC, tC', _⟩ := T.ex
  refine ps_imp (ps_raise hc tk (pmk_own0 PySem.F.excBase_ValueError xC gC kC (raises_own sC tC') hg hdb)) fun D σ H ⟨ρ, δ, S, R, N, P⟩ => ?_
  have q := P ρ H (Ext.refl ρ H) R
  show E (.ref C) none H
  rw [← eC]
  exact q
theorem ss_try {x : Str} {np p2 p3 pos pos' : Pos} {j : Nat} {body : List Stmt} {bd : DS} {b : Bool} (T : Exn X.K X.mg cl x) (hs : X.stack = X.env :: X.outer) (hf : X.env.frame = some X.env.locals) (hg : Gl X x) (hdb : (x == ("__debug__" : Str)) = false) (tk : Takes X (fun cls d _ H => E cls d H))
    (hb : ∀ (W : WX) (pn : List (Addr × Obj)) (xe : Value → Shared → Prop), Takes (X.tr pn xe) W → PassesOwn (model X.prog X.w) X.A X.env xe → PSs (X.tr pn xe) body (tS ⟨X.K, cl, fun cls d H => ∀ σ, W cls d σ H⟩ bd)) :
    SS X (wt X cl E) (.Try body [.ExceptHandler (some (.Name x np)) none [.Return (some (.Constant (.bool b) j p2)) p3] pos'] [] [] pos) (dTryR bd x b) := by
  obtain ⟨C, gC, eC, xC, kC, sC, tC', xm⟩ := T.ex
  refine ps_imp (ps_try_only hs hf (c := .ref C) ⟨hg, hdb, .inl gC⟩ tk hb (fun a oe cls d pn _ _ => pss_one (ps_ret pe_bl))) fun D σ H ⟨ρ, δ, S, R, N, P⟩ => ⟨ρ, δ, S, R, N, ?_⟩
  unfold dTryR at P
  cases q : bd δ S with
  | exc c' S1 =>
    rw [q] at P
    dsimp only at P
    split at P
    · rename_i hc
      intro ρ1 H1 e1 R1 σ1
      refine ⟨true, by rw [hc]; show PySem.W.exmOne X.K (cl x) (.ref C) = some true; rw [eC]; exact xm, fun _ a _ => P ρ1 H1 (.bl b) e1 R1 (.bl b), fun z => by cases z⟩
    · exact P.elim
  | nx δ1 S1 => rw [q] at P; exact P
  | bk δ1 S1 => rw [q] at P; exact P
  | ct δ1 S1 => rw [q] at P; exact P
  | rt d1 S1 => rw [q] at P; exact P
  | bad => rw [q] at P; exact P.elim
end
end Dn
set_option Elab.async false
set_option linter.all false
set_option maxRecDepth 100000
set_option maxHeartbeats 1000000
/-! Dn6: repr, calls by keywords, a law's def that knows that no repr is under way. -/
noncomputable section
namespace Dn
open PySem PySem.Spec PyProof.Rows L2

/-! ### repr -/
def reprOk (p : PyData) : Bool := p.showable && p.leavesShort 1921 && decide (p.depth ≤ 50) && decide (p.weight ≤ 8000) && !p.hasDict
def bRepr : DF := fun ds S => match ds with
  | [d] => match toPy 60 S d with
    | some p => if reprOk p = true then .ok (.str p.shown) S else .bad
    | none => .bad
  | _ => .bad
section
variable {X : Cx} {cl : Str → Value} {E : XK}
theorem repr_fits {p : PyData} (h : p.leavesShort 1921 = true) (hw : p.weight ≤ 8000) : p.shown.length ≤ sizeLine := by
  have e := PyData.shown_le 1921 (by decide) p h
  have e2 : (1921 + 2) * p.weight ≤ (1921 + 2) * 8000 := Nat.mul_le_mul_left _ hw
  rw [sizeLine_eq]
  omega
theorem cd_repr (hg : X.A.guards = some []) (hu : X.A.units + 64 < cLine) : CallD X cl E (.builtin "repr") bRepr := by
  intro pins s σ H xs us Q I r h
  obtain ⟨ρ, S, ds, R, rs, P⟩ := h
  unfold bRepr at P
  split at P
  · rename_i d
    split at P
    · rename_i p hp
      split at P
      · rename_i hok
        obtain ⟨v, rfl, rv⟩ := one_of rs
        obtain ⟨u, rfl, ru⟩ := r.one
        unfold reprOk at hok
        simp only [Bool.and_eq_true, decide_eq_true_eq, Bool.not_eq_true'] at hok
        obtain ⟨⟨⟨⟨k1, k2⟩, k3⟩, k4⟩, k5⟩ := hok
        have fit := repr_fits k2 k4
        have dp := toPy_dp R _ _ _ _ rv hp
        obtain ⟨as, rd⟩ := Dp.reads I p v u dp ru
        have fin : Q (.str p.shown) H := P.now R (.str _)
        cases dp with
        | non =>
          cases ru
          exact PySem.P.repr_of_none ⟨.str _, H, I.tok _, ⟨_, rfl⟩, fin⟩
        | bl b =>
          cases ru
          refine PySem.P.repr_of_bool ⟨.str _, H, I.tok _, ⟨_, rfl⟩, ?_⟩
          have e : (PyData.bool b).shown = (if b then "True" else "False" : Str) := by simp only [PyData.shown]
          rw [e] at fin
          cases b <;> exact fin
        | int i =>
          obtain ⟨t, rfl⟩ := ru
          refine PySem.P.repr_of_int (by simpa [PyData.showable] using k1) ⟨.str _, H, I.tok _, ⟨_, rfl⟩, ?_⟩
          simpa only [PyData.shown] using fin
        | str x =>
          obtain ⟨t, rfl⟩ := ru
          refine PySem.P.repr_of_str ⟨.str _, H, I.tok _, ⟨_, rfl⟩, ?_⟩ (by simpa only [PyData.shown] using fit)
          simpa only [PyData.shown] using fin
        | lst a b =>
          cases ru
          exact repr_of_reads' rd k1 (PyData.noDict_hsm k5) hg (by omega) (fun _ _ e => e) (fun h' u tk hk => ⟨.str _, H, I.kept hk, ⟨_, rfl⟩, fin⟩) fit
        | tup a b =>
          cases ru
          exact repr_of_reads' rd k1 (PyData.noDict_hsm k5) hg (by omega) (fun _ _ e => e) (fun h' u tk hk => ⟨.str _, H, I.kept hk, ⟨_, rfl⟩, fin⟩) fit
      · exact P.elim
    · exact P.elim
  · exact P.elim
end

/-! ### f(k = v, ..): keywords alone -/
def permD (is : List Nat) (ds : List D) : List D := is.filterMap fun i => ds[i]?
def dCallK (f : DF) (is : List Nat) (as : DA) : DE := fun δ S => (as δ S).bnd fun ds S1 => if ds.length = is.length then f (permD is ds) S1 else .bad
structure HasK (P : Program) (w : World) (K : PySem.W.Frag) (mg : Str → Option Value) (base : Heap) (cl : Str → Value) (x : Str) (k : Nat) (ks : List Str) (is : List Nat) (g : DF) : Prop where
  ex : ∃ (f : Addr) (fd : FuncData) (ps : List Str), FnOk P w K mg base (L2.CX P w) k f fd ps (SpD K cl g) ∧ mg x = some (.ref f) ∧ PySem.W.keepIn K (.ref f) = true ∧
    ∀ (s : Shared) (ws : List Value), K.In s.heap → ws.length = is.length → BindsTo s fd ⟨[], ks.zip ws⟩ (ps.zip (is.filterMap fun i => ws[i]?))
section
variable {X : Cx} {cl : Str → Value} {E : XK} {x : Str} {p pos kpos : Pos} {e : Expr} {kws : List Keyword} {da : DA} {de : DE} {k : Nat} {g : DF} {ks : List Str} {is : List Nat} {nm : Option Str}
abbrev SK (X : Cx) (W : Wt) (kws : List Keyword) (de : DA) : Prop := PK X kws (tAs W de)
theorem pk_imp {X : Cx} {e : List Keyword} {t t' : TA} (h : PK X e t) (i : ∀ σ H Q, t' σ H Q → t σ H Q) : PK X e t' := ⟨fun pos pins s σ H Q I q => h.run pos pins s σ H Q I (i σ H Q q)⟩
theorem sk_nil : SK X (wt X cl E) [] dNil := pk_imp pk_nil fun σ H Q ⟨ρ, δ, S, R, N, P⟩ => Post.now (Rl := DvAll X.K) P R .nil
theorem sk_cons (ha : SE X (wt X cl E) e de) (hr : SK X (wt X cl E) kws da) : SK X (wt X cl E) (⟨nm, e, kpos⟩ :: kws) (dCons de da) :=
  pk_imp (pk_cons ha hr) fun σ H Q h => tG.step h fun ρ δ ρ1 S1 H1 v d N e R r P => ⟨ρ1, δ, S1, R, N, (Post.bnd P).imp fun vs H2 ⟨ρ2, S2, d2, e2, R2, r2, P2⟩ => Post.now (Rl := DvAll X.K) P2 R2 (.cons (r.mono e2) r2)⟩
theorem perm_dv {K : PySem.W.Frag} {ρ : List Addr} {H : Hp} {vs : List V} {ds : List D} {us : List Value} (h : DvAll K ρ H vs ds) (r : Vals vs us) : ∀ is : List Nat, DvAll K ρ H (is.filterMap fun i => vs[i]?) (permD is ds) ∧ Vals (is.filterMap fun i => vs[i]?) (is.filterMap fun i => us[i]?)
  | [] => ⟨.nil, .nil⟩
  | i :: is => by
    obtain ⟨i1, i2⟩ := perm_dv h r is
    unfold permD
    cases q : vs[i]? with
    | none =>
      have q2 : ds[i]? = none := by
        rw [List.getElem?_eq_none_iff] at q ⊢
        rw [← h.length]
        exact q
      rw [List.filterMap_cons, List.filterMap_cons, List.filterMap_cons, q, q2, r.none_of q]
      exact ⟨i1, i2⟩
    | some v =>
      obtain ⟨d, q2, dv⟩ := h.getV q
      obtain ⟨u, q3, ru⟩ := r.get q
      rw [List.filterMap_cons, List.filterMap_cons, List.filterMap_cons, q, q2, q3]
      exact ⟨.cons dv i1, .cons ru i2⟩
theorem se_callK (F : HasK X.prog X.w X.K X.mg X.base cl x k ks is g) (hr : Room k X.A) (hg : Gl X x) (hx : Passes (L2.CX X.prog X.w) X E) (hkw : SK X (wt X cl E) kws da)
    (hall : (backToKw pos (keywordEach kws X.env)).all (·.1.isSome) = true := by rfl) (hks : (backToKw pos (keywordEach kws X.env)).filterMap (·.1) = ks := by rfl) (hdb : (x == ("__debug__" : Str)) = false := by decide)
    (hpl : ((backTo pos (starEach [] X.env)).any (·.1) || (backToKw pos (keywordEach kws X.env)).any (·.1.isNone)) = false := by rfl) : SE X (wt X cl E) (.Call (.Name x p) [] kws pos) (dCallK g is da) := by
  obtain ⟨f, fd, ps, F, hm, hk, hb⟩ := F.ex
  refine ⟨fun pins s σ H Q I h => ?_⟩
  refine wpAny_Call_Name_kw (ld_glob I hg hm ?_ hdb)
  have h2 : tAs (wt X cl E) da σ H fun vs H1 => ∃ ρ S ds, Rep X.K ρ H1 S ∧ DvAll X.K ρ H1 vs ds ∧ ds.length = is.length ∧ Post (wt X cl E) (Dv X.K) ρ H1 (g (permD is ds) S) Q := tG.step h fun ρ δ ρ1 S1 H1 v d N e R r P => by
    split at P
    · rename_i hl
      exact ⟨ρ1, S1, d, R, r, hl, P⟩
    · exact P.elim
  refine PySem.W.callWith_KW0 (h₀ := X.base) I.ok.mod.kin hk hall (thn (hkw.run pos pins s σ H _ I h2) fun ws s1 ⟨vs, H1, I1, rv, ρ, S, ds, R, dv, hl, P⟩ => ⟨I1.kIn, ?_⟩) hpl
  rw [hks]
  obtain ⟨pd, pv⟩ := perm_dv dv rv is
  have hw : ws.length = is.length := by rw [← rv.length, dv.length, hl]
  refine wpAny_call (codeAny_mono (F.run X.A X.stack s1 H1 ⟨[], ks.zip ws⟩ (is.filterMap fun i => ws[i]?) (is.filterMap fun i => vs[i]?) Q E hr I1.env0 (hb s1 ws I1.kIn hw) pv ⟨ρ, S, permD is ds, R, pd, P⟩) fun r s' hq => ?_)
  match r, hq with
  | .error e, hq => exact hx pins σ H1 s1 e s' I1 hq
  | .ok (.ret u), hq => exact I1.after hq
  | .ok .next, hq => exact False.elim hq
  | .ok .brk, hq => exact False.elim hq
  | .ok .cont, hq => exact False.elim hq
end

/-! ### the law's own def -/
def RunG (P : Program) (w : World) (K : PySem.W.Frag) (mg : Str → Option Value) (base : Heap) (cl : Str → Value) (k : Nat) (f : Addr) (fd : FuncData) (ps : List Str) (g : DF) : Prop :=
  ∀ (A : Around) (outer : List Env) (s : Shared) (H : Hp) (args : Args) (us : List Value) (vs : List V) (Q : VK) (E : XK), Room k A → A.guards = some [] → Env0 P w K mg base A outer s H → BindsTo s fd args (ps.zip us) → Vals vs us →
    rDF ⟨K, cl, E⟩ g vs H Q → codeAny (model P w) A (.call (.ref f) args) (CR (L2.CX P w) outer P w H s Q E) s
section
variable {P : Program} {w : World} {K : PySem.W.Frag} {mg : Str → Option Value} {base : Heap} {cl : Str → Value}
theorem fn_okG {x qual : Str} {st : Stmt} {f : Addr} {fd : FuncData} {N ps : List Str} {k : Nat} {body : DS} (F : Fun K x qual st f fd) (S : FnScope N ps (defScope st))
    (hbody : ∀ (cdv : Value) (A : Around) (outer : List Env) (s : Shared) (H : Hp) (E : XK), Room k (A.deeper (envOfC qual (defScope st) s.heap.objs.size f cdv)) → (A.deeper (envOfC qual (defScope st) s.heap.objs.size f cdv)).guards = some [] →
      SB (cxOf (L2.CX P w) P w K mg base N qual (defScope st) f cdv A outer s H E) ⟨K, cl, E⟩ (defBody st) body) : RunG P w K mg base cl (k + 1) f fd ps (dFn ps.length N.length body) := by
  obtain ⟨oc, od, kV, doc, pm, an, cdv, ct, osl, rfl, lk, hcd⟩ := F.ex
  intro A outer s H args us vs Q E hr hg e0 hb r ⟨ρ, S0, ds, R, dv, hP⟩
  unfold dFn at hP
  split at hP
  case isFalse => exact hP.elim
  case isTrue hlen =>
    have hl : vs.length = ps.length := by rw [dv.length, hlen]
    have inK : K.In s.heap := e0.mod.kin.keeps fun b o e => (e0.bs b o e).1
    have nolim : s.heap.NoLimit := e0.mod.nolimit.keeps fun b o e => (e0.bs b o e).1
    have kinds : ∀ y ∈ ps.zip us, (defScope st).names.lookup y.1 = some .local ∨ ((defScope st).names.lookup y.1 = some .cell ∧ ((cellsFrom (s.heap.objs.size + 1) (defScope st).names []).lookup y.1).isSome = true) := by
      intro y hy
      obtain ⟨n, v⟩ := y
      exact (S.par n (List.of_mem_zip hy).1).imp id fun q => ⟨q, PySem.W.cellsFrom_some _ _ _ (.inl q)⟩
    refine codeAny_call_function hr.depth (inK _ _ lk) rfl S.co S.gen rfl (PySem.W.codeRec_of inK hcd) (hb _ _ _ _ (wpAny_newFunctionEnv_cells S.kind kinds fun env he s1 x => ?_))
    subst he
    refine ⟨nolim.keeps x.toInCall.keep, codeAny_func ?_⟩
    have I := inv_start (CX := L2.CX P w) (P := P) (w := w) (K := K) (mg := mg) (base := base) (qual := qual) (f := f) (cd := cdv) (E := E) S hr.hd e0 hl r x
    refine wpAny_mono ((hbody cdv A outer s H E (hr.deeper _) hg).run [] s1 (L2.start N vs) H { nx := fun _ H' => Q .non H', rt := Q } I ⟨ρ, startD N.length ds, S0, R, envR_start dv, ?_⟩) (fun fl s' hs => ?_) fun _ _ hs => hs
    · cases q : body (startD N.length ds) S0 with
      | nx δ S1 => rw [q] at hP; exact fun ρ1 H1 σ1 e1 R1 N1 => hP ρ1 H1 .non e1 R1 .non
      | rt d S1 => rw [q] at hP; exact hP
      | exc c S1 => rw [q] at hP; exact hP
      | bk δ S1 => rw [q] at hP; exact hP.elim
      | ct δ S1 => rw [q] at hP; exact hP.elim
      | bad => rw [q] at hP; exact hP.elim
    · match fl, hs with
      | .ret u, ⟨v, σ', H', J, rv, q⟩ => exact ⟨v, H', J.os, J.bare, J.base, J.hok, rv, q⟩
      | .next, ⟨σ', H', J, q⟩ => exact ⟨V.non, H', J.os, J.bare, J.base, J.hok, rfl, q⟩
      | .brk, ⟨_, _, _, q⟩ => exact False.elim q
      | .cont, ⟨_, _, _, q⟩ => exact False.elim q
end
section
open PySem.W
/-- at the heap behind the top: the law's own call, its script a list that is known to the object or written at the top; cs: code objects and their tables -/
theorem lawG {P : Program} {w : World} {K : PySem.W.Frag} {mg mb : Str → Option Value} {cl : Str → Value} {k : Nat} {fa a : Addr} {cs : List (Addr × Addr)} {fd : FuncData} {x : Str} {g : DF} {s₁ : Shared} {vs : List Value} {ns : List Int}
    (KX : K.In s₁.heap) (hns : s₁.heap.Ns mainGlobals mg) (hb : s₁.heap.Ns builtinsNs mb) (hbb : ∀ x : Str, x ≠ "__name__" → mb x = bootBuiltins x) (hlim : s₁.heap.NoLimit) (hgen : s₁.gens = #[])
    (hT : ∀ p ∈ cs, s₁.heap.get? p.2 = some { cls := .none, data := .fields #[] }) (nT : ∀ p ∈ cs, K.lookup p.2 = none) (C : ∀ p ∈ cs, PySem.W.CodeHd s₁.heap p.1 p.2) (hTT : ∀ p ∈ TTof K, p.1 ∈ cs.map (·.2))
    (hbm : ∃ (bm : Addr) (ob : Obj), mg "__builtins__" = some (.ref bm) ∧ bm ≠ builtinsNs ∧ s₁.heap.get? bm = some ob ∧ ob.cls = .type "module" ∧ ob.dict = some builtinsNs ∧ ob.data = .plain)
    (ha : s₁.heap.get? a = some { cls := .type "list", data := .seq vs.toArray }) (hi : IntsAre vs ns) (hl : ns.length ≤ sizeLine) (hr : Room k callerA)
    (F : ∀ base : Heap, K.In base → base.Ns mainGlobals mg → (∀ p ∈ cs, LamX.TabB base mg p.1 p.2) → RunG P w K mg base cl k fa fd [x] g) (hbind : ∀ (s : Shared) (u : Value), BindsTo s fd ⟨[u], []⟩ [(x, u)])
    (hD : ∃ S', g [.ro (ns.map .int)] [] = .ok (.bl true) S') :
    codeAny (model P w) callerA (.call (.ref fa) ⟨[.ref a], []⟩) (fun r s' => r = .ok (.ret (.bool true)) ∧ OldK s₁.heap s'.heap ∧ s'.os = s₁.os ∧ AllBare s'.gens) s₁ := by
  obtain ⟨S', hD⟩ := hD
  have rv := vals_ints hi
  have lenV := hi.length
  have numsD : ∀ (ρ : List Addr) (H : Hp) (l : List Int), DvAll K ρ H (l.map V.int) (l.map D.int) := by
    intro ρ H l
    induction l with
    | nil => exact .nil
    | cons z l ih => exact .cons (.int z) ih
  have isT : ∀ b : Addr, b ∈ cs.map (·.2) → s₁.heap.get? b = some { cls := .none, data := .fields #[] } := fun b hb => by
    obtain ⟨p, hp, e⟩ := List.mem_map.mp hb
    rw [← e]
    exact hT p hp
  have aT : a ∉ cs.map (·.2) := fun z => by
    have q := isT a z
    rw [ha] at q
    have z' : Data.seq vs.toArray _ = Data.fields #[] := congrArg Obj.data (Option.some.inj q)
    cases z'
  have memT : ∀ p ∈ cs, p.2 ∈ cs.map (·.2) := fun p hp => List.mem_map.mpr ⟨p, hp, rfl⟩
  -- from an abstract heap in which nothing but the script and the tables may be tracked
  have core : ∀ H : Hp, (∀ p ∈ cs, H p.2 = some (.tbl #[])) → (∀ b, H b = none ∨ b ∈ cs.map (·.2) ∨ ∃ o xs, H b = some (.frz o (.lst xs))) → SqL K H a (ns.map V.int) → ((∃ o, H a = some (.frz o (.lst (ns.map V.int)))) ∨ ∀ H', SqL K H' a (ns.map V.int)) →
      HOk P w H s₁.heap → (∀ b, H b ≠ none → b = a ∨ b ∈ cs.map (·.2)) → (H a ≠ none → K.lookup a = none) →
      codeAny (model P w) callerA (.call (.ref fa) ⟨[.ref a], []⟩) (fun r s' => r = .ok (.ret (.bool true)) ∧ OldK s₁.heap s'.heap ∧ s'.os = s₁.os ∧ AllBare s'.gens) s₁ := by
    intro H hH hO hS hF hok hA hK
    have base_of : ∀ {b : Addr} {o : Obj}, s₁.heap.get? b = some o → H b = none → (hidT s₁.heap H).get? b = some o := fun e n => hidT_get e n
    have noD : ∀ {b : Addr} {o : Obj}, s₁.heap.get? b = some o → (∀ vs n, o.data ≠ .seq vs n) → o.data ≠ .fields #[] → H b = none := fun {b o} e h1 h2 => by
      cases q : H b with
      | none => rfl
      | some u =>
        rcases hA b (by rw [q]; simp) with e' | e'
        · rw [e', ha] at e
          cases e
          exact (h1 _ _ rfl).elim
        · rw [isT b e'] at e
          cases e
          exact (h2 rfl).elim
    have noA : ∀ {b : Addr} {o : Obj} {es : Array DictEntry} {ep : Nat}, s₁.heap.get? b = some o → o.data = .dict es ep → H b = none := fun {b o es ep} e d => by
      refine noD e (fun vs n z => ?_) fun z => ?_
      · rw [d] at z
        cases z
      · rw [d] at z
        cases z
    have nsK : ∀ {b : Addr} {m : Str → Option Value}, s₁.heap.Ns b m → (hidT s₁.heap H).Ns b m := fun {b m} ⟨o, es, ep, e, d, r⟩ => ⟨o, es, ep, base_of e (noA e d), d, r⟩
    have hKb : K.In (hidT s₁.heap H) := fun b o e => base_of (KX b o e) (by
      cases q : H b with
      | none => rfl
      | some u =>
        rcases hA b (by rw [q]; simp) with e' | e'
        · rw [e'] at e q
          rw [hK (by rw [q]; simp)] at e
          cases e
        · obtain ⟨p, hp, ep⟩ := List.mem_map.mp e'
          rw [← ep, nT p hp] at e
          cases e)
    have hM : L2.Mod K mg (hidT s₁.heap H) := ⟨hKb, nsK hns, ⟨mb, nsK hb, hbb⟩, let ⟨mc, h1, h2⟩ := hlim; ⟨mc, nsK h1, h2⟩⟩
    have TB : ∀ p ∈ cs, LamX.TabB (hidT s₁.heap H) mg p.1 p.2 := fun p hp => by
      have hTp := hT p hp
      refine ⟨?_, ?_, fun z => ?_⟩
      · obtain ⟨o, us, file, tf, flags, tg, inF, text, tt, e1, r1, r2, r3, r4, r5, r6, r7, r8, hne⟩ := C p hp
        refine ⟨o, us, file, tf, flags, tg, inF, text, tt, base_of e1 (noD e1 (fun vs n z => ?_) fun z => ?_), r1, r2, r3, r4, r5, r6, r7, r8, hne⟩
        · rw [r2] at z
          cases z
        · rw [r2] at z
          cases z
          simp at r3
      · obtain ⟨bm, ob, b1, b2, b3, b4, b5, b6⟩ := hbm
        have nG : bm ≠ mainGlobals := fun q => by
          obtain ⟨o, es, ep, e, hd, _⟩ := hns
          rw [q, e] at b3
          cases b3
          rw [hd] at b6
          cases b6
        have nP : bm ≠ p.2 := fun q => by
          rw [q, hTp] at b3
          cases b3
          cases b6
        refine ⟨bm, ob, b1, b2, nG, nP, base_of b3 (noD b3 (fun vs n z => ?_) fun z => ?_), b4, b5, b6⟩
        · rw [b6] at z
          cases z
        · rw [b6] at z
          cases z
      · obtain ⟨o, es, ep, e, hd, _⟩ := hns
        rw [z, hTp] at e
        cases e
        cases hd
    have e0 : Env0 P w K mg (hidT s₁.heap H) callerA [] s₁ H := ⟨rfl, hM, fun b o e => of_hidT e, Nat.le_of_eq (hidT_size _ _), trivial, fun b hb => absurd (show b ∈ ([] : List Addr) from hb) (by simp), hok, .of_eq hgen⟩
    have tabs : LamX.Tabs (TTof K) H := fun p hp => by
      obtain ⟨q, hq, e⟩ := List.mem_map.mp (hTT p hp)
      refine LamX.TabS.nil ?_
      rw [← e]
      exact hH q hq
    have sp : rDF ⟨K, cl, fun _ _ _ => False⟩ g [.ref a] H (fun v _ => v = .bl true) := by
      refine ⟨[], [], [.ro (ns.map D.int)], ⟨rfl, fun i j b e => (by simp at e), fun n b c e => (by simp at e), tabs⟩, .cons (.ro hS hF (numsD _ _ _)) .nil, ?_⟩
      rw [hD]
      intro ρ' H' v e R r
      exact r.blI
    refine codeAny_mono (F _ hKb (nsK hns) TB callerA [] s₁ H ⟨[.ref a], []⟩ [.ref a] [.ref a] _ _ hr rfl e0 (hbind s₁ (.ref a)) (.cons rfl .nil) sp) fun r s' h => ?_
    match r, h with
    | .error e, h =>
      obtain ⟨_, _, _, _, _, _, _, _, _, _, _, _, z⟩ := h
      exact z.elim
    | .ok .next, h => exact False.elim h
    | .ok .brk, h => exact False.elim h
    | .ok .cont, h => exact False.elim h
    | .ok (.ret u), ⟨v, H', os, bare, un, hok', r', q⟩ =>
      obtain rfl : v = .bl true := q
      obtain rfl : u = Value.bool true := r'
      have key : ∀ b o, b ∉ cs.map (·.2) → s₁.heap.get? b = some o → s'.heap.get? b = some o := fun b o nb e => by
        cases q : H b with
        | none => exact un.keep b o e q (by intro z; exact absurd (show b ∈ ([] : List Addr) from z) (by simp)) (by simp)
        | some u =>
          rcases hO b with z | z | ⟨ob, xs, z⟩
          · rw [q] at z; cases z
          · exact absurd z nb
          · have z2 := un.frzs b ob _ z
            obtain ⟨e1, _⟩ := hok b _ z
            obtain ⟨e2, _⟩ := hok' b _ z2
            rw [e] at e1; cases e1
            exact e2
      have grown : ∀ p ∈ cs, ∃ more : Array Value, s'.heap.get? p.2 = some { cls := .none, data := .fields more } := fun p hp => by
        obtain ⟨more, z⟩ := un.tbls p.2 #[] (hH p hp)
        exact ⟨_, hok' p.2 _ z⟩
      refine ⟨rfl, ⟨fun b o e => ?_, fun b o e => ?_⟩, os, bare⟩
      · by_cases hb : b ∈ cs.map (·.2)
        · obtain ⟨p, hp, ep⟩ := List.mem_map.mp hb
          obtain ⟨more, hm⟩ := grown p hp
          rw [← ep] at e ⊢
          rw [hT p hp] at e
          cases e
          exact .inr (.inl ⟨((C p hp).tab (hT p hp)).isCodeTable, rfl, #[], more, rfl, by rw [Array.empty_append]; exact hm⟩)
        · exact .inl (key b o hb e)
      · by_cases hb : b ∈ cs.map (·.2)
        · obtain ⟨p, hp, ep⟩ := List.mem_map.mp hb
          obtain ⟨more, hm⟩ := grown p hp
          rw [← ep]
          exact ⟨_, hm⟩
        · exact ⟨o, key b o hb e⟩
  cases hk : K.lookup a with
  | some o =>
    have e := KX a o hk
    rw [ha] at e
    cases e
    have all : ∀ H' : Hp, SqL K H' a (ns.map V.int) := fun H' => .inr ⟨_, vs.toArray, _, hk, rfl, rfl, rfl, by rw [List.size_toArray, lenV]; exact hl, by simpa using rv⟩
    refine core (fun b => if b ∈ cs.map (·.2) then some (.tbl #[]) else none) (fun p hp => if_pos (memT p hp)) (fun b => ?_) (all _) (.inr all) (fun b u z => ?_) (fun b z => ?_) fun z => absurd (show (if a ∈ cs.map (·.2) then some (HO.tbl #[]) else none) = none from if_neg aT) z
    · by_cases hb : b ∈ cs.map (·.2)
      · exact .inr (.inl hb)
      · exact .inl (if_neg hb)
    · by_cases hb : b ∈ cs.map (·.2)
      · have z' := (if_pos hb).symm.trans z
        cases z'
        exact isT b hb
      · have z' := (if_neg hb).symm.trans z
        cases z'
    · by_cases hb : b ∈ cs.map (·.2)
      · exact .inr hb
      · exact absurd (if_neg hb) z
  | none =>
    have at' : (fun b => if b = a then some (HO.frz { cls := .type "list", data := .seq vs.toArray } (.lst (ns.map V.int))) else if b ∈ cs.map (·.2) then some (.tbl #[]) else none : Hp) a = some (.frz { cls := .type "list", data := .seq vs.toArray } (.lst (ns.map V.int))) := if_pos rfl
    refine core (fun b => if b = a then some (.frz { cls := .type "list", data := .seq vs.toArray } (.lst (ns.map V.int))) else if b ∈ cs.map (·.2) then some (.tbl #[]) else none) (fun p hp => (if_neg (show ¬ p.2 = a from fun z => aT (by rw [← z]; exact memT p hp))).trans (if_pos (memT p hp))) (fun b => ?_)
      (.inl (.inr ⟨{ cls := .type "list", data := .seq vs.toArray }, if_pos rfl⟩)) (.inl ⟨_, at'⟩) (fun b u z => ?_) (fun b z => ?_) fun _ => hk
    · by_cases hb : b = a
      · exact .inr (.inr ⟨_, _, if_pos hb⟩)
      · by_cases hb2 : b ∈ cs.map (·.2)
        · exact .inr (.inl hb2)
        · exact .inl ((if_neg hb).trans (if_neg hb2))
    · by_cases hb : b = a
      · have z' := (if_pos hb).symm.trans z
        cases z'
        rw [hb]
        exact ⟨ha, by rw [List.length_map]; exact hl, vs, _, rv, ha⟩
      · have z1 := (if_neg hb).symm.trans z
        by_cases hb2 : b ∈ cs.map (·.2)
        · have z' := (if_pos hb2).symm.trans z1
          cases z'
          exact isT b hb2
        · have z' := (if_neg hb2).symm.trans z1
          cases z'
    · by_cases hb : b = a
      · exact .inl hb
      · by_cases hb2 : b ∈ cs.map (·.2)
        · exact .inr hb2
        · exact absurd ((if_neg hb).trans (if_neg hb2)) z
end
end Dn
set_option Elab.async false
set_option linter.all false
set_option maxRecDepth 100000
set_option maxHeartbeats 1000000
/-! Dn7: odds and ends: -x, {}, list(range(n)), a written tuple of texts and its index. -/
noncomputable section
namespace Dn
open PySem PySem.Spec PyProof.Rows L2
def dNeg (a : DE) : DE := fun δ S => (a δ S).bnd fun d S1 => match d with
  | .int i => .ok (.int (-i)) S1
  | _ => .bad
def dDic0 : DE := fun _ S => .ok (.cell S.length) (S ++ [.dic []])
def dListRg (a : DE) : DE := fun δ S => (a δ S).bnd fun d S1 => match d with
  | .int n => if decide (0 ≤ n ∧ n ≤ 100000) = true then .ok (.cell S1.length) (S1 ++ [.lst ((List.range n.toNat).map fun i => D.int (i : Nat))]) else .bad
  | _ => .bad
def ixStr (ys : List Str) (z : Str) : Option Nat := match ys with
  | [] => none
  | y :: r => if y = z then some 0 else (ixStr r z).map (· + 1)
def dIxC (ys : List Str) (a : DE) : DE := fun δ S => (a δ S).bnd fun d S1 => match d with
  | .str z => match ixStr ys z with
    | some j => .ok (.int (j : Nat)) S1
    | none => .bad
  | _ => .bad
theorem ixStr_some : ∀ {ys : List Str} {z : Str} {j : Nat}, ixStr ys z = some j → ys[j]? = some z ∧ ∀ m, m < j → ys[m]? ≠ some z
  | [], _, _, h => by cases h
  | y :: r, z, j, h => by
    unfold ixStr at h
    split at h
    · rename_i e
      cases h
      exact ⟨by rw [e]; rfl, fun m hm => absurd hm (Nat.not_lt_zero _)⟩
    · rename_i e
      obtain ⟨i, h1, rfl⟩ := Option.map_eq_some_iff.mp h
      obtain ⟨a, b⟩ := ixStr_some h1
      refine ⟨a, fun m hm => ?_⟩
      cases m with
      | zero => exact fun z => e (Option.some.inj z)
      | succ m => exact b m (by omega)
/-- a module's name that holds a written tuple of texts -/
structure TupC (K : PySem.W.Frag) (mg : Str → Option Value) (x : Str) (ys : List Str) : Prop where
  ex : ∃ (a : Addr) (o : Obj) (n : Nat) (its : Array Value), mg x = some (.ref a) ∧ K.lookup a = some o ∧ o.cls = .type "tuple" ∧ o.dict = none ∧ o.data = .seq its n ∧ its.size ≤ sizeLine ∧ Vals (ys.map V.str) its.toList
section
variable {X : Cx} {cl : Str → Value} {E : XK} {a : Expr} {da : DE} {pos p apos cpos : Pos}
theorem se_neg (ha : SE X (wt X cl E) a da) : SE X (wt X cl E) (.UnaryOp .USub a pos) (dNeg da) := pe_imp (pe_un un_neg ha) fun σ H Q h => tG.step h fun ρ δ ρ1 S1 H1 v d N e R r P => by
  cases r with
  | int i => exact ⟨i, rfl, P.now R (.int _)⟩
  | _ => exact P.elim
theorem se_dic0 : SE X (wt X cl E) (.Dict [] [] pos) dDic0 := pe_imp pe_dnewK fun σ H Q ⟨ρ, δ, S, R, N, P⟩ p hp => by
  refine P (ρ ++ [p]) _ _ (Ext.newC hp) (R.newC hp ⟨[], upd_same, .nil⟩) (.cell ?_)
  rw [← R.len, List.getElem?_append_right (Nat.le_refl _), Nat.sub_self]
  rfl
theorem rg_dv {K : PySem.W.Frag} {ρ : List Addr} {H : Hp} : ∀ l : List Nat, DvAll K ρ H (l.map fun i => V.int (0 + (i : Nat))) (l.map fun i => D.int (i : Nat))
  | [] => .nil
  | i :: l => by
    refine .cons ?_ (rg_dv l)
    show Dv K ρ H (.int (0 + ((i : Nat) : Int))) (.int (i : Nat))
    rw [Int.zero_add]
    exact .int _
theorem se_listRg {p2 pos2 : Pos} (hc : X.calm = true) (hgr : Gl X "range") (hmr : X.mg "range" = none) (hg : Gl X "list") (hm : X.mg "list" = none) (ha : SE X (wt X cl E) a da) (na : starEach [a] X.env = (false, eval a X.env) :: starEach [] X.env := by rfl)
    (na2 : starEach [.Call (.Name "range" p2) [a] [] pos2] X.env = (false, eval (.Call (.Name "range" p2) [a] [] pos2) X.env) :: starEach [] X.env := by rfl) : SE X (wt X cl E) (.Call (.Name "list" p) [.Call (.Name "range" p2) [a] [] pos2] [] pos) (dListRg da) :=
  pe_imp (pe_listRg hc hg hm (prg_1 hgr hmr ha na) na2) fun σ H Q h => tG.step h fun ρ δ ρ1 S1 H1 v d N e R r P => by
    cases r with
    | int n =>
      dsimp only at P
      split at P
      · rename_i hn
        have hn' := of_decide_eq_true (p := 0 ≤ n ∧ n ≤ 100000) hn
        refine ⟨n, rfl, RgOk.of_le (by omega) (by omega) (by omega) (by omega), fun q hq => ?_⟩
        refine P (ρ1 ++ [q]) _ _ (Ext.newC hq) (R.newC hq ⟨_, upd_same, ?_⟩) (.cell ?_)
        · unfold rgV
          rw [Int.sub_zero]
          exact rg_dv _
        · rw [← R.len, List.getElem?_append_right (Nat.le_refl _), Nat.sub_self]
          rfl
      · exact P.elim
    | _ => exact P.elim
theorem se_ixC {x : Str} {ys : List Str} (T : TupC X.K X.mg x ys) (hg : Gl X x) (ha : SE X (wt X cl E) a da) (hdb : (x == ("__debug__" : Str)) = false := by decide)
    (hbase : attributeBase (.Name x p) "index" X.env (eval (.Name x p) X.env) = eval (.Name x p) X.env := by rfl)
    (hfew : ((backTo cpos (starEach [a] X.env)).all (fun x => !x.1) && (backToKw cpos (keywordEach [] X.env)).all (fun x => x.1.isSome) && decide ([a].length + ([] : List Keyword).length + (if ([] : List Keyword).isEmpty then 0 else 1) < 30)) = true := by rfl)
    (hline : (apos.endLine == cpos.line) = true := by rfl) (hs : starEach [a] X.env = (false, eval a X.env) :: starEach [] X.env := by rfl) (hplain : (backTo cpos (starEach [] X.env)).any (·.1) = false := by rfl) :
    SE X (wt X cl E) (.Call (.Attribute (.Name x p) "index" apos) [a] [] cpos) (dIxC ys da) := by
  obtain ⟨ad, o, n, its, hm, hk, hc, hd, hs1, hz, hv⟩ := T.ex
  refine pe_imp (pe_bm PySem.F.plainAttrs_tuple PySem.F.slot_tuple_index PySem.F.type_tuple_index mt_tup_index (pe_glob (v := .ref ad) hg hm rfl hdb) (pa_cons ha pa_nil hs) hbase hfew hline hs hplain) fun σ H Q h => ?_
  refine ⟨.inr (.inl ⟨rfl, o, hk, hc, hd⟩), tG.step h fun ρ δ ρ1 S1 H1 v d N e R r P => ?_⟩
  cases r with
  | str z =>
    dsimp only at P
    split at P
    · rename_i j hj
      obtain ⟨h1, h2⟩ := ixStr_some hj
      exact ⟨ad, ys, z, j, rfl, rfl, .inr ⟨o, its, n, hk, hc, hs1, hz, hv⟩, h1, h2, P.now R (.int _)⟩
    · exact P.elim
  | _ => exact P.elim
end
end Dn
set_option Elab.async false
set_option linter.all false
set_option maxRecDepth 100000
set_option maxHeartbeats 1000000
/-! Dn8: the head's facts by names, one more Bool; the law's end over them. -/
noncomputable section
namespace Dn
open PySem PySem.Spec PyProof.Rows L2
abbrev AlM : Type := Bool × He.Al
def obsMK (fa : List He.Fa) (fn : List He.FnD) (ex : PySem.W.Frag → Bool) (K : PySem.W.Frag) : AlM := (ex K, He.obsE fa fn K)
def valM (fn : List He.FnD) : AlM := (true, He.valE fn)
def SaysM (fa : List He.Fa) (fn : List He.FnD) (ex : PySem.W.Frag → Bool) (K : PySem.W.Frag) : Prop := obsMK fa fn ex K = valM fn
def obsM (n : Nat) (fa : List He.Fa) (fn : List He.FnD) (ex : PySem.W.Frag → Bool) (g : Addr → Option Obj) : AlM := obsMK fa fn ex (He.frT g (He.asG g n))
/-- no empty table is known -/
def NoTab (K : PySem.W.Frag) : Prop := ∀ a o, K.lookup a = some o → He.emptyTab o = false
theorem NoTab.none {K : PySem.W.Frag} {h : Heap} (n : NoTab K) (X : K.In h) {P : Addr} (hP : h.get? P = some { cls := .none, data := .fields #[] }) : K.lookup P = Option.none := by
  cases e : K.lookup P with
  | none => rfl
  | some o =>
    have q := X P o e
    rw [hP] at q
    have z := n P o e
    rw [← Option.some.inj q] at z
    cases z
def hookM (n : Nat) (fa : List He.Fa) (fn : List He.FnD) (ex : PySem.W.Frag → Bool) : PySem.W.Hook where
  α := AlM
  obs := fun s => obsM n fa fn ex s.heap.get?
  val := fun _ => valM fn
  says := fun _ h => ∃ K : PySem.W.Frag, K.In h ∧ NoTab K ∧ SaysM fa fn ex K
  of := fun _ _ e => ⟨_, He.frT_in, fun _ _ z => (He.frT_mem z).2, e⟩
  keeps := fun _ _ _ ⟨K, hK, c⟩ k => ⟨K, PySem.W.Frag.In.keeps hK k, c⟩
theorem obsM_eq {n : Nat} {fa : List He.Fa} {fn : List He.FnD} {ex : PySem.W.Frag → Bool} {g : Addr → Option Obj} {s : Shared} (h : ∀ a, g a = s.heap.get? a) : obsM n fa fn ex g = (hookM n fa fn ex).obs s := by
  have e : g = s.heap.get? := funext h
  rw [e] <;> rfl
theorem SaysM.e {fa : List He.Fa} {fn : List He.FnD} {ex : PySem.W.Frag → Bool} {K : PySem.W.Frag} (c : SaysM fa fn ex K) : He.SaysE fa fn K := congrArg (fun z : AlM => z.2) c
theorem SaysM.x {fa : List He.Fa} {fn : List He.FnD} {ex : PySem.W.Frag → Bool} {K : PySem.W.Frag} (c : SaysM fa fn ex K) : ex K = true := congrArg (fun z : AlM => z.1) c
/-- a written tuple of texts at a module's name -/
def relSt : List Str → List Value → Bool
  | [], [] => true
  | x :: xs, .str y _ :: vs => decide (x = y) && relSt xs vs
  | _, _ => false
theorem relSt_ok : ∀ {xs : List Str} {vs : List Value}, relSt xs vs = true → Vals (xs.map V.str) vs
  | [], [], _ => .nil
  | x :: xs, v :: vs, h => by
    cases v with
    | str y t =>
      obtain ⟨h1, h2⟩ := Bool.and_eq_true_iff.mp (show (decide (x = y) && relSt xs vs) = true from h)
      exact .cons ⟨t, by rw [of_decide_eq_true h1]⟩ (relSt_ok h2)
    | _ => cases h
def tcB (K : PySem.W.Frag) (x : Str) (ys : List Str) : Bool := He.eqO (PySem.W.nsIn K mainGlobals x) (some (some (.ref (He.ga K x)))) && match K.lookup (He.ga K x) with
  | some ⟨.type c, none, .seq its _, _⟩ => decide (c = "tuple") && (decide (its.size ≤ sizeLine) && relSt ys its.toList)
  | _ => false
theorem tcB_ok {K : PySem.W.Frag} {h : Heap} {mg : Str → Option Value} (X : K.In h) (G : h.Ns mainGlobals mg) {x : Str} {ys : List Str} (c : tcB K x ys = true) : TupC K mg x ys := by
  obtain ⟨c0, c⟩ := Bool.and_eq_true_iff.mp c
  cases q : K.lookup (He.ga K x) with
  | none =>
    rw [q] at c
    cases c
  | some o =>
    obtain ⟨oc, od, dt, osl⟩ := o
    rw [q] at c
    cases oc with
    | type t =>
      cases od with
      | none =>
        cases dt with
        | seq its n =>
          obtain ⟨h1, h2⟩ := Bool.and_eq_true_iff.mp (show (decide (t = "tuple") && (decide (its.size ≤ sizeLine) && relSt ys its.toList)) = true from c)
          obtain ⟨h3, h4⟩ := Bool.and_eq_true_iff.mp h2
          exact ⟨_, _, n, its, PySem.W.mg_of X G (He.eqO_ok c0), q, congrArg Value.type (of_decide_eq_true h1), rfl, rfl, of_decide_eq_true h3, relSt_ok h4⟩
        | _ => cases c
      | some a => cases dt <;> cases c
    | _ => cases od <;> cases dt <;> cases c
abbrev clG (K : PySem.W.Frag) : Str → Value := fun c => .ref (He.ga K c)
theorem exn_ok {K : PySem.W.Frag} {h : Heap} {mg : Str → Option Value} (X : K.In h) (G : h.Ns mainGlobals mg) {x : Str} (g : (He.Fa.glo x).ok K = true) (e : (He.Fa.exc x).ok K = true) (m : (He.Fa.exm x x true).ok K = true) : Exn K mg (clG K) x := by
  obtain ⟨h1, h2, h3, h4⟩ := He.exc_ok e
  exact ⟨_, He.glo_ok X G g, rfl, h1, h2, h3, h4, He.exm_ok m⟩
/-- the code object and the table of each def that makes lambdas -/
def csOf (K : PySem.W.Frag) : List (Addr × Addr) := lamL.filterMap fun x => PySem.W.tabIn K x
theorem ttof_cs {K : PySem.W.Frag} : ∀ p ∈ TTof K, p.1 ∈ (csOf K).map (·.2) := fun p hp => by
  obtain ⟨x, hx, e⟩ := List.mem_filterMap.mp hp
  cases q : PySem.W.tabIn K x with
  | none =>
    rw [q] at e
    cases e
  | some cP =>
    rw [q] at e
    have e2 : (cP.2, lamQ x) = p := Option.some.inj e
    rw [← e2]
    exact List.mem_map.mpr ⟨cP, List.mem_filterMap.mpr ⟨x, hx, q⟩, rfl⟩
theorem cs_mem {K : PySem.W.Frag} {x : Str} {c P : Addr} (hx : x ∈ lamL) (h : PySem.W.tabIn K x = some (c, P)) : (c, P) ∈ csOf K := List.mem_filterMap.mpr ⟨x, hx, h⟩
/-- the goal that head_any leaves -/
theorem walkGE {l : PySem.W.OpenLaw} {n k : Nat} {q : Program} {loose : List Str} {XP : (Str → Option Value) → Heap → Prop} {YP : World → Heap → Prop} {d : DefRec} {x : Str} {g : DF}
    (hn : l.most = some n) (hn2 : n ≤ sizeLine) (hdf : d.params.defaults = []) (hr : Room k callerA) (hrec : lamL.all (fun x => (recsOf q).any fun e => e.name == x) = true)
    (F : ∀ (w : World) (mg : Str → Option Value) (fa : Addr) (h : Heap), YP w h → h.Ns mainGlobals mg → mg d.name = some (.ref fa) →
      ∃ (K : PySem.W.Frag) (fd : FuncData) (cl : Str → Value), K.In h ∧ NoTab K ∧ (∀ (s : Shared) (u : Value), BindsTo s fd ⟨[u], []⟩ [(x, u)]) ∧ ∀ base : Heap, K.In base → base.Ns mainGlobals mg → (∀ p ∈ csOf K, LamX.TabB base mg p.1 p.2) → RunG l.prog w K mg base cl k fa fd [x] g)
    (hD : ∀ ns : List Int, ns.length ≤ n → ∃ S', g [.ro (ns.map .int)] [] = .ok (.bl true) S') : PySem.W.WalkO q loose XP YP l.row.toRowW d [] (fun f vs => PySem.call f vs) := by
  refine Att.attach_call hn hdf fun w s₀ s₁ mg mb fa o pm cd doc a vs ns G Y ho hd hcd hmg hobj hints hlen hg => ?_
  obtain ⟨K, fd, cl, KX, nt, hb, hF⟩ := F w mg fa _ Y G.T.g hmg
  have tb : ∀ p ∈ csOf K, PySem.W.CodeHd s₁.heap p.1 p.2 ∧ s₁.heap.get? p.2 = some (PySem.W.tabObj #[]) := fun p hp => by
    obtain ⟨x, hx, e⟩ := List.mem_filterMap.mp hp
    obtain ⟨dr, hdr, e2⟩ := List.any_eq_true.mp (List.all_eq_true.mp hrec x hx)
    cases q : (recsOf q).find? (fun e => e.name == x) with
    | none =>
      rw [List.find?_eq_none] at q
      exact absurd e2 (q dr hdr)
    | some d2 => exact PySem.W.tab_of G.T KX q e
  exact lawG KX G.T.g G.T.b G.T.builtins G.T.nolimit hg (fun p hp => (tb p hp).2) (fun p hp => nt.none KX (tb p hp).2) (fun p hp => (tb p hp).1) ttof_cs G.T.bmain hobj hints (Nat.le_trans hlen hn2) hr hF hb (hD ns hlen)
end Dn
set_option Elab.async false
set_option linter.all false
set_option maxRecDepth 100000
set_option maxHeartbeats 1000000
/-! Dn9: while, whatever is walked, range values, dicts with tuple keys, order of tuples, zip, .. -/
noncomputable section
namespace Dn
open PySem PySem.Spec PyProof.Rows L2

/-! ### while -/
def Wf : Nat := (Classical.choice (⟨⟨1000000, rfl⟩⟩ : Nonempty { n : Nat // n = 1000000 })).1
theorem Wf_eq : Wf = 1000000 := (Classical.choice (⟨⟨1000000, rfl⟩⟩ : Nonempty { n : Nat // n = 1000000 })).2
def dWhl (t : DT) (b : DS) : Nat → DS
  | 0 => fun _ _ => .bad
  | f + 1 => fun δ S => thenS (t δ S) fun k S1 => if k = true then loopEnd (b δ S1) (dWhl t b f) else .nx δ S1
def dWhile (t : DT) (b : DS) : DS := dWhl t b Wf
theorem tWhile_of {W : Wt} {t : DT} {b : DS} {D : Ends} {σ : L2.St} {H : Hp} (h : tS W (dWhile t b) D σ H) : tWhile (tT W t) (tS W b) D σ H := by
  obtain ⟨ρ, δ, S, R, N, P⟩ := h
  refine ⟨fun m σ H => ∃ ρ δ S, Rep W.K ρ H S ∧ EnvR W.K ρ H σ δ ∧ PostS W ρ H (dWhl t b m δ S) D, ⟨Wf, ρ, δ, S, R, N, P⟩, ?_⟩
  clear R N P
  rintro m σ H ⟨ρ, δ, S, R, N, P⟩
  cases m with
  | zero => exact P.elim
  | succ m =>
    refine ⟨ρ, δ, S, R, N, PostS.res (Rl := rlB) P fun ρ1 H1 v k S1 e1 R1 r1 P1 => ?_⟩
    have r1' : v = k := r1
    subst r1'
    cases v with
    | false => exact P1 ρ1 H1 σ (Ext.refl _ _) R1 (N.mono e1)
    | true =>
      refine ⟨fun σ' H' => ∃ ρ δ S, Rep W.K ρ H' S ∧ EnvR W.K ρ H' σ' δ ∧ PostS W ρ H' (dWhl t b m δ S) D, fun σ' H' q => ⟨m, Nat.lt_succ_self m, q⟩, ρ1, δ, S1, R1, N.mono e1, ?_⟩
      have P2 : PostS W ρ1 H1 (loopEnd (b δ S1) (dWhl t b m)) D := P1
      cases hb : b δ S1 with
      | nx δ2 S2 =>
        rw [hb] at P2
        exact fun ρ3 H3 σ3 e3 R3 N3 => ⟨ρ3, δ2, S2, R3, N3, PostS.base e3 P2⟩
      | ct δ2 S2 =>
        rw [hb] at P2
        exact fun ρ3 H3 σ3 e3 R3 N3 => ⟨ρ3, δ2, S2, R3, N3, PostS.base e3 P2⟩
      | bk δ2 S2 => rw [hb] at P2; exact P2
      | rt d2 S2 => rw [hb] at P2; exact P2
      | exc c2 S2 => rw [hb] at P2; exact P2
      | bad => rw [hb] at P2; exact P2
theorem ss_while {X : Cx} {cl : Str → Value} {E : XK} {c : Expr} {bs : List Stmt} {t : DT} {b : DS} {pos : Pos} (hp : PassesOwn (model X.prog X.w) X.A X.env X.xe) (hc : ST X (wt X cl E) c t) (hb : SB X (wt X cl E) bs b) : SS X (wt X cl E) (.While c bs [] pos) (dWhile t b) :=
  ps_imp (ps_while hp hc hb) fun D σ H h => tWhile_of h

/-! ### what is walked: a list, a tuple, a range -/
theorem pi_or {X : Cx} {tg e : Expr} {t t' : TI} (h : PI X tg e t) (h' : PI X tg e t') : PI X tg e (fun σ H R => t σ H R ∨ t' σ H R) := ⟨fun pins s σ H R I q => by
  rcases q with q | q
  · exact h.run pins s σ H R I q
  · exact h'.run pins s σ H R I q⟩
def isR : D → Bool
  | .rng i j => inRng i && inRng j
  | _ => false
def srcR (a : DE) : DSrc := fun δ S => (a δ S).bnd fun d S1 => match d with
  | .rng i j => if (inRng i && inRng j) = true then .ok (.rng i j) S1 else .bad
  | _ => .bad
def srcA (a : DE) : DSrc := fun δ S => (a δ S).bnd fun d S1 => match d with
  | .rng i j => if (inRng i && inRng j) = true then .ok (.rng i j) S1 else .bad
  | d => if (isL S1 d || isT d) = true then .ok (.seq d) S1 else .bad
def enA (a : DA) : DSrc := fun δ S => (a δ S).bnd fun ds S1 => match ds with
  | [d] => if (isL S1 d || isT d) = true then .ok (.en d) S1 else .bad
  | _ => .bad
section
variable {X : Cx} {cl : Str → Value} {E : XK} {tg e : Expr} {de : DE} {da : DA} {p pos tpos : Pos} {te : TE}
def iRngV (te : TE) : TI := fun σ H R => te σ H fun v H1 => ∃ (a : Addr) (i j : Int), v = .ref a ∧ H1 a = some (.rng i j) ∧ (-(2 ^ 62) ≤ i ∧ i < 2 ^ 62 ∧ -(2 ^ 62) ≤ j ∧ j < 2 ^ 62) ∧ R (Itr i (j - i).toNat) H1
theorem pi_rngV (h : PE X e te) : PI X tg e (iRngV te) := by
  refine ⟨fun pins s σ H R I h' => thn (h.run pins s σ H _ I h') fun v s1 ⟨x, H1, I1, r1, q1⟩ => ?_⟩
  obtain ⟨a, lo, hi, rfl, ha, ⟨b1, b2, b3, b4⟩, q⟩ := q1
  cases r1
  obtain ⟨t, u, z, ho⟩ := I1.hok a _ ha
  refine wpAny_pyIter_range (a := lo) (b := hi) (c := 1) (t := t) (u := u) (v := z) ho (small_one b1 b2 b3 b4) ?_
  refine ⟨s1.heap.objs.size, [s1.heap.objs.size], _, _, H1, rfl, I1.kept (t' := s1.toks) fun b o e => Heap.get?_push_of_some _ e, turn_range _ lo (hi - lo).toNat, ?_, fun b hb => ?_, q⟩
  · have e1 : lo + ((0 : Nat) : Int) * 1 = lo := by simp
    have e2 : (((hi - lo).toNat : Nat) : Int) - ((0 : Nat) : Int) = Builtin.Range.rangeSize lo hi 1 := by rw [rangeSize_one]; split <;> omega
    show IsRangeIter _ _ (lo + ((0 : Nat) : Int) * 1) ((((hi - lo).toNat : Nat) : Int) - ((0 : Nat) : Int)) 1
    rw [e1, e2]
    exact Heap.get?_push_size _ rfl
  · rw [List.mem_singleton.mp hb]
    exact I1.fpOk (Nat.le_refl _) (I1.hok.fresh (Nat.le_refl _))
theorem Dv.rngI {K : PySem.W.Frag} {ρ : List Addr} {H : Hp} {v : V} {i j : Int} (h : Dv K ρ H v (.rng i j)) : ∃ a, v = .ref a ∧ H a = some (.rng i j) := by
  cases h with
  | rng q => exact ⟨_, rfl, q⟩
theorem so_rngV (h : SE X (wt X cl E) e de) : PI X tg e (tSrc (wt X cl E) (srcR de)) := pi_imp (pi_rngV h) fun σ H R h => tG.step h fun ρ δ ρ1 S1 H1 v d N e R1 r P => by
  split at P
  · rename_i i j
    split at P
    · rename_i hl
      rw [Bool.and_eq_true] at hl
      have b1 := inRng_bd hl.1
      have b2 := inRng_bd hl.2
      obtain ⟨a, rfl, ha⟩ := r.rngI
      exact ⟨a, i, j, rfl, ha, ⟨b1.1, b1.2, b2.1, b2.2⟩, Post.now (Rl := fun ρ H J s => SrcR X.K ρ H J s) P R1 (src_rng i j)⟩
    · exact P.elim
  · exact P.elim
theorem so_any (h : SE X (wt X cl E) e de) : PI X tg e (tSrc (wt X cl E) (srcA de)) := pi_imp (pi_or (so_list h) (pi_or (so_tup h) (so_rngV h))) fun σ H R ⟨ρ, δ, S, R1, N, P⟩ => by
  cases hd : de δ S with
  | ok d S1 =>
    unfold srcA at P
    rw [hd] at P
    dsimp only [bnd_ok] at P
    split at P
    · refine .inr (.inr ⟨ρ, δ, S, R1, N, ?_⟩)
      unfold srcR
      rw [hd]
      exact P
    · split at P
      · rename_i hl
        rw [Bool.or_eq_true] at hl
        by_cases h1 : isL S1 d = true
        · refine .inl ⟨ρ, δ, S, R1, N, ?_⟩
          unfold srcL
          rw [hd]
          simp only [bnd_ok, h1, if_true]
          exact P
        · have h2 := hl.resolve_left h1
          refine .inr (.inl ⟨ρ, δ, S, R1, N, ?_⟩)
          unfold srcT
          rw [hd]
          simp only [bnd_ok, h2, if_true]
          exact P
      · exact P.elim
  | exc c S1 =>
    refine .inl ⟨ρ, δ, S, R1, N, ?_⟩
    unfold srcA at P
    rw [hd] at P
    unfold srcL
    rw [hd]
    exact P
  | bad =>
    unfold srcA at P
    rw [hd] at P
    exact P.elim
theorem so_enumA {elts : List Expr} {kk : Nat} (hg : Gl X "enumerate") (hm : X.mg "enumerate" = none) (ha : SA X (wt X cl E) [e] da) (hs : starEach [e] X.env = [(false, eval e X.env)] := by rfl) :
    PI X (.Tuple elts kk tpos) (.Call (.Name "enumerate" p) [e] [] pos) (tSrc (wt X cl E) (enA da)) := pi_imp (pi_or (so_enumL hg hm ha hs) (so_enumT hg hm ha hs)) fun σ H R ⟨ρ, δ, S, R1, N, P⟩ => by
  cases hd : da δ S with
  | ok ds S1 =>
    unfold enA at P
    rw [hd] at P
    dsimp only [bnd_ok] at P
    split at P
    · rename_i d
      split at P
      · rename_i hl
        rw [Bool.or_eq_true] at hl
        by_cases h1 : isL S1 d = true
        · refine .inl ⟨ρ, δ, S, R1, N, ?_⟩
          unfold enL
          rw [hd]
          simp only [bnd_ok, h1, if_true]
          exact P
        · have h2 := hl.resolve_left h1
          refine .inr ⟨ρ, δ, S, R1, N, ?_⟩
          unfold enT
          rw [hd]
          simp only [bnd_ok, h2, if_true]
          exact P
      · exact P.elim
    · exact P.elim
  | exc c S1 =>
    refine .inl ⟨ρ, δ, S, R1, N, ?_⟩
    unfold enA at P
    rw [hd] at P
    unfold enL
    rw [hd]
    exact P
  | bad =>
    unfold enA at P
    rw [hd] at P
    exact P.elim
end
/-! ### zip -/
section
variable {K : PySem.W.Frag} {ρ : List Addr} {H : Hp} {S : Sto}
theorem pairD2 {R : Rep K ρ H S} {T : Addr} {x y : V} {d e : D} (hT : H T = none) (r : Dv K ρ H x d) (q : Dv K ρ H y e) : Ext ρ H ρ (upd H T (.tup [x, y])) ∧ Rep K ρ (upd H T (.tup [x, y])) S ∧ Dv K ρ (upd H T (.tup [x, y])) (.ref T) (.tup [d, e]) :=
  ⟨Ext.new hT, R.new hT, .tup (.inl (.inl upd_same)) (.cons (r.mono (Ext.new hT)) (.cons (q.mono (Ext.new hT)) .nil))⟩
theorem zp_len {d e : D} {n : Nat} (h : (Src.zp d e).len S = some n) : ∃ xs ys, items S d = some xs ∧ items S e = some ys ∧ n = min xs.length ys.length := by
  obtain ⟨xs, h1, h2⟩ := Option.bind_eq_some_iff.mp (show (items S d).bind _ = some n from h)
  obtain ⟨ys, h3, h4⟩ := Option.map_eq_some_iff.mp h2
  exact ⟨xs, ys, h1, h3, h4.symm⟩
theorem src_zpT {v u : V} {d e : D} {a b : Addr} (hv : v = .ref a) (hu : u = .ref b) (r : Dv K ρ H v d) (q : Dv K ρ H u e) (h1 : isT d = true) (h2 : isT e = true) : SrcR K ρ H (RZ.ItzT K a b) (.zp d e) := fun ρ1 H1 S1 ex R n hn => by
  obtain ⟨ds, es, i1, i2, rfl⟩ := zp_len hn
  cases d with
  | tup ds' =>
    cases e with
    | tup es' =>
      cases i1
      cases i2
      obtain ⟨a', xs, ha, sq, vs⟩ := (r.mono ex).tupI
      obtain ⟨b', ys, hb, sq2, us⟩ := (q.mono ex).tupI
      rw [hv] at ha
      rw [hu] at hb
      cases ha
      cases hb
      refine ⟨fun i hi => ⟨xs, ys, xs[i]'(by rw [vs.length]; omega), ys[i]'(by rw [us.length]; omega), sq, sq2, List.getElem?_eq_getElem _, List.getElem?_eq_getElem _⟩, fun i hi => ⟨xs, ys, sq, sq2, by rw [vs.length, us.length]; omega⟩, fun i x H' hi y => ?_⟩
      obtain ⟨T, x1, y1, hx, hT, hH, g1, g2⟩ := y
      obtain ⟨dx, k1, k2⟩ := vs.getV (g1 xs sq)
      obtain ⟨dy, k3, k4⟩ := us.getV (g2 ys sq2)
      obtain ⟨z1, z2, z3⟩ := pairD2 (R := R) hT k2 k4
      subst hH hx
      refine ⟨.tup [dx, dy], ?_, z1, z2, z3⟩
      simp only [Src.item, items, Option.bind_some, k1, k3, Option.map_some]
    | _ => cases h2
  | _ => cases h1
theorem src_zpL {v u : V} {d e : D} {a b : Addr} (hv : v = .ref a) (hu : u = .ref b) (r : Dv K ρ H v d) (q : Dv K ρ H u e) (h1 : isT d = false) (h2 : isT e = false) : SrcR K ρ H (Itz K a b) (.zp d e) := fun ρ1 H1 S1 ex R n hn => by
  obtain ⟨ds, es, i1, i2, rfl⟩ := zp_len hn
  obtain ⟨a', xs, ha, sq, vs⟩ := (r.mono ex).listI R h1 i1
  obtain ⟨b', ys, hb, sq2, us⟩ := (q.mono ex).listI R h2 i2
  rw [hv] at ha
  rw [hu] at hb
  cases ha
  cases hb
  refine ⟨fun i hi => ⟨xs, ys, xs[i]'(by rw [vs.length]; omega), ys[i]'(by rw [us.length]; omega), sq, sq2, List.getElem?_eq_getElem _, List.getElem?_eq_getElem _⟩, fun i hi => ⟨xs, ys, sq, sq2, by rw [vs.length, us.length]; omega⟩, fun i x H' hi y => ?_⟩
  obtain ⟨T, x1, y1, hx, hT, hH, g1, g2⟩ := y
  obtain ⟨dx, k1, k2⟩ := vs.getV (g1 xs sq)
  obtain ⟨dy, k3, k4⟩ := us.getV (g2 ys sq2)
  obtain ⟨z1, z2, z3⟩ := pairD2 (R := R) hT k2 k4
  subst hH hx
  refine ⟨.tup [dx, dy], ?_, z1, z2, z3⟩
  simp only [Src.item, i1, i2, Option.bind_some, k1, k3, Option.map_some]
end
def srcZ (a : DA) : DSrc := fun δ S => (a δ S).bnd fun ds S1 => match ds with
  | [d, e] => if ((isT d && isT e) || (isL S1 d && isL S1 e)) = true then .ok (.zp d e) S1 else .bad
  | _ => .bad
section
variable {X : Cx} {cl : Str → Value} {E : XK} {tg e e2 a : Expr} {de dv : DE} {da : DA} {p pos tpos : Pos} {te : TE}
theorem so_zip {elts : List Expr} {kk : Nat} (hg : Gl X "zip") (hm : X.mg "zip" = none) (ha : SA X (wt X cl E) [e, e2] da)
    (hs : starEach [e, e2] X.env = (false, eval e X.env) :: starEach [e2] X.env := by rfl) (hpl : (backTo pos (starEach [e2] X.env)).any (·.1) = false := by rfl) :
    PI X (.Tuple elts kk tpos) (.Call (.Name "zip" p) [e, e2] [] pos) (tSrc (wt X cl E) (srcZ da)) := pi_imp (RZ.pi_zipA hg hm ha hs hpl) fun σ H R h => tG.step h fun ρ δ ρ1 S1 H1 v d N e R1 r P => by
  split at P
  · rename_i d e
    split at P
    · rename_i hl
      obtain ⟨w1, w2, rfl, r1, r2⟩ := two_of r
      rw [Bool.or_eq_true, Bool.and_eq_true, Bool.and_eq_true] at hl
      rcases hl with ⟨h1, h2⟩ | ⟨h1, h2⟩
      · cases d with
        | tup ds =>
          cases e with
          | tup es =>
            obtain ⟨a, xs, rfl, sq, vs⟩ := r1.tupI
            obtain ⟨b, ys, rfl, sq2, us⟩ := r2.tupI
            exact ⟨a, b, xs, ys, rfl, .inr ⟨sq, sq2, Post.now (Rl := fun ρ H J s => SrcR X.K ρ H J s) P R1 (src_zpT rfl rfl r1 r2 h1 h2)⟩⟩
          | _ => cases h2
        | _ => cases h1
      · obtain ⟨ds, i1⟩ := isL_items h1
        obtain ⟨es, i2⟩ := isL_items h2
        obtain ⟨a, xs, rfl, sq, vs⟩ := r1.listI R1 (isL_not h1) i1
        obtain ⟨b, ys, rfl, sq2, us⟩ := r2.listI R1 (isL_not h2) i2
        exact ⟨a, b, xs, ys, rfl, .inl ⟨sq, sq2, Post.now (Rl := fun ρ H J s => SrcR X.K ρ H J s) P R1 (src_zpL rfl rfl r1 r2 (isL_not h1) (isL_not h2))⟩⟩
    · exact P.elim
  · exact P.elim
/-! ### a range's value, a written tuple of texts -/
def bRange : DF := fun ds S => match ds with
  | [.int j] => .ok (.rng 0 j) S
  | [.int i, .int j] => .ok (.rng i j) S
  | _ => .bad
theorem cr_range1 : CallR X (.type "range") (fun vs H Q => ∃ j, vs = [V.int j] ∧ ∀ p, H p = none → Q (.ref p) (upd H p (.rng 0 j))) := by
  intro pins s σ H vs us Q I r h
  obtain ⟨j, rfl, q⟩ := h
  obtain ⟨u, rfl, ru⟩ := r.one
  obtain ⟨t, rfl⟩ := ru
  exact call_range_1 ⟨.ref s.heap.objs.size, upd H s.heap.objs.size (.rng 0 j), I.laid (t' := s.toks + 1 + 1) (fun b o e => Heap.get?_push_of_some _ e) (Nat.le_refl _) ⟨s.toks, t, s.toks + 1, Heap.get?_push_size _ rfl⟩, rfl, q _ (I.hok.fresh (Nat.le_refl _))⟩
theorem cd_range : CallD X cl E (.type "range") bRange := cr_imp (CallR.or cr_range1 cr_range2) fun xs H Q ⟨ρ, S, ds, R, rs, P⟩ => by
  unfold bRange at P
  split at P
  · rename_i j
    obtain ⟨w, rfl, r⟩ := one_of rs
    exact .inl ⟨j, by rw [r.intI], fun p hp => P ρ _ _ (Ext.new hp) (R.new hp) (.rng upd_same)⟩
  · rename_i i j
    obtain ⟨w, w2, rfl, r, r2⟩ := two_of rs
    exact .inr ⟨i, j, by rw [r.intI, r2.intI], fun p hp => P ρ _ _ (Ext.new hp) (R.new hp) (.rng upd_same)⟩
  · exact P.elim
theorem strs_dv {K : PySem.W.Frag} {ρ : List Addr} {H : Hp} : ∀ ys : List Str, DvAll K ρ H (ys.map V.str) (ys.map D.str)
  | [] => .nil
  | y :: ys => .cons (.str y) (strs_dv ys)
theorem se_tupC {x : Str} {ys : List Str} (T : TupC X.K X.mg x ys) (hg : Gl X x) (hdb : (x == ("__debug__" : Str)) = false := by decide) : SE X (wt X cl E) (.Name x p) (dC (.tup (ys.map .str))) := by
  obtain ⟨ad, o, n, its, hm, hk, hc, hd, hs1, hz, hv⟩ := T.ex
  exact se_c (pe_glob (v := .ref ad) hg hm rfl hdb) fun ρ H => .tup (.inr ⟨o, its, n, hk, hc, hs1, hz, hv⟩) (strs_dv ys)
/-! ### dicts with tuple keys: {}, {k: v} -/
def dDik0 : DE := fun _ S => .ok (.cell S.length) (S ++ [.dik []])
theorem se_dik0 : SE X (wt X cl E) (.Dict [] [] pos) dDik0 := pe_imp pe_dik0 fun σ H Q ⟨ρ, δ, S, R, N, P⟩ p hp => by
  refine P (ρ ++ [p]) _ _ (Ext.newC hp) (R.newC hp ⟨[], upd_same, .nil⟩) (.cell ?_)
  rw [← R.len, List.getElem?_append_right (Nat.le_refl _), Nat.sub_self]
  rfl
def dDik1 (k v : DE) : DE := fun δ S => (k δ (S ++ [.dik []])).bnd fun x S1 => (v δ S1).bnd fun y S2 => match S2[S.length]?, keyT x with
  | some (.dik []), some kk => .ok (.cell S.length) (S2.set S.length (.dik [(kk, y)]))
  | _, _ => .bad
theorem se_dik1 (hu : X.A.units + 64 < cLine) (hk : SE X (wt X cl E) a de) (hv : SE X (wt X cl E) e dv) : SE X (wt X cl E) (.Dict [some a] [e] pos) (dDik1 de dv) := pe_imp (pe_dik1 hu hk hv) fun σ H Q ⟨ρ, δ, S, R, N, P⟩ p hp => by
  have e1 : Ext ρ H (ρ ++ [p]) (upd H p (DkO p [])) := Ext.newC hp
  have R1 : Rep X.K (ρ ++ [p]) (upd H p (DkO p [])) (S ++ [.dik []]) := R.newC hp ⟨[], upd_same, .nil⟩
  have hc : (ρ ++ [p])[S.length]? = some p := by
    rw [← R.len, List.getElem?_append_right (Nat.le_refl _), Nat.sub_self]
    rfl
  have P1 : Post (wt X cl E) (Dv X.K) (ρ ++ [p]) (upd H p (DkO p [])) (dDik1 de dv δ S) Q := Post.base e1 P
  refine ⟨ρ ++ [p], δ, S ++ [.dik []], R1, N.mono e1, (Post.bnd P1).imp fun x H2 ⟨ρ2, S2, dx, e2, R2, r2, P2⟩ => ⟨ρ2, δ, S2, R2, (N.mono e1).mono e2, (Post.bnd P2).imp fun y H3 ⟨ρ3, S3, dy, e3, R3, r3, P3⟩ => ?_⟩⟩
  dsimp only at P3
  split at P3
  · rename_i kk h1 h2
    have hc3 := e3.pre _ _ (e2.pre _ _ hc)
    obtain ⟨kz, g1, g2⟩ := R3.at _ p _ hc3 h1
    cases g2
    obtain ⟨ds, rfl, k1, k2, k3⟩ := keyT_tup h2
    have r4 := r2.mono e3
    obtain ⟨b, us, rfl, _⟩ := r4.tupI
    refine ⟨g1, b, kk, rfl, r4.nk k1, k2, k3, ?_⟩
    have ew : Ext ρ3 H3 ρ3 (upd H3 p (DkO p [(kk, b, y)])) := R3.ext_write hc3
    exact P3 ρ3 _ _ ew (R3.write (c := .dik [(kk, dy)]) hc3 ⟨_, upd_same, .cons (r4.mono ew) k1 k2 k3 (r3.mono ew) .nil⟩) (.cell hc3)
  · exact P3.elim
/-! ### order of tuples of whole numbers -/
def lexGt : List Int → List Int → Bool
  | [], _ => false
  | _ :: _, [] => true
  | x :: xs, y :: ys => if x = y then lexGt xs ys else decide (y < x)
theorem lexAt_shift {e r e' r' : Nat → Bool} {z : Bool} (h1 : ∀ i, e (i + 1) = e' i) (h2 : ∀ i, r (i + 1) = r' i) : ∀ k i, Ob.lexAt e r z (i + 1) k = Ob.lexAt e' r' z i k
  | 0, _ => rfl
  | k + 1, i => by
    rw [Ob.lexAt_succ, Ob.lexAt_succ, h1, h2, lexAt_shift h1 h2 k (i + 1)]
theorem lexAt_gt : ∀ ns ms : List Int, Ob.lexAt (fun j => decide (ns.getD j 0 = ms.getD j 0)) (fun j => decide (ms.getD j 0 < ns.getD j 0)) (decide (ns.length > ms.length)) 0 (min ns.length ms.length) = lexGt ns ms
  | [], ms => by simp [lexGt, Ob.lexAt_zero]
  | n :: ns, [] => by simp [lexGt, Ob.lexAt_zero]
  | n :: ns, m :: ms => by
    have e : min (n :: ns).length (m :: ms).length = min ns.length ms.length + 1 := by simp only [List.length_cons]; omega
    rw [e, Ob.lexAt_succ, lexAt_shift (e' := fun j => decide (ns.getD j 0 = ms.getD j 0)) (r' := fun j => decide (ms.getD j 0 < ns.getD j 0)) (fun i => by simp) (fun i => by simp)]
    have z : (decide ((n :: ns).length > (m :: ms).length)) = decide (ns.length > ms.length) := by simp
    rw [z, lexAt_gt ns ms]
    show _ = if n = m then lexGt ns ms else decide (m < n)
    by_cases h : n = m <;> simp [h]
def rGtT (K : PySem.W.Frag) : R2 := fun x y H Q => ∃ (a b : Addr) (ns ms : List Int), x = .ref a ∧ y = .ref b ∧ SqT K H a (ns.map V.int) ∧ SqT K H b (ms.map V.int) ∧ Q (.bl (lexGt ns ms)) H
theorem op_gtT (hu : X.A.units < cLine) : OpR X (compareOp .Gt) (rGtT X.K) := by
  intro pins s σ H x y v u Q I rx ry h
  obtain ⟨a, b, ns, ms, rfl, rfl, ha, hb, q⟩ := h
  cases rx
  cases ry
  obtain ⟨its, r1, p1, _⟩ := I.tuple ha
  obtain ⟨its2, r2, p2, _⟩ := I.tuple hb
  have i1 : IntsAre its ns := Vals.ints r1
  have i2 : IntsAre its2 ms := Vals.ints r2
  have e1 : its.toArray.size = ns.length := i1.length
  have e2 : its2.toArray.size = ms.length := i2.length
  have at1 : ∀ j (h1 : j < its.toArray.size), ∃ t, its.toArray[j] = .int (ns.getD j 0) t := fun j h1 => PyProof.Rows.IntsAre.int_at i1 _ _ (by simp at h1; simp [h1])
  have at2 : ∀ j (h1 : j < its2.toArray.size), ∃ t, its2.toArray[j] = .int (ms.getD j 0) t := fun j h1 => PyProof.Rows.IntsAre.int_at i2 _ _ (by simp at h1; simp [h1])
  have R := Ob.RcOp.tuples_gt (A := X.A) (s := s) (e := fun j => decide (ns.getD j 0 = ms.getD j 0)) (r := fun j => decide (ms.getD j 0 < ns.getD j 0)) p1 p2 hu (fun j h1 h2 => by
    obtain ⟨t, et⟩ := at1 j h1
    obtain ⟨t', et'⟩ := at2 j h2
    rw [et, et']
    have z : (ns.getD j 0 == ms.getD j 0) = decide (ns.getD j 0 = ms.getD j 0) := by
      generalize ns.getD j 0 = p
      generalize ms.getD j 0 = q
      by_cases h : p = q <;> simp [h]
    rw [← z]
    exact SeqAt.EqAt.int_int _ _ _ _) (fun j h1 h2 _ => by
    obtain ⟨t, et⟩ := at1 j h1
    obtain ⟨t', et'⟩ := at2 j h2
    rw [et, et']
    exact Ob.RcOp.gt_int _ _ _ _)
  rw [e1, e2, lexAt_gt] at R
  exact R X.prog X.w X.xe (EP X pins σ Q) ⟨.bl _, H, I, rfl, q⟩
def opGtT (x y : D) (S : Sto) : Res D := match x, y with
  | .tup xs, .tup ys => match intsOf xs, intsOf ys with
    | some ns, some ms => .ok (.bl (lexGt ns ms)) S
    | _, _ => .bad
  | _, _ => .bad
theorem od_gtT (hu : X.A.units + 64 < cLine) : OpD X (wt X cl E) (compareOp .Gt) opGtT := OpR.imp (op_gtT (by omega)) fun x y H Q ⟨ρ, S, d, e, R, r1, r2, P⟩ => by
  unfold opGtT at P
  split at P
  · split at P
    · rename_i ns ms h1 h2
      obtain ⟨a, us, rfl, s1, v1⟩ := r1.tupI
      obtain ⟨b, ws, rfl, s2, v2⟩ := r2.tupI
      rw [ints_dv v1 h1] at s1
      rw [ints_dv v2 h2] at s2
      exact ⟨a, b, ns, ms, rfl, rfl, s1, s2, P.now R (.bl _)⟩
    · exact P.elim
  · exact P.elim
/-! ### any, min -/
def bAny : DF := fun ds S => match ds with
  | [d] => if isL S d = true then match (items S d).bind blsOf with
      | some bs => .ok (.bl (bs.any id)) S
      | none => .bad
    else .bad
  | _ => .bad
def bMin : DF := fun ds S => match ds with
  | [.int i, .int j] => .ok (.int (if j < i then j else i)) S
  | _ => .bad
theorem cd_any (hc : X.calm = true) : CallD X cl E (.builtin "any") bAny := cr_imp (cr_any hc) fun xs H Q ⟨ρ, S, ds, R, rs, P⟩ => by
  unfold bAny at P
  split at P
  · split at P
    · rename_i hl
      split at P
      · rename_i bs hb
        obtain ⟨zs, h1, h2⟩ := Option.bind_eq_some_iff.mp hb
        obtain ⟨w, rfl, r⟩ := one_of rs
        obtain ⟨a, us, rfl, sq, vs⟩ := r.listI R (isL_not hl) h1
        rw [bls_dv vs h2] at sq
        exact ⟨a, bs, rfl, sq, P.now R (.bl _)⟩
      · exact P.elim
    · exact P.elim
  · exact P.elim
theorem cd_min (hc : X.calm = true) : CallD X cl E (.builtin "min") bMin := cr_imp (call_min2 hc) fun xs H Q ⟨ρ, S, ds, R, rs, P⟩ => by
  unfold bMin at P
  split at P
  · rename_i i j
    obtain ⟨w, w2, rfl, r, r2⟩ := two_of rs
    exact ⟨i, j, by rw [r.intI, r2.intI], P.now R (.int _)⟩
  · exact P.elim
end
end Dn
set_option Elab.async false
set_option linter.all false
set_option maxRecDepth 100000
set_option maxHeartbeats 2000000
/-! Dn10: max(xs, key=lambda y: ..): the lambda's context, a key's call, the walk. -/
noncomputable section
namespace Dn
open PySem PySem.Spec PyProof.Rows L2

/-! ### the lambda's names: one parameter, captured ones, globals -/
structure LamS1 (sc scope : Scope) (y : Str) : Prop where
  kind : scope.kind = .function
  co : scope.isCoroutine = false
  gen : scope.isGenerator = false
  par : scope.names.lookup y = some .local
  own : ∀ z ∈ scope.names, z.2 = .local → z.1 = y
  noc : ∀ z ∈ scope.names, z.2 ≠ .cell
  free : ∀ z ∈ scope.names, z.2 = .free → sc.names.lookup z.1 = some .cell ∨ sc.names.lookup z.1 = some .free
def lamS1B (sc scope : Scope) (y : Str) : Bool :=
  decide (scope.kind = .function) && !scope.isCoroutine && !scope.isGenerator && decide (scope.names.lookup y = some .local) && scope.names.all fun z => (!decide (z.2 = .local) || decide (z.1 = y)) && !decide (z.2 = .cell) && (!decide (z.2 = .free) || decide (sc.names.lookup z.1 = some .cell) || decide (sc.names.lookup z.1 = some .free))
theorem lamS1_by {sc scope : Scope} {y : Str} (h : lamS1B sc scope y = true) : LamS1 sc scope y := by
  unfold lamS1B at h
  simp only [Bool.and_eq_true, Bool.or_eq_true, Bool.not_eq_true', decide_eq_true_eq, decide_eq_false_iff_not, List.all_eq_true] at h
  obtain ⟨⟨⟨⟨h1, h2⟩, h3⟩, h4⟩, h5⟩ := h
  refine ⟨h1, h2, h3, h4, fun z hz e => ?_, fun z hz => (h5 z hz).1.2, fun z hz e => ?_⟩
  · rcases (h5 z hz).1.1 with q | q
    · exact absurd e q
    · exact q
  · rcases (h5 z hz).2 with (q | q) | q
    · exact absurd e q
    · exact .inl q
    · exact .inr q
/-- the context of the lambda's body -/
def lamCx1 (X : Cx) (A : Around) (outer : List Env) (s : Shared) (H : Hp) (E : XK) (scope : Scope) (f c' : Addr) (y : Str) : Cx := { LamX.lamCx X A outer s H E scope f c' with N := y :: X.N }
section
variable {X : Cx} {pins : List (Addr × Obj)} {σ : L2.St} {H HZ : Hp} {s s1 : Shared} {scope : Scope} {f c' : Addr} {y : Str}
theorem LamS1.has (L : LamS1 X.env.scope scope y) (ok : X.Ok) : ∀ z ∈ scope.names, z.2 = .free → ∃ c, X.env.cells.lookup z.1 = some c := fun z hz e => by
  rcases L.free z hz e with k | k
  · exact ok.has _ (.inl k)
  · exact ok.has _ (.inr k)
theorem lam_start1 {A : Around} {outer : List Env} {E : XK} {h₁ : Heap} {tk : Nat} {x : V} {u : Value} (I : Inv X pins σ H s1) (L : LamS1 X.env.scope scope y) (hy : y ∉ X.N) (e0 : Env0 X.prog X.w X.K X.mg X.base A outer s1 HZ) (hd : A.handled = none) (hz : ∀ b, H b = none → HZ b = none)
    (rx : RelV x u) (hns : h₁.Ns s1.heap.objs.size fun z => [(y, u)].reverse.lookup z) (kp : ∀ b o, s1.heap.get? b = some o → h₁.get? b = some o) :
    Inv (lamCx1 X A outer s1 HZ E scope f c' y) [] (some x :: σ) HZ { s1 with heap := h₁, toks := tk } := by
  have hfree := L.has I.ok
  have cm : ∀ {z c}, (cloFrom X.env.cells scope.names []).lookup z = some c → X.env.cells.lookup z = some c := fun {z c} e => by
    rcases cloFrom_mem (PySem.mem_of_lookup e) with hm | ⟨h1, h2⟩
    · cases hm
    · obtain ⟨c1, hc⟩ := hfree _ h1 rfl
      have hc : X.env.cells.lookup z = some c1 := hc
      have e2 : c = c1 := by
        rw [h2, hc] <;> rfl
      rw [e2]
      exact hc
  have look : ∀ {z}, scope.names.lookup z = some .free → ∃ c, (cloFrom X.env.cells scope.names []).lookup z = some c := fun {z} hl => by
    have hy : (z, NameKind.free) ∈ scope.names := PySem.mem_of_lookup hl
    exact mem_lookup (cloFrom_has (cells := X.env.cells) (acc := []) hy)
  have cellK : ∀ {c : Addr} {v : Option Value}, s1.heap.IsCell c v → h₁.IsCell c v := fun {c v} ⟨o, ho, hd⟩ => ⟨_, kp _ _ ho, hd⟩
  have noA : ∀ b : Addr, b ∉ (lamCx1 X A outer s1 HZ E scope f c' y).ex := fun b z => absurd (show b ∈ ([] : List Addr) from z) (by simp)
  refine ⟨⟨e0.mod, L.kind, rfl, rfl, Nat.le_refl _, fun y z c e1 e2 => I.ok.inj y z c (cm e1) (cm e2), fun z hy => ?_, fun y c z _ => ?_, fun _ => hd, Around.frames_deeper e0.frames, .inr ⟨rfl, rfl⟩, fun b z => absurd z (noA b), e0.bs, e0.bsz, fun b _ _ => noA b,
      fun b z => absurd z (noA b), e0.funs, e0.frf⟩,
    rfl, e0.bare, Un.kept kp, ⟨_, hns, fun i z v e1 e2 e3 => ?_⟩, fun z c e => ?_, e0.hok.fresh (Nat.le_refl _), fun z c e => ?_, fun q hq => absurd (show q ∈ ([] : List (Addr × Obj)) ++ [] from hq) (by simp), e0.hok.kept kp, ?_⟩
  · have hy : scope.names.lookup z = some .cell ∨ scope.names.lookup z = some .free := hy
    rcases hy with hy | hy
    · exact absurd rfl (L.noc _ (PySem.mem_of_lookup hy))
    · exact look hy
  · have z : false = true := z
    cases z
  · have e3 : Vis scope z := e3
    cases i with
    | zero =>
      have e1 : some y = some z := e1
      have e2 : some (some x) = some (some v) := e2
      cases e1
      cases e2
      exact ⟨u, rx, .inl ⟨L.par, by simp⟩⟩
    | succ i =>
      have e1 : X.N[i]? = some z := e1
      have e2 : σ[i]? = some (some v) := e2
      have ne : z ≠ y := fun q => hy (q ▸ List.mem_of_getElem? e1)
      rcases e3 with k | k | k
      · exact absurd (L.own _ (PySem.mem_of_lookup k) rfl) ne
      · exact absurd rfl (L.noc _ (PySem.mem_of_lookup k))
      · obtain ⟨m, hn, hl⟩ := I.loc
        have hvis : Vis X.env.scope z := (L.free _ (PySem.mem_of_lookup k) rfl).elim (fun k => .inr (.inl k)) (fun k => .inr (.inr k))
        obtain ⟨w', r, q⟩ := hl i z v e1 e2 hvis
        obtain ⟨c2, h2⟩ := look k
        refine ⟨w', r, .inr ⟨.inr k, c2, h2, ?_⟩⟩
        have c1 := cm h2
        rcases q with ⟨k', _⟩ | ⟨_, c3, e', z'⟩
        · have k' : X.env.scope.names.lookup z = some .local := k'
          rcases L.free _ (PySem.mem_of_lookup k) rfl with k2 | k2 <;> rw [show X.env.scope.names.lookup z = _ from k2] at k' <;> cases k'
        · rw [c1] at e'
          cases e'
          exact cellK z'
  · obtain ⟨w', z'⟩ := I.cell z c (cm e)
    exact ⟨w', cellK z'⟩
  · exact hz _ (I.freeC z c (cm e))
  · show (some x :: σ).length = (y :: X.N).length
    rw [List.length_cons, List.length_cons]
    exact congrArg Nat.succ I.len
end
/-! ### what is known while a key is asked: tuples and lists as they stand -/
def frzO (g : Option Obj) : HO → Option HO
  | .tup xs => g.map fun o => .frz o (.tup xs)
  | .lst xs => g.map fun o => .frz o (.lst xs)
  | .frz o (.tup xs) => some (.frz o (.tup xs))
  | .frz o (.lst xs) => some (.frz o (.lst xs))
  | _ => none
def HZof (h : Heap) (H : Hp) : Hp := fun b => (H b).bind (frzO (h.get? b))
def Frz (K : PySem.W.Frag) (H HZ : Hp) : Prop := (∀ a xs, SqT K H a xs → SqT K HZ a xs) ∧ ∀ a xs, SqL K H a xs → SqL K HZ a xs
theorem hz_none {h : Heap} {H : Hp} {b : Addr} (e : H b = none) : HZof h H b = none := by
  unfold HZof
  rw [e]
  rfl
theorem hz_frz {P : Program} {w : World} {h : Heap} {H : Hp} (ok : HOk P w H h) {b : Addr} {z : HO} (e : HZof h H b = some z) : ∃ o u, z = .frz o u ∧ h.get? b = some o ∧ ((∃ xs, u = .tup xs) ∨ ∃ xs, u = .lst xs) ∧ ObjOk P w H h b u := by
  unfold HZof at e
  cases q : H b with
  | none =>
    rw [q] at e
    cases e
  | some u =>
    rw [q] at e
    have e : frzO (h.get? b) u = some z := e
    have g := ok b u q
    cases u with
    | tup xs =>
      cases hb : h.get? b with
      | none =>
        rw [hb] at e
        cases e
      | some o =>
        rw [hb] at e
        have e : some (HO.frz o (.tup xs)) = some z := e
        cases e
        exact ⟨_, _, rfl, rfl, .inl ⟨_, rfl⟩, g⟩
    | lst xs =>
      cases hb : h.get? b with
      | none =>
        rw [hb] at e
        cases e
      | some o =>
        rw [hb] at e
        have e : some (HO.frz o (.lst xs)) = some z := e
        cases e
        exact ⟨_, _, rfl, rfl, .inr ⟨_, rfl⟩, g⟩
    | frz o v =>
      cases v with
      | tup xs =>
        have e : some (HO.frz o (.tup xs)) = some z := e
        cases e
        exact ⟨_, _, rfl, g.1, .inl ⟨_, rfl⟩, g.2⟩
      | lst xs =>
        have e : some (HO.frz o (.lst xs)) = some z := e
        cases e
        exact ⟨_, _, rfl, g.1, .inr ⟨_, rfl⟩, g.2⟩
      | _ => cases e
    | _ => cases e
theorem hz_ok {P : Program} {w : World} {h : Heap} {H : Hp} (ok : HOk P w H h) : HOk P w (HZof h H) h := fun b z e => by
  obtain ⟨o, u, rfl, g, k, m⟩ := hz_frz ok e
  refine ⟨g, ?_⟩
  rcases k with ⟨xs, rfl⟩ | ⟨xs, rfl⟩
  · exact m
  · exact m
theorem hz_rdT {P : Program} {w : World} {h : Heap} {H : Hp} (ok : HOk P w H h) {a : Addr} {u : HO} (hu : (∃ xs, u = .tup xs) ∨ ∃ xs, u = .lst xs) (r : Rd H a u) : Rd (HZof h H) a u := by
  rcases r with r | ⟨o, r⟩
  · have g := ok a u r
    rcases hu with ⟨xs, rfl⟩ | ⟨xs, rfl⟩
    · obtain ⟨_, its, _, ob, ho, _⟩ := g
      refine .inr ⟨ob, ?_⟩
      unfold HZof
      rw [r]
      show frzO (h.get? a) (.tup xs) = _
      rw [ho]
      rfl
    · obtain ⟨_, its, n, _, ho⟩ := g
      refine .inr ⟨{ cls := .type "list", data := .seq its.toArray n }, ?_⟩
      unfold HZof
      rw [r]
      show frzO (h.get? a) (.lst xs) = _
      rw [ho]
      rfl
  · refine .inr ⟨o, ?_⟩
    unfold HZof
    rw [r]
    rcases hu with ⟨xs, rfl⟩ | ⟨xs, rfl⟩ <;> rfl
theorem hz_Frz {P : Program} {w : World} {K : PySem.W.Frag} {h : Heap} {H : Hp} (ok : HOk P w H h) : Frz K H (HZof h H) :=
  ⟨fun a xs r => r.imp (hz_rdT ok (.inl ⟨_, rfl⟩)) id, fun a xs r => r.imp (hz_rdT ok (.inr ⟨_, rfl⟩)) id⟩
section
variable {X : Cx} {pins : List (Addr × Obj)} {σ : L2.St} {H : Hp} {s : Shared}
theorem fresh_notfr (I : Inv X pins σ H s) {b : Addr} (h : s.heap.objs.size ≤ b) : b ∉ frs X.stack := fun z => by
  rcases List.mem_cons.mp (I.stkSub _ z) with e | e
  · have h1 := I.lt
    rw [← e] at h1
    exact Nat.lt_irrefl _ (Nat.lt_of_lt_of_le h1 h)
  · exact I.nofs h e
theorem base_notfr (I : Inv X pins σ H s) {b : Addr} {o : Obj} (h : X.base.get? b = some o) : b ∉ frs X.stack := fun z => by
  rcases List.mem_cons.mp (I.stkSub _ z) with e | e
  · have h1 := Heap.lt_size h
    rw [e] at h1
    exact Nat.lt_irrefl _ (Nat.lt_of_lt_of_le h1 (Nat.le_trans I.ok.bsz I.ok.above))
  · exact I.ok.nofr h e
theorem trk_notfr (I : Inv X pins σ H s) {b : Addr} {u : HO} (h : H b = some u) : b ∉ frs X.stack := fun z => by
  have q := I.stkFree b z
  rw [h] at q
  cases q
theorem sqL_notfr (I : Inv X pins σ H s) {a : Addr} {xs : List V} (h : SqL X.K H a xs) : a ∉ frs X.stack := by
  rcases h with (h | ⟨o, h⟩) | ⟨o, its, n, h, _⟩
  · exact trk_notfr I h
  · exact trk_notfr I h
  · exact base_notfr I (I.ok.mod.kin a o h)
theorem sqT_notfr (I : Inv X pins σ H s) {a : Addr} {xs : List V} (h : SqT X.K H a xs) : a ∉ frs X.stack := by
  rcases h with (h | ⟨o, h⟩) | ⟨o, its, n, h, _⟩
  · exact trk_notfr I h
  · exact trk_notfr I h
  · exact base_notfr I (I.ok.mod.kin a o h)
/-- a key is asked: all but the frames stays as it is -/
theorem lam_turn {scope : Scope} {f c' : Addr} {y q : Str} {params : Arguments} {body : Expr} {pm ctv : Value} {t : TE} {x : V} {u : Value} {k : Int} {k0 : Nat} {Q : Value → Shared → Prop} {E : Value → Shared → Prop}
    (I : Inv X pins σ H s) (L : LamS1 X.env.scope scope y) (hy : y ∉ X.N) (hq : q = X.env.qual ++ "<lambda>") (hf : s.heap.get? f = some (PySem.W.kla_obj "<lambda>" q params body scope (cloFrom X.env.cells scope.names []) pm c' ctv))
    (hco : H c' = some (LamX.CodeO c' q)) (hr : Room (k0 + 1) X.A.in1)
    (hbind : ∀ u : Value, bindArgs (PySem.W.kla_fn "<lambda>" q params body scope (cloFrom X.env.cells scope.names []) pm (.ref c') ctv) ⟨[u], []⟩ = pure [(y, u)])
    (rx : RelV x u) (hbody : ∀ (A : Around) (outer : List Env) (s : Shared) (H : Hp) (E : XK), PE (lamCx1 X A outer s H E scope f c' y) body t) (ht : ∀ HZ, Frz X.K H HZ → t (some x :: σ) HZ fun v _ => v = .int k)
    (h : ∀ s' tk, Inv X pins σ H s' → (∀ b o, b ∉ frs X.stack → s.heap.get? b = some o → s'.heap.get? b = some o) → Q (.int k tk) s') : wpAny (model X.prog X.w) X.A.in1 (call (.ref f) [u]) Q E s := by
  subst hq
  have okZ := hz_ok I.hok
  have noneZ : ∀ b, H b = none → HZof s.heap H b = none := fun b e => hz_none e
  have e0 : Env0 X.prog X.w X.K X.mg X.base X.A.in1 X.stack s (HZof s.heap H) := by
    have e := I.env0.in1
    exact ⟨e.frames, e.mod, fun b o g => ⟨(e.bs b o g).1, noneZ b (e.bs b o g).2⟩, e.bsz, e.funs, fun b hb => noneZ b (e.frf b hb), okZ, e.bare⟩
  obtain ⟨⟨oc, vs, tq, hoc, hdc, hvc⟩, _, _⟩ := I.hok c' _ hco
  have rc : codeAny (model X.prog X.w) X.A.in1 (.call (.ref f) ⟨[u], []⟩) (CR (L2.CX X.prog X.w) X.stack X.prog X.w (HZof s.heap H) s (fun v _ => v = .int k) fun _ _ _ => False) s := by
    refine PySem.W.kla_callFunE hr.depth hf rfl L.co L.gen rfl ⟨c', oc, vs, tq, rfl, hoc, hdc, hvc⟩ ?_
    rw [hbind]
    refine wpAny_pure (wpAny_newFunctionEnv (fun z hz => L.noc z hz) (fun z hz => ?_) (fun h₁ hns hsb => ⟨I.nolimit.fresh _ hsb, ?_⟩) L.kind)
    · rw [List.mem_singleton.mp hz]
      exact L.par
    show codeAny _ _ (.expr body (LamX.lamEnv X scope s.heap.objs.size f c')) _ _
    have kp : ∀ b o, s.heap.get? b = some o → h₁.get? b = some o := fun b o e => hsb.extBut b o (Nat.ne_of_lt (Heap.lt_size e)) (Heap.get?_push_of_some _ e)
    have J := lam_start1 (E := fun _ _ _ => False) (f := f) (c' := c') (tk := s.toks + [(y, u)].length) I L hy e0 hr.hd noneZ rx hns kp
    refine PySem.W.kla_codeExpr (wpAny_mono ((hbody _ _ s _ _).run [] _ _ _ _ J (ht _ (hz_Frz I.hok))) (fun v s' hq => ?_) fun e s' hq => hq)
    obtain ⟨w', H', J', rv, q⟩ := hq
    exact ⟨w', H', J'.os, J'.bare, J'.base, J'.hok, rv, q⟩
  refine wpAny_call (codeAny_mono rc fun r s' hq => ?_)
  match r, hq with
  | .error e, hq =>
    obtain ⟨_, _, _, _, _, _, _, _, _, _, _, _, z⟩ := hq
    exact z.elim
  | .ok .next, hq => exact False.elim hq
  | .ok .brk, hq => exact False.elim hq
  | .ok .cont, hq => exact False.elim hq
  | .ok (.ret u'), ⟨v, H', os, bare, un, hok', rv, qv⟩ =>
    obtain rfl : v = .int k := qv
    obtain ⟨tk, rfl⟩ : ∃ tk, u' = .int k tk := rv
    have keep : ∀ b o, b ∉ frs X.stack → s.heap.get? b = some o → s'.heap.get? b = some o := fun b o hb e => by
      cases q : HZof s.heap H b with
      | none => exact un.keep b o e q hb (by simp)
      | some z =>
        obtain ⟨o1, u1, rfl, g, _, _⟩ := hz_frz I.hok q
        have z2 := un.frzs b o1 _ q
        obtain ⟨g2, _⟩ := hok' b _ z2
        rw [g] at e
        cases e
        exact g2
    refine h s' tk (I.call' (ch := []) os ⟨fun b o e n hb _ => keep b o hb e, fun b o e n hb _ => un.slot b o e (noneZ b n) hb (by simp), fun b o _ n _ => n, fun b o e _ => un.there b o e (by simp), fun _ _ e => e, fun _ _ _ e => e, fun b ps e => ⟨#[], by rw [e]; simp⟩⟩ (fun b z e => ?_) bare fun b hb => absurd hb (by simp)) keep
    refine (I.hok b z e).stay (fun c v hc g => keep c v ?_ g) (fun _ g => g) fun _ _ g => g
    rcases hc with z' | z'
    · rw [z']
      exact trk_notfr I e
    · exact trk_notfr I z'
/-- the place of the first of the greatest keys -/
def bestOf (ks : List Int) : Nat := argBest (fun i j => decide (ks.getD i 0 > ks.getD j 0)) (ks.length - 1)
/-- the walk of max -/
theorem max_core {scope : Scope} {f c' it ax : Addr} {y q : Str} {params : Arguments} {body : Expr} {pm ctv : Value} {t : TE} {xs : List V} {ks : List Int} {items : Array Value} {St0 : Nat → Heap → Prop} {k0 : Nat} {oI : Obj} {Q : VK}
    (I : Inv X pins σ H s) (L : LamS1 X.env.scope scope y) (hy : y ∉ X.N) (hq : q = X.env.qual ++ "<lambda>") (hf : s.heap.get? f = some (PySem.W.kla_obj "<lambda>" q params body scope (cloFrom X.env.cells scope.names []) pm c' ctv))
    (hfr : f ∉ frs X.stack) (hco : H c' = some (LamX.CodeO c' q)) (hr : Room (k0 + 1) X.A.in1)
    (hbind : ∀ u : Value, bindArgs (PySem.W.kla_fn "<lambda>" q params body scope (cloFrom X.env.cells scope.names []) pm (.ref c') ctv) ⟨[u], []⟩ = pure [(y, u)])
    (hbody : ∀ (A : Around) (outer : List Env) (s : Shared) (H : Hp) (E : XK), PE (lamCx1 X A outer s H E scope f c' y) body t)
    (rv : Vals xs items.toList) (hne : xs ≠ []) (hlen : ks.length = xs.length) (ht : ∀ (HZ : Hp), Frz X.K H HZ → ∀ (i : Nat) (x : V) (k : Int), xs[i]? = some x → ks[i]? = some k → t (some x :: σ) HZ fun v _ => v = .int k)
    (hit : it = s.heap.objs.size) (hax : ax ∉ frs X.stack) (W : Walks X.prog X.w X.A.in1 it [it, ax] [it] items.size (fun i v => items[i]? = some v) St0) (hst : St0 0 (s.heap.push oI)) (haxl : ax < s.heap.objs.size)
    (hQ : ∀ x, xs[bestOf ks]? = some x → Q x H) :
    ∃ (I0 : Addr) (fp wr : List Addr) (G : Array GenState → Array GenState → Prop) (n : Nat) (P : Nat → Value → Prop) (St : Nat → Shared → Prop) (J : Shared → Prop) (V : Nat → Value → Shared → Prop) (bt : Nat → Nat → Bool), (Value.ref it : Value) = .ref I0 ∧ WalksS X.prog X.w X.A.in1 I0 fp wr G n P St ∧ St 0 { s with heap := s.heap.push oI } ∧ (∀ b ∈ fp, b < (s.heap.push oI).objs.size) ∧ 0 < n ∧
      KeyRun X.prog X.w X.A.in1 (.ref f) .Gt (s.heap.push oI).objs.size wr G n P St J V bt ∧ J { s with heap := s.heap.push oI } ∧ ∀ v s', P (argBest bt (n - 1)) v → J s' → EP X pins σ Q v s' := by
  have hxl : xs.length = items.size := by rw [rv.length, Array.length_toList]
  have itemAt : ∀ {i : Nat} {v : Value}, items[i]? = some v → ∃ x, xs[i]? = some x ∧ RelV x v := fun {i v} e => by
    have e2 : items.toList[i]? = some v := by rw [Array.getElem?_toList]; exact e
    have hi : i < xs.length := by
      rw [rv.length]
      exact (List.getElem?_eq_some_iff.mp e2).1
    obtain ⟨u, h1, h2⟩ := rv.get (List.getElem?_eq_getElem hi)
    rw [e2] at h1
    cases h1
    exact ⟨_, List.getElem?_eq_getElem hi, h2⟩
  have hS : (s.heap.push oI).objs.size = s.heap.objs.size + 1 := Heap.size_push ..
  have Nit : H it = none := I.hok.fresh (Nat.le_of_eq hit.symm)
  have NS : H (s.heap.push oI).objs.size = none := I.hok.fresh (by rw [hS]; exact Nat.le_succ _)
  have fit : it ∉ frs X.stack := fresh_notfr I (Nat.le_of_eq hit.symm)
  have fS : (s.heap.push oI).objs.size ∉ frs X.stack := fresh_notfr I (by rw [hS]; exact Nat.le_succ _)
  have fl : f < s.heap.objs.size := Heap.lt_size hf
  have fok : ∀ b ∈ [(s.heap.push oI).objs.size, it], FpOk X pins H b := fun b hb => by
    rcases List.mem_cons.mp hb with rfl | hb
    · exact I.fpOk (by rw [hS]; exact Nat.le_succ _) NS
    · rw [List.mem_singleton.mp hb]
      exact I.fpOk (Nat.le_of_eq hit.symm) Nit
  have WS := W.toS
  refine ⟨it, [it, ax], [it], fun a b => b = a, items.size, fun i v => items[i]? = some v, fun i s => St0 i s.heap, fun a => Inv X pins σ H a ∧ a.heap.get? f = some (PySem.W.kla_obj "<lambda>" q params body scope (cloFrom X.env.cells scope.names []) pm c' ctv),
    fun i k _ => ∃ t, k = .int (ks.getD i 0) t, fun i j => decide (ks.getD i 0 > ks.getD j 0), rfl, WS, hst, fun b hb => ?_, ?_, ⟨fun a b ⟨J, hfa⟩ m => ?_, fun i k a b z _ => z, fun i v a o Qc Ec hi hP ⟨J, hfa⟩ hSt hSo k => ?_, fun i j ki kj a Qc Ec _ ⟨t1, z1⟩ ⟨t2, z2⟩ hQc => ?_⟩, ⟨?_, Heap.get?_push_of_some _ hf⟩, fun v s' hv ⟨J, _⟩ => ?_⟩
  · rw [hS]
    rcases List.mem_cons.mp hb with rfl | hb
    · rw [hit]
      exact Nat.lt_succ_self _
    · rw [List.mem_singleton.mp hb]
      exact Nat.lt_succ_of_lt haxl
  · rw [← hxl]
    exact List.length_pos_iff.mpr hne
  · have J2 := J.turnedL (h' := b.heap) (t' := b.toks) (ch := [(s.heap.push oI).objs.size, it]) (fun c o hc e => m.heap c o hc e) fok
    have e : ({ a with heap := b.heap, toks := b.toks } : Shared) = b := by
      obtain ⟨h1, g1, d1, t1, o1⟩ := b
      have m1 : g1 = a.gens := m.gens
      have m2 : d1 = a.drawn := m.drawn
      have m3 : o1 = a.os := m.os
      subst m1
      subst m2
      subst m3
      rfl
    rw [e] at J2
    refine ⟨J2, m.heap f _ (fun hb => ?_) hfa⟩
    rcases List.mem_cons.mp hb with z | hb
    · rw [z, hS] at fl
      exact Nat.lt_irrefl _ (Nat.lt_of_succ_lt fl)
    · rw [List.mem_singleton.mp hb, hit] at fl
      exact Nat.lt_irrefl _ fl
  · obtain ⟨x, hx, rx⟩ := itemAt hP
    have hk : i < ks.length := by rw [hlen, hxl]; exact hi
    refine lam_turn J L hy hq hfa hco hr hbind rx hbody (fun HZ z => ht HZ z i x (ks.getD i 0) hx ?_) fun s' tk J' kp => k _ s' ⟨J', kp f _ hfr hfa⟩ (W.frame _ _ _ hSt fun b hb o e => kp b o ?_ e) (kp _ _ fS hSo) ⟨tk, rfl⟩ fun _ _ z => z
    · rw [List.getD_eq_getElem?_getD, List.getElem?_eq_getElem hk]
      rfl
    · rcases List.mem_cons.mp hb with rfl | hb
      · exact fit
      · rw [List.mem_singleton.mp hb]
        exact hax
  · exact CmpOf.ints_gt (prog := X.prog) (w := X.w) (A := X.A.in1) (P := fun i v => ∃ t, v = .int (ks.getD i 0) t) (fun i => ks.getD i 0) (fun i v h => h) i j _ _ _ _ _ ⟨t1, z1⟩ ⟨t2, z2⟩ hQc
  · exact I.kept fun b o e => Heap.get?_push_of_some _ e
  · obtain ⟨x, hx, rx⟩ := itemAt hv
    refine ⟨x, H, J, rx, hQ x ?_⟩
    unfold bestOf
    rw [hlen, hxl]
    exact hx
/-- max(e, key=lambda y: body): the reading -/
def tMaxL (X : Cx) (T : List (Addr × Str)) (t : TE) (ta : TA) : TE := fun σ H Q => ta σ H fun vs H1 => ∃ (a : Addr) (xs : List V) (ks : List Int), vs = [.ref a] ∧ (SqL X.K H1 a xs ∨ SqT X.K H1 a xs) ∧ xs ≠ [] ∧ ks.length = xs.length ∧ LamX.Tabs T H1 ∧
  ∀ H2, LamX.ExtN H1 H2 → LamX.Tabs T H2 → (∀ (HZ : Hp), Frz X.K H2 HZ → ∀ (i : Nat) (x : V) (k : Int), xs[i]? = some x → ks[i]? = some k → t (some x :: σ) HZ fun v _ => v = .int k) ∧ ∀ x, xs[bestOf ks]? = some x → Q x H2
theorem extN_sqL {K : PySem.W.Frag} {H H' : Hp} {a : Addr} {xs : List V} (e : LamX.ExtN H H') (h : SqL K H a xs) : SqL K H' a xs := by
  rcases h with (h | ⟨o, h⟩) | h
  · exact .inl (.inl (e _ _ h fun _ z => by cases z))
  · exact .inl (.inr ⟨o, e _ _ h fun _ z => by cases z⟩)
  · exact .inr h
theorem extN_sqT {K : PySem.W.Frag} {H H' : Hp} {a : Addr} {xs : List V} (e : LamX.ExtN H H') (h : SqT K H a xs) : SqT K H' a xs := by
  rcases h with (h | ⟨o, h⟩) | h
  · exact .inl (.inl (e _ _ h fun _ z => by cases z))
  · exact .inl (.inr ⟨o, e _ _ h fun _ z => by cases z⟩)
  · exact .inr h
theorem pe_maxL {T : List (Addr × Str)} {c P : Addr} {scope : Scope} {y : Str} {params : Arguments} {body : Expr} {t : TE} {ta : TA} {k0 : Nat} {e : Expr} {p pos lpos kpos : Pos}
    (TB : LamX.TabB X.base X.mg c P) (hcode : X.env.code = .ref c) (hmT : (P, X.env.qual ++ "<lambda>") ∈ T) (hu : ∀ p ∈ T, p.1 = P → p.2 = X.env.qual ++ "<lambda>") (hr : Room (k0 + 2) X.A) (L : LamS1 X.env.scope scope y) (hy : y ∉ X.N) (hdef : defaultsOf params X.env = ([], []))
    (hbind : ∀ (q : Str) (cl : List (Str × Addr)) (pm cv ctv u : Value), bindArgs (PySem.W.kla_fn "<lambda>" q params body scope cl pm cv ctv) ⟨[u], []⟩ = pure [(y, u)])
    (hbody : ∀ (f c' : Addr) (A : Around) (outer : List Env) (s : Shared) (H : Hp) (E : XK), PE (lamCx1 X A outer s H E scope f c' y) body t)
    (hg : Gl X "max") (hm : X.mg "max" = none) (hv : bootBuiltins "max" = some (.builtin "max")) (ha : PA X [e] ta)
    (he : backTo pos (starEach [e] X.env) = (false, eval e X.env) :: backTo pos (starEach [] X.env) := by rfl) (hpl : (backTo pos (starEach [e] X.env)).any (·.1) = false := by rfl) :
    PE X (.Call (.Name "max" p) [e] [⟨some "key", .Lambda params body scope lpos, kpos⟩] pos) (tMaxL X T t ta) := by
  refine ⟨fun pins s σ H Q I h => ?_⟩
  refine wpAny_Call_Name_kw (ld_blt I hg hm hv ?_ (by decide) (by decide))
  refine PyProof.Rows.callWith_kw (thn (ha.run pos pins s σ H _ I h) fun us s1 ⟨vs, H1, I1, r1, a, xs, ks, ev, hs, hne, hlen, hT, hK⟩ => ?_) he hpl (by rfl) (by rfl)
  show wpAny _ _ (evalAll ((do let v ← eval (.Lambda params body scope lpos) X.env; standAt pos; pure v) :: [])) _ _ s1
  refine wpAny_evalAll_cons (wpAny_bind (LamX.lam_make2 I1 TB hcode hmT hu hT hdef (L.has I1.ok) fun f c' pm ctv H2 s2 I2 eN T2 hf hfn hfr hco => wpAny_bind (wpAny_standAt (wpAny_pure ?_))))
  refine wpAny_evalAll_nil ?_
  subst ev
  obtain ⟨u, rfl, ru⟩ : ∃ u, us = [u] ∧ RelV (V.ref a) u := by
    cases r1 with
    | cons r q => cases q with
      | nil => exact ⟨_, rfl, r⟩
  obtain rfl : u = Value.ref a := ru
  show wpAny _ _ (call (.builtin "max") [.ref a] [(Str.ofString "key", .ref f)]) _ _ s2
  obtain ⟨hkey, hQ⟩ := hK H2 eN T2
  rcases hs with hs | hs
  · have hs2 := extN_sqL eN hs
    obtain ⟨its, rv, pl, _⟩ := I2.list hs2
    have hl : s2.heap.IsList a its.toArray := pl.isList
    have haxl : a < s2.heap.objs.size := by obtain ⟨_, e, _⟩ := hl; exact Heap.lt_size e
    have hne2 : a ≠ s2.heap.objs.size := Nat.ne_of_lt haxl
    refine call_max_walkK (wpAny_pyIter_list hl ?_)
    exact max_core (ks := ks) I2 L hy rfl hf hfr hco hr.in1 (fun u => hbind _ _ _ _ _ u) (hbody f c') (by simpa using rv) hne hlen hkey rfl (sqL_notfr I2 hs2)
      (Walks.list (A := X.A.in1) hr.hd _ a hne2 its.toArray) ⟨⟨_, Heap.get?_push_size _ rfl, rfl, rfl⟩, hl.push _⟩ haxl hQ
  · have hs2 := extN_sqT eN hs
    obtain ⟨its, rv, pl, _⟩ := I2.tuple hs2
    have hl : s2.heap.IsTuple a its.toArray := pl
    have haxl : a < s2.heap.objs.size := by obtain ⟨_, e, _⟩ := hl; exact Heap.lt_size e
    have hne2 : a ≠ s2.heap.objs.size := Nat.ne_of_lt haxl
    refine call_max_walkK (wpAny_pyIter_tuple hl ?_)
    exact max_core (ks := ks) I2 L hy rfl hf hfr hco hr.in1 (fun u => hbind _ _ _ _ _ u) (hbody f c') (by simpa using rv) hne hlen hkey rfl (sqT_notfr I2 hs2)
      (Walks.tuple (A := X.A.in1) hr.hd _ a hne2 its.toArray) ⟨⟨_, Heap.get?_push_size _ rfl, rfl, rfl⟩, hl.push _⟩ haxl hQ
end

/-! ### the same over D -/
section
variable {K : PySem.W.Frag} {ρ : List Addr} {H H' : Hp} {S : Sto}
theorem extN_Ext (e : LamX.ExtN H H') : Ext ρ H ρ H' := ⟨fun _ _ h => h, fun _ _ h => e _ _ h (fun _ z => by cases z), fun _ _ _ h => e _ _ h (fun _ z => by cases z), fun _ _ _ h => e _ _ h (fun _ z => by cases z)⟩
theorem Rep.lam (R : Rep K ρ H S) (e : LamX.ExtN H H') (t : LamX.Tabs (TTof K) H') : Rep K ρ H' S := by
  refine ⟨R.len, R.inj, fun n a c h1 h2 => ?_, t⟩
  have q := R.at n a c h1 h2
  obtain ⟨o, ho, m⟩ := q.mut
  exact q.mono (extN_Ext e) ((e _ _ ho m.2.2.2.1).trans ho.symm)
end
/-- the keys by an item's place in a row -/
def keyIx (S : Sto) (r d : D) : Option Int := match opIx r d S with
  | .ok (.int k) _ => some k
  | _ => none
def keysIx (S : Sto) (r : D) : List D → Option (List Int)
  | [] => some []
  | d :: ds => match keyIx S r d, keysIx S r ds with
    | some k, some ks => some (k :: ks)
    | _, _ => none
def dMaxIx (i : Nat) (da : DA) : DE := fun δ S => (da δ S).bnd fun vs S1 => match vs with
  | [x] => match items S1 x, δ[i]? with
    | some ds, some (some r) => match keysIx S1 r ds with
      | some ks => if ds = [] then .bad else match ds[bestOf ks]? with
        | some d => .ok d S1
        | none => .bad
      | none => .bad
    | _, _ => .bad
  | _ => .bad
theorem keysIx_len {S : Sto} {r : D} : ∀ {ds : List D} {ks : List Int}, keysIx S r ds = some ks → ks.length = ds.length
  | [], ks, h => by
    cases h
    rfl
  | d :: ds, ks, h => by
    unfold keysIx at h
    split at h
    · rename_i k l h1 h2
      cases h
      rw [List.length_cons, List.length_cons, keysIx_len h2]
    · cases h
theorem keysIx_at {S : Sto} {r : D} : ∀ {ds : List D} {ks : List Int} {j : Nat} {d : D} {k : Int}, keysIx S r ds = some ks → ds[j]? = some d → ks[j]? = some k → keyIx S r d = some k
  | [], ks, j, d, k, h, h1, _ => by simp at h1
  | d :: ds, ks, j, d', k, h, h1, h2 => by
    unfold keysIx at h
    split at h
    · rename_i k0 l e1 e2
      cases h
      cases j with
      | zero =>
        simp at h1 h2
        subst h1
        subst h2
        exact e1
      | succ j =>
        simp at h1 h2
        exact keysIx_at e2 h1 h2
    · cases h
/-- what a def that makes a lambda tells of its code object -/
structure LamF (K : PySem.W.Frag) (base : Heap) (mg : Str → Option Value) (x : Str) (fd : FuncData) : Prop where
  ex : ∃ c P, fd.code = .ref c ∧ LamX.TabB base mg c P ∧ (P, lamQ x) ∈ TTof K ∧ ∀ p ∈ TTof K, p.1 = P → p.2 = lamQ x
section
variable {X : Cx} {cl : Str → Value} {E : XK}
theorem se_maxIx {cdc cdP : Addr} {scope : Scope} {y z : Str} {params : Arguments} {da : DA} {k0 i : Nat} {e : Expr} {p p1 p2 p3 pos lpos kpos : Pos}
    (TB : LamX.TabB X.base X.mg cdc cdP) (hcode : X.env.code = .ref cdc) (hmT : (cdP, X.env.qual ++ "<lambda>") ∈ TTof X.K) (hu : ∀ p ∈ TTof X.K, p.1 = cdP → p.2 = X.env.qual ++ "<lambda>") (hr : Room (k0 + 2) X.A) (L : LamS1 X.env.scope scope y) (hy : y ∉ X.N) (hdef : defaultsOf params X.env = ([], []))
    (hbind : ∀ (q : Str) (cl : List (Str × Addr)) (pm cv ctv u : Value), bindArgs (PySem.W.kla_fn "<lambda>" q params (.Subscript (.Name z p1) (.Name y p2) p3) scope cl pm cv ctv) ⟨[u], []⟩ = pure [(y, u)])
    (hN : X.N[i]? = some z) (hz : scope.names.lookup z = some .free) (hg : Gl X "max") (hm : X.mg "max" = none) (hv : bootBuiltins "max" = some (.builtin "max")) (ha : SA X (wt X cl E) [e] da)
    (d1 : (y == ("__debug__" : Str)) = false) (d2 : (y == ("__classdict__" : Str)) = false) (d3 : (z == ("__debug__" : Str)) = false) (d4 : (z == ("__classdict__" : Str)) = false)
    (he : backTo pos (starEach [e] X.env) = (false, eval e X.env) :: backTo pos (starEach [] X.env)) (hpl : (backTo pos (starEach [e] X.env)).any (·.1) = false) :
    SE X (wt X cl E) (.Call (.Name "max" p) [e] [⟨some "key", .Lambda params (.Subscript (.Name z p1) (.Name y p2) p3) scope lpos, kpos⟩] pos) (dMaxIx i da) := by
  have hbody : ∀ (f c' : Addr) (A : Around) (outer : List Env) (s : Shared) (H : Hp) (E : XK), PE (lamCx1 X A outer s H E scope f c' y) (.Subscript (.Name z p1) (.Name y p2) p3) (L2.tOp (fun a b H Q => rIxL X.K a b H Q ∨ rIxT X.K a b H Q) (tVar (i + 1)) (tVar 0)) := fun f c' A outer s H E =>
    pe_ix (IxR.or ix_list ix_tup) (pe_var (X := lamCx1 X A outer s H E scope f c' y) (i := i + 1) hN (Or.inr (Or.inr hz)) d3 d4) (pe_var (X := lamCx1 X A outer s H E scope f c' y) (i := 0) rfl (Or.inl L.par) d1 d2) fun _ _ => rfl
  refine pe_imp (pe_maxL TB hcode hmT hu hr L hy hdef hbind hbody hg hm hv ha he hpl) fun σ H Q h => ?_
  refine tG.step h fun ρ δ ρ1 S1 H1 vs ds N e1 R r P => ?_
  unfold dMaxIx at P
  match ds, r, P with
  | [], _, P => exact P.elim
  | _ :: _ :: _, _, P => exact P.elim
  | [x], .cons rx .nil, P =>
    revert P
    dsimp only
    split
    · rename_i its rr hi hδ
      split
      · rename_i ks hks
        split
        · exact fun P => P.elim
        · rename_i hne
          split
          · rename_i d hd
            intro P
            obtain ⟨a, xs, rfl, sq, dv⟩ := rx.seqI R hi
            have hlx : ks.length = xs.length := by rw [keysIx_len hks, dv.length]
            refine ⟨a, xs, ks, rfl, sq, fun z => hne (dv.nil_iff.mp z), hlx, R.tab, fun H2 eN T2 => ?_⟩
            have R2 := R.lam eN T2
            have E2 : Ext ρ1 H1 ρ1 H2 := extN_Ext eN
            refine ⟨fun HZ hF j x k hx hk => ?_, fun x hx => ?_⟩
            · obtain ⟨dj, hdj, rj⟩ := (dv.mono E2).getV hx
              have hkey := keysIx_at hks hdj hk
              unfold keyIx opIx at hkey
              obtain ⟨v, hv, rv⟩ := N.at i rr hδ
              refine ⟨v, hv, x, rfl, ?_⟩
              split at hkey
              · rename_i k' S' hop
                cases hkey
                split at hop
                · rename_i jj
                  split at hop
                  · rename_i rs hrs
                    split at hop
                    · rename_i dk hdk
                      cases hop
                      obtain ⟨b, us, rfl, sqr, dvr⟩ := (rv.mono E2).seqI R2 hrs
                      obtain ⟨w, h1, h2⟩ := atI_dv dvr hdk
                      have hw : w = .int k := h2.intI
                      have hx2 : x = .int jj := rj.intI
                      rcases sqr with sqr | sqr
                      · exact .inl ⟨b, us, jj, w, rfl, hx2, hF.2 _ _ sqr, h1, hw⟩
                      · exact .inr ⟨b, us, jj, w, rfl, hx2, hF.1 _ _ sqr, h1, hw⟩
                    · cases hop
                  · cases hop
                · cases hop
              · cases hkey
            · obtain ⟨dx, hdx, rxx⟩ := (dv.mono E2).getV hx
              have e3 : d = dx := by
                have q := hd
                rw [hdx] at q
                exact (Option.some.inj q).symm
              subst e3
              exact P ρ1 H2 x E2 R2 rxx
          · exact fun P => P.elim
      · exact fun P => P.elim
    · exact fun P => P.elim
end
section
variable {P : Program} {w : World} {K : PySem.W.Frag} {mg : Str → Option Value} {base : Heap} {cl : Str → Value}
/-- a def that makes a lambda -/
theorem fn_okL {x qual : Str} {st : Stmt} {f : Addr} {fd : FuncData} {N ps : List Str} {k : Nat} {body : DS} (F : Fun K x qual st f fd) (LF : LamF K base mg x fd) (S : FnScope N ps (defScope st))
    (hbody : ∀ (cdv : Value) (cdc cdP : Addr), cdv = .ref cdc → LamX.TabB base mg cdc cdP → (cdP, lamQ x) ∈ TTof K → (∀ p ∈ TTof K, p.1 = cdP → p.2 = lamQ x) → ∀ (A : Around) (outer : List Env) (s : Shared) (H : Hp) (E : XK), Room k (A.deeper (envOfC qual (defScope st) s.heap.objs.size f cdv)) →
      SB (cxOf (L2.CX P w) P w K mg base N qual (defScope st) f cdv A outer s H E) ⟨K, cl, E⟩ (defBody st) body) : FnOk P w K mg base (L2.CX P w) (k + 1) f fd ps (SpD K cl (dFn ps.length N.length body)) := by
  obtain ⟨oc, od, kV, doc, pm, an, cdv, ct, osl, rfl, lk, hcd⟩ := F.ex
  obtain ⟨c, cP, hc, TB, hm, hu⟩ := LF.ex
  refine fn_of lk hcd S (fun vs H Q E h => ?_) fun A outer s H vs Q E hr h => ?_
  · obtain ⟨ρ, S, ds, R, v, P⟩ := h
    unfold dFn at P
    split at P
    · rename_i hl
      rw [v.length, hl]
    · exact P.elim
  · obtain ⟨ρ, S, ds, R, v, P⟩ := h
    refine ⟨_, hbody cdv c cP hc TB hm hu A outer s H E hr, ρ, startD N.length ds, S, R, envR_start v, ?_⟩
    unfold dFn at P
    split at P
    · cases q : body (startD N.length ds) S with
      | nx δ S1 =>
        rw [q] at P
        exact fun ρ1 H1 σ1 e1 R1 N1 => P ρ1 H1 .non e1 R1 .non
      | rt d S1 =>
        rw [q] at P
        exact P
      | exc c S1 =>
        rw [q] at P
        exact P
      | bk δ S1 => rw [q] at P; exact P.elim
      | ct δ S1 => rw [q] at P; exact P.elim
      | bad => rw [q] at P; exact P.elim
    · exact P.elim
end
end Dn
set_option Elab.async false
set_option linter.all false
set_option maxRecDepth 100000
set_option maxHeartbeats 2000000
/-! Dn11: reversed, reverse, extend, index, [::-1], texts put together, text in text. -/
noncomputable section
namespace Dn
open PySem PySem.Spec PyProof.Rows L2
/-! ### texts -/
def opAddS (x y : D) (S : Sto) : Res D := match x, y with
  | .str a, .str b => if a.length + b.length ≤ lim then .ok (.str (a ++ b)) S else .bad
  | _, _ => .bad
def opInS (x y : D) (S : Sto) : Res D := match x, y with
  | .str a, .str b => .ok (.bl (!(Builtin.Str.occurrences b a 0 b.length 1).isEmpty)) S
  | _, _ => .bad
section
variable {X : Cx} {cl : Str → Value} {E : XK}
theorem od_addS : OpD X (wt X cl E) (binaryOp .Add) opAddS := OpR.imp op_add_str fun x y H Q ⟨ρ, S, d, e, R, r1, r2, P⟩ => by
  unfold opAddS at P
  split at P
  · rename_i a b
    split at P
    · rename_i hl
      exact ⟨a, b, r1.strI, r2.strI, le_lim hl, P.now R (.str _)⟩
    · exact P.elim
  · exact P.elim
theorem od_inS : OpD X (wt X cl E) (compareOp .In) opInS := OpR.imp op_in_str fun x y H Q ⟨ρ, S, d, e, R, r1, r2, P⟩ => by
  unfold opInS at P
  split at P
  · rename_i a b
    exact ⟨a, b, r1.strI, r2.strI, P.now R (.bl _)⟩
  · exact P.elim
end
/-! ### methods -/
def mReverse (x : D) (xs : List D) (S : Sto) : Res D := match x, xs with
  | .cell n, [] => match S[n]? with
    | some (.lst ds) => .ok .non (S.set n (.lst ds.reverse))
    | _ => .bad
  | _, _ => .bad
def mExtend (x : D) (xs : List D) (S : Sto) : Res D := match x, xs with
  | .cell n, [.cell m] => match S[n]?, S[m]? with
    | some (.lst ds), some (.lst es) => if ds.length + es.length ≤ lim then .ok .non (S.set n (.lst (ds ++ es))) else .bad
    | _, _ => .bad
  | _, _ => .bad
def intsD : List D → Option (List Int)
  | [] => some []
  | .int i :: r => (intsD r).map (i :: ·)
  | _ :: _ => none
/-- l.index(k), l.index(k, i), whole numbers -/
def mIndex (x : D) (xs : List D) (S : Sto) : Res D := if isT x = true then .bad else match items S x, xs with
  | some ds, [.int k] => match intsD ds with
    | some ns => if k ∈ ns then .ok (.int (ns.idxOf k : Nat)) S else .bad
    | none => .bad
  | some ds, [.int k, .int i] => match intsD ds with
    | some ns => if 0 ≤ i ∧ k ∈ ns.drop i.toNat then .ok (.int (i.toNat + (ns.drop i.toNat).idxOf k : Nat)) S else .bad
    | none => .bad
  | _, _ => .bad
theorem dvAll_reverse {K : PySem.W.Frag} {ρ : List Addr} {H : Hp} : ∀ {vs : List V} {ds : List D}, DvAll K ρ H vs ds → DvAll K ρ H vs.reverse ds.reverse
  | _, _, .nil => .nil
  | _, _, .cons r t => by
    rw [List.reverse_cons, List.reverse_cons]
    exact (dvAll_reverse t).append (.cons r .nil)
theorem intsD_dv {K : PySem.W.Frag} {ρ : List Addr} {H : Hp} : ∀ {vs : List V} {ds : List D} {ns : List Int}, DvAll K ρ H vs ds → intsD ds = some ns → vs = ns.map V.int
  | _, _, ns, .nil, h => by
    cases h
    rfl
  | v :: vs, d :: ds, ns, .cons r t, h => by
    cases d with
    | int i =>
      obtain ⟨l, e1, e2⟩ := Option.map_eq_some_iff.mp (show (intsD ds).map (i :: ·) = some ns from h)
      rw [← e2, r.intI, intsD_dv t e1]
      rfl
    | _ => cases h
section
variable {X : Cx} {cl : Str → Value} {E : XK}
theorem md_reverse : MtR X "list.reverse" (rMD (wt X cl E) mReverse) := mt_imp mt_reverse fun x xs H Q ⟨ρ, S, d, ds, R, r, rs, P⟩ => by
  unfold mReverse at P
  split at P
  · rename_i n
    split at P
    · rename_i its hi
      cases rs
      obtain ⟨a, rfl, q⟩ := r.cellI
      obtain ⟨us, g1, g2⟩ := R.lst q hi
      have ew : Ext ρ H ρ (upd H a (.lst us.reverse)) := R.ext_write q
      exact ⟨a, us, rfl, rfl, g1, P ρ _ .non ew (R.write (c := .lst its.reverse) q ⟨_, upd_same, (dvAll_reverse g2).mono ew⟩) .non⟩
    · exact P.elim
  · exact P.elim
theorem md_extend : MtR X "list.extend" (rMD (wt X cl E) mExtend) := mt_imp mt_extend fun x xs H Q ⟨ρ, S, d, ds, R, r, rs, P⟩ => by
  unfold mExtend at P
  split at P
  · rename_i n m
    split at P
    · rename_i its its2 hi hi2
      split at P
      · rename_i hl
        obtain ⟨v, rfl, r2⟩ := one_of rs
        obtain ⟨a, rfl, q⟩ := r.cellI
        obtain ⟨b, rfl, q2⟩ := r2.cellI
        obtain ⟨us, g1, g2⟩ := R.lst q hi
        obtain ⟨ws, k1, k2⟩ := R.lst q2 hi2
        have ew : Ext ρ H ρ (upd H a (.lst (us ++ ws))) := R.ext_write q
        exact ⟨a, b, us, ws, rfl, rfl, g1, k1, by rw [g2.length, k2.length]; exact le_lim hl, P ρ _ .non ew (R.write (c := .lst (its ++ its2)) q ⟨_, upd_same, (g2.append k2).mono ew⟩) .non⟩
      · exact P.elim
    · exact P.elim
  · exact P.elim
/-- l.index(k), l.index(k, i) of whole numbers -/
def rIndexI (K : PySem.W.Frag) : V → List V → Hp → VK → Prop := fun x xs H Q => ∃ (a : Addr) (ns : List Int) (k : Int), x = V.ref a ∧ SqL K H a (ns.map V.int) ∧
  ((xs = [.int k] ∧ k ∈ ns ∧ Q (.int (ns.idxOf k : Nat)) H) ∨ ∃ i : Nat, xs = [.int k, .int (i : Nat)] ∧ k ∈ ns.drop i ∧ Q (.int (i + (ns.drop i).idxOf k : Nat)) H)
theorem mt_indexI : MtR X "list.index" (rIndexI X.K) := by
  intro pins s σ H x xs v us Q I rx rxs h
  obtain ⟨a, ns, k, rfl, hs, h⟩ := h
  cases rx
  obtain ⟨its, rv, pl, hz⟩ := I.list hs
  rw [List.length_map] at hz
  rcases h with ⟨rfl, hk, q⟩ | ⟨i, rfl, hk, q⟩
  · obtain ⟨u, rfl, t, rfl⟩ := vals1 rxs
    exact SeqAt.list_index_ints pl.isList rv.ints hz hk ⟨.int (ns.idxOf k : Nat), H, I.tok _, ⟨_, rfl⟩, q⟩
  · cases rxs with
    | cons r1 rt => cases rt with
      | cons r2 rt2 =>
        cases rt2
        obtain ⟨t, rfl⟩ := r1
        obtain ⟨t2, rfl⟩ := r2
        have hi := rv.ints
        have he : SeqAt.ItemsEq X.A.in1 s its ns (.int k t) k := SeqAt.ItemsEq.ints hi
        have hlen := he.1
        obtain ⟨⟨cls, dd, data, sl⟩, ho, hc, n, hd⟩ := pl.isList
        simp only at hc hd
        subst hc hd
        rw [sizeLine_eq] at hz
        have hj : (ns.drop i).idxOf k < (ns.drop i).length := List.idxOf_lt_length_iff.mpr hk
        have hj2 : i + (ns.drop i).idxOf k < ns.length := by rw [List.length_drop] at hj; omega
        have hsf : SeqAt.searchFrom (i : Int) its.toArray.size = i := by
          exact SeqAt.searchFrom_nat i _
        have dr : ∀ m : Nat, (ns.drop i)[m]? = ns[i + m]? := fun m => List.getElem?_drop
        refine call_meets F.slot_list_index ⟨_, ho, rfl⟩ F.entry_list_index (F.args_list_index_3 _ _ _)
          (SeqAt.list_index3_found a its.toArray n dd sl (.int k t) (fun j => decide (ns[j]? = some k)) (i : Nat) t2 (i + (ns.drop i).idxOf k) (by rw [List.size_toArray, hlen]; exact hj2) (by rw [hsf]; omega) (by omega) ?_ fun m hm h1 h2 => ?_) ⟨ho, fun j hj' => ?_, ?_⟩
        · have e := dr ((ns.drop i).idxOf k)
          rw [List.getElem?_eq_getElem hj, List.getElem_idxOf hj] at e
          exact decide_eq_true e.symm
        · rw [hsf] at h1
          have hm' : m - i < (ns.drop i).idxOf k := by omega
          have hl' : m - i < (ns.drop i).length := Nat.lt_trans hm' hj
          have e := dr (m - i)
          rw [List.getElem?_eq_getElem hl', show i + (m - i) = m by omega] at e
          have ne := SeqAt.lt_idxOf_ne hm' hl'
          exact decide_eq_false fun z => ne (Option.some.inj (e.trans z))
        · have h1 : j < its.length := by simpa using hj'
          have h2 : j < ns.length := by omega
          simpa [List.getElem?_eq_getElem h2] using he.2 j h1 h2
        · exact ⟨.int (i + (ns.drop i).idxOf k : Nat), H, I.tok _, ⟨_, rfl⟩, q⟩
end
end Dn
set_option Elab.async false
set_option linter.all false
set_option maxRecDepth 100000
set_option maxHeartbeats 2000000
/-! Dn12: tuple[::-1], len(set(tuple)). -/
noncomputable section
namespace HT2
open PySem PySem.Spec PyProof.Rows L2 HT
section
variable {prog : Program} {w : World} {A : Around} {E : Value → Shared → Prop} {s : Shared}
theorem adjust_rev (n : Nat) : Builtin.Slice.sliceAdjust none none (-1) (n : Int) = ((n : Int) - 1, -1) := by
  unfold Builtin.Slice.sliceAdjust
  simp
theorem places_rev (n : Nat) : Builtin.Slice.slicePlaces ((n : Int) - 1) (-1) (-1) = n := by
  unfold Builtin.Slice.slicePlaces
  simp
  split <;> omega
theorem sliceApplied_rev {sl : Addr} {vl vu vs : Value} {n : Nat} {Q : Int × Int × Nat → Shared → Prop} (hs : s.heap.IsSliceOf sl vl vu vs) (pl : IsPart vl none) (pu : IsPart vu none) (ps : IsPart vs (some (-1)))
    (h : Q ((n : Int) - 1, -1, n) s) : wpAny (model prog w) A (Builtin.Slice.sliceApplied (.ref sl) (pure (n : Int))) Q E s := by
  obtain ⟨os, hos, hcs, hds⟩ := id hs
  unfold Builtin.Slice.sliceApplied Builtin.Slice.sliceFields
  refine wpAny_bind (wpAny_bind (wpAny_field hos hds (x := vl) rfl (wpAny_bind (wpAny_field hos hds (x := vu) rfl (wpAny_bind (wpAny_field hos hds (x := vs) rfl (wpAny_pure ?_)))))))
  refine wpAny_bind (slicePart_ ps ?_)
  show wpAny _ _ (if ((-1 : Int) == 0) = true then _ else _) _ _ s
  rw [if_neg (by decide)]
  refine wpAny_bind (slicePart_ pl (wpAny_bind (slicePart_ pu (wpAny_bind (wpAny_pure ?_)))))
  show wpAny _ _ (match Builtin.Slice.sliceAdjust none none (-1) (n : Int) with | (lo, hi) => pure (lo, (-1 : Int), Builtin.Slice.slicePlaces lo hi (-1))) _ _ s
  rw [adjust_rev n]
  show wpAny _ _ (pure ((n : Int) - 1, (-1 : Int), Builtin.Slice.slicePlaces ((n : Int) - 1) (-1) (-1))) _ _ s
  rw [places_rev]
  exact wpAny_pure h
theorem filtMap_congr {α β : Type} {f g : α → Option β} : ∀ {l : List α}, (∀ x ∈ l, f x = g x) → l.filterMap f = l.filterMap g
  | [], _ => rfl
  | a :: l, h => by
    rw [List.filterMap_cons, List.filterMap_cons, h a List.mem_cons_self, filtMap_congr fun x hx => h x (List.mem_cons_of_mem _ hx)]
theorem pick_rev (xs : Array Value) : ((List.range xs.size).filterMap fun (m : Nat) => xs[((xs.size : Int) - 1 + (m : Int) * (-1)).toNat]?).toArray = xs.toList.reverse.toArray := by
  have e : (List.range xs.size).filterMap (fun (m : Nat) => xs[((xs.size : Int) - 1 + (m : Int) * (-1)).toNat]?) = ((List.range xs.size).map fun k => xs.size - 1 - k).filterMap (xs[·]?) := by
    rw [List.filterMap_map]
    refine filtMap_congr fun m hm => ?_
    have hm' := List.mem_range.mp hm
    have e1 : ((xs.size : Int) - 1 + (m : Int) * (-1)).toNat = xs.size - 1 - m := by omega
    show xs[_]? = xs[xs.size - 1 - m]?
    rw [e1]
  rw [e, PySem.W.krv_range, List.filterMap_reverse, PySem.W.krv_all]
theorem getItem_tuple_rev {t sl : Addr} {items : Array Value} {vl vu vs : Value} {Q : Value → Shared → Prop} (ht : IsTup s.heap t items) (hs : s.heap.IsSliceOf sl vl vu vs) (pl : IsPart vl none) (pu : IsPart vu none) (ps : IsPart vs (some (-1)))
    (h : Q (.ref s.heap.objs.size) { s with heap := s.heap.push { cls := .type "tuple", data := .seq items.toList.reverse.toArray } })
    (hsz : items.size ≤ sizeLine) : wpAny (model prog w) A (getItem (.ref t) (.ref sl)) Q E s := by
  have htake : sizeOk (.seq items.toList.reverse.toArray) := by
    show items.toList.reverse.toArray.size ≤ sizeLine
    rw [List.size_toArray, List.length_reverse, Array.length_toList]
    exact hsz
  obtain ⟨os, hos, hcs, hds⟩ := id hs
  have hTs : s.TypeIs (.ref sl) "slice" := ⟨os, hos, hcs⟩
  unfold getItem
  try with_reducible refine wpAny_holding ?_
  first | refine wpAny_bind (wpAny_pure ?_) | skip
  refine wpAny_bind (wpAny_sequenceKey ht.typeIs (by decide) ?_)
  refine wpAny_bind (wpAny_callSpecial?_slot (name := Str.ofString "__getitem__") ht.typeIs PyProof.Rows.slot_tuple_getitem
    (wpAny_call_entry PyProof.Rows.slot_tuple_getitem ht.typeIs entry_tuple_getitem ?_ (args_tuple_getitem _ _)))
  show wpAny _ _ (Builtin.Tuple.tupleItemsOf (.ref t) >>= _) _ _ s
  refine wpAny_bind (tupleItemsOf_ ht ?_)
  refine wpAny_bind (wpAny_typeOf hTs ?_)
  rw [if_pos (by decide)]
  refine wpAny_bind (sliceApplied_rev hs pl pu ps ?_)
  have hno : ¬ ((((items.size : Int) - 1) == 0 && (-1 : Int) == 1 && items.size == items.size) = true) := by
    rw [show ((-1 : Int) == 1) = false from by decide, Bool.and_false, Bool.false_and]
    decide
  show wpAny _ _ (if (((items.size : Int) - 1) == 0 && (-1 : Int) == 1 && items.size == items.size) = true then _ else _) _ _ s
  rw [if_neg hno, pick_rev]
  first
    | exact wpAny_bind (m := Builtin.Tuple.tupleExact _) (wpAny_newObj_type (wpAny_pure ⟨_, rfl, wpAny_pure h⟩) htake)
    | exact wpAny_bind (m := Builtin.Tuple.tupleExact _) (wpAny_newObj_type (wpAny_bind (wpAny_pure (wpAny_pure ⟨_, rfl, wpAny_pure h⟩))) htake)
    | exact wpAny_bind (wpAny_bind (m := Builtin.Tuple.tupleExact _) (wpAny_newObj_type (wpAny_pure (wpAny_pure ⟨_, rfl, wpAny_pure h⟩)) htake))
    | exact wpAny_bind (wpAny_bind (m := Builtin.Tuple.tupleExact _) (wpAny_newObj_type (wpAny_pure ⟨_, rfl, wpAny_pure h⟩) htake))
end
end HT2

noncomputable section
namespace Dn
open PySem PySem.Spec PyProof.Rows L2
/-- distinct ones -/
def ded : List Int → List Int
  | [] => []
  | k :: r => if k ∈ ded r then ded r else k :: ded r
theorem ded_mem : ∀ {l : List Int} {k : Int}, k ∈ ded l ↔ k ∈ l
  | [], k => Iff.rfl
  | a :: r, k => by
    unfold ded
    split
    · rename_i h
      rw [ded_mem]
      constructor
      · exact List.mem_cons_of_mem _
      · intro z
        rcases List.mem_cons.mp z with rfl | z
        · exact ded_mem.mp h
        · exact z
    · rw [List.mem_cons, List.mem_cons, ded_mem]
theorem ded_nodup : ∀ l : List Int, (ded l).Nodup
  | [] => List.nodup_nil
  | a :: r => by
    unfold ded
    split
    · exact ded_nodup r
    · rename_i h
      exact List.nodup_cons.mpr ⟨h, ded_nodup r⟩
def dLenSet (de : DE) : DE := fun δ S => (de δ S).bnd fun d S1 => match d with
  | .tup xs => match intsD xs with
    | some ns => if ns.length ≤ 60 then .ok (.int ((ded ns).length : Nat)) S1 else .bad
    | none => .bad
  | _ => .bad
def dRevT (de : DE) : DE := fun δ S => (de δ S).bnd fun d S1 => match d with
  | .tup xs => if xs.length ≤ lim then .ok (.tup xs.reverse) S1 else .bad
  | _ => .bad
def dRevL (de : DE) : DE := fun δ S => (de δ S).bnd fun d S1 => if isT d = true then .bad else match items S1 d with
  | some xs => mkLst xs.reverse S1
  | none => .bad
def dListRev (de : DE) : DE := fun δ S => (de δ S).bnd fun d S1 => if isT d = true then .bad else match items S1 d with
  | some xs => mkLst xs.reverse S1
  | none => .bad
section
variable {X : Cx} {cl : Str → Value} {E : XK}
def tRevTup (K : PySem.W.Frag) (te : TE) : TE := fun σ H Q => te σ H fun x H1 => ∃ a xs, x = .ref a ∧ SqT K H1 a xs ∧ ∀ p, H1 p = none → Q (.ref p) (upd H1 p (.tup xs.reverse))
theorem pe_revT {te : TE} {e : Expr} {k : Nat} {p1 p2 p3 pos : Pos} (he : PE X e te) : PE X (.Subscript e (.Slice none none (some (.UnaryOp .USub (.Constant (.int 1) k p1) p2)) p3) pos) (tRevTup X.K te) := by
  refine ⟨fun pins s σ H Q I h => ?_⟩
  refine Subscript_ (thn (he.run pins s σ H _ I h) fun v s1 ⟨x, H1, I1, r1, q1⟩ => ?_)
  obtain ⟨a, xs, ex, hx, q⟩ := q1
  subst ex
  cases r1
  have hst : PO X (some (.UnaryOp .USub (.Constant (.int 1) k p1) p2)) (tPart (tUn (rU fun i => .int (-i)) (tC (.int 1)))) := po_some (pe_un un_neg pe_int)
  refine wpAny_Slice (thn (po_none.run pins s1 σ H1 (fun o H2 => o = none ∧ H2 = H1) I1 ⟨rfl, rfl⟩) fun vl s2 ⟨l, H2, I2, pl, el, e2⟩ => ?_)
  subst el e2
  refine thn (po_none.run pins s2 σ H2 (fun o H3 => o = none ∧ H3 = H2) I2 ⟨rfl, rfl⟩) fun vu s3 ⟨u, H3, I3, pu, eu, e3⟩ => ?_
  subst eu e3
  refine thn (hst.run pins s3 σ H3 (fun o H4 => o = some (-1) ∧ H4 = H3) I3 ⟨1, rfl, -1, rfl, rfl, rfl⟩) fun vs s4 ⟨o, H4, I4, ps, eo, e4⟩ => ?_
  subst eo e4
  have I5 : Inv X pins σ H4 { s4 with heap := s4.heap.push { cls := .type "slice", data := .fields #[vl, vu, vs] } } := I4.kept (t' := s4.toks) fun b ob q => Heap.get?_push_of_some _ q
  obtain ⟨its, r, ht, hz⟩ := I5.tuple hx
  have hlen := r.length
  show wpAny (model X.prog X.w) X.A (subscriptTail e (.Slice none none (some (.UnaryOp .USub (.Constant (.int 1) k p1) p2)) p3) (.ref a) (.ref s4.heap.objs.size)) (EP X pins σ Q) X.xe { s4 with heap := s4.heap.push { cls := .type "slice", data := .fields #[vl, vu, vs] } }
  refine tail_any (ops := [.ref a, .ref s4.heap.objs.size]) ht.typeIs PyProof.Rows.slot_tuple_getitem.lookup ?_ (by with_unfolding_all rfl)
  refine HT2.getItem_tuple_rev ht (Heap.IsSliceOf.new _ vl vu vs) pl pu ps ?_ (by rw [List.size_toArray]; omega)
  refine ⟨.ref _, _, I5.laid (t' := s4.toks) (o := .tup xs.reverse) (fun b ob q => Heap.get?_push_of_some _ q) (Nat.le_refl _) ?_, rfl, q _ (I5.hok.fresh (Nat.le_refl _))⟩
  refine ⟨by rw [List.length_reverse]; exact hz, its.reverse, r.reverse, ?_⟩
  have e : its.toArray.toList.reverse.toArray = its.reverse.toArray := by simp
  rw [e]
  exact IsTup.new _ _
end
end Dn

namespace RT
open PySem PySem.Spec PyProof.Rows L2
section
variable {prog : Program} {w : World} {A : Around} {E : Value → Shared → Prop} {s : Shared}
theorem ext_rev {it l S : Addr} {items : Array Value} {res : Value} {c : Nat} {R : Result → Shared → Prop} (hh : A.handled = none) (hit : s.heap.IsRevIter it l ((items.size : Int) - 1)) (hl : s.heap.IsList l items) (hne : l ≠ it) (hn : items.size ≤ sizeLine)
    (hS₁ : s.heap.get? S = some { cls := .type "list", data := .seq #[] c }) (hSi : S ≠ it) (hSl : S ≠ l)
    (hR : ∀ s' acc' c', Moved (S :: [it]) (fun a b => b = a) s s' → s'.heap.get? S = some { cls := .type "list", dict := none, data := .seq acc' c', slots := #[] } → ItemsOf (fun i v => items[items.size - 1 - i]? = some v) acc' items.size → R (.ok (.ret res)) s') :
    wpAny (model prog w) A.in1 (Builtin.List.listExtendWith (.ref S) (.ref it) res)
      (fun fin s' => match fin with | .done f => R (.ok f) s' | .again c' => c'.quiet = true ∧ codeAny (model prog w) A c' R s') (fun e s' => R (.error e) s') s := by
  have W := (Walks.listRev (prog := prog) (w := w) (A := A.in1) hh it l hne items).toS
  have hSf : S ∉ [it, l] := by simp only [List.mem_cons, List.not_mem_nil, or_false, not_or]; exact ⟨hSi, hSl⟩
  have hT : s.TypeIs (.ref it) "list_reverseiterator" := hit.typeIs
  have h1 : Builtin.List.listSameRef (.ref S) (.ref it) = false := by simp [Builtin.List.listSameRef, hSi]
  unfold Builtin.List.listExtendWith
  refine wpAny_bind (wpAny_typeOf hT ?_)
  rw [if_neg (by rw [h1]; decide)]
  refine wpAny_bind (wpAny_pyIter_revIter hit ?_)
  refine wpAny_bind (wpAny_holding ?_)
  unfold Builtin.List.listLengthHint
  refine wpAny_bind (wpAny_specialOf hT nolen_lri ?_)
  show wpAny _ A.in1 (specialOf (Value.ref it) (Str.ofString "__length_hint__") >>= _) _ _ _
  refine wpAny_bind (wpAny_specialOf hT hint_lri ?_)
  generalize hid : ("list_reverseiterator.__length_hint__" : String) = id0
  wp_delta
  rw [show splitId id0 = some ("list_reverseiterator", "__length_hint__") from by subst hid; decide +kernel]
  subst hid
  refine wpAny_bind (wpAny_isInstance (b := true) hT (by rw [isSubtype_type]; kernel_rfl) ?_)
  refine wpAny_pure ?_
  rw [if_neg (by decide)]
  have e0 : ((items.size : Nat) : Int) - 1 - ((0 : Nat) : Int) = (items.size : Int) - 1 := by omega
  exact wpAny_pure ⟨plainId_quiet F.plain_extend_loop _, codeAny_extend_loopS W hn _ hSf _ items.size 0 _ _ _ rfl (Nat.zero_le _) ⟨Nat.zero_le _, by rw [e0]; exact hit, hl⟩ hS₁ (ItemsOf.nil _) fun s' acc' c' hm hS' hacc => hR s' acc' c' hm hS' hacc⟩
theorem call_list_rev {it l : Addr} {items : Array Value} {Q : Value → Shared → Prop} (hh : A.handled = none) (hit : s.heap.IsRevIter it l ((items.size : Int) - 1)) (hl : s.heap.IsList l items) (hne : l ≠ it) (hn : items.size ≤ sizeLine)
    (hQ : ∀ s' acc' c', Moved (s.heap.objs.size :: [it]) (fun a b => b = a) { s with heap := s.heap.push { cls := .type "list", data := .seq #[] } } s' →
      s'.heap.get? s.heap.objs.size = some { cls := .type "list", dict := none, data := .seq acc' c', slots := #[] } → ItemsOf (fun i v => items[items.size - 1 - i]? = some v) acc' items.size → Q (.ref s.heap.objs.size) s') :
    wpAny (model prog w) A (call (.type "list") [.ref it]) Q E s := by
  obtain ⟨oi, hoi, _⟩ := id hit
  obtain ⟨ol, hol, _⟩ := id hl
  have hSi : s.heap.objs.size ≠ it := Nat.ne_of_gt (Heap.lt_size hoi)
  have hSl : s.heap.objs.size ≠ l := Nat.ne_of_gt (Heap.lt_size hol)
  refine callType_codes (Q₁ := fun obj s₁ => obj = .ref s.heap.objs.size ∧ s₁ = { s with heap := s.heap.push { cls := .type "list", data := .seq #[] } }) F.called_list (F.typeCall_list_1 _) F.entry_list_init
    (code_list_new _ ⟨rfl, rfl⟩) fun obj s₁ h₁ => ?_
  obtain ⟨rfl, rfl⟩ := h₁
  have hS : (s.heap.push { cls := .type "list", data := .seq #[] }).get? s.heap.objs.size = some { cls := .type "list", data := .seq #[] } := Heap.get?_push_size _ rfl
  refine ⟨⟨_, hS, rfl⟩, F.args_list_init_2 _ _, ?_⟩
  have hit1 : (s.heap.push { cls := .type "list", data := .seq #[] }).IsRevIter it l ((items.size : Int) - 1) := hit.at fun o e => Heap.get?_push_of_some _ e
  have hl1 : (s.heap.push { cls := .type "list", data := .seq #[] }).IsList l items := hl.push _
  show wpAny _ A.in1.in1 (do let old ← Builtin.List.listItems (.ref s.heap.objs.size); Builtin.List.listUpdate (.ref s.heap.objs.size) (fun _ => #[]); letGo old.toList.reverse; Builtin.List.listExtendWith (.ref s.heap.objs.size) (.ref it) .none) _ _ _
  refine wpAny_bind ?_
  unfold Builtin.List.listItems
  refine wpAny_bind (wpAny_seqItems hS rfl (wpAny_pure ?_))
  show wpAny _ A.in1.in1 (updateSeq s.heap.objs.size (fun _ => #[]) >>= fun _ => letGo (#[] : Array Value).toList.reverse >>= fun _ => Builtin.List.listExtendWith (.ref s.heap.objs.size) (.ref it) .none) _ _ _
  refine wpAny_bind (wpAny_updateSeq hS rfl ?_)
  have hS₂ := Heap.get?_update_self (Obj.mapSeq (fun _ => (#[] : Array Value))) hS rfl
  have oth : ∀ b o, b ≠ s.heap.objs.size → (s.heap.push { cls := .type "list", data := .seq #[] }).get? b = some o → ((s.heap.push { cls := .type "list", data := .seq #[] }).update s.heap.objs.size (Obj.mapSeq (fun _ => (#[] : Array Value)))).get? b = some o :=
    fun b o hb e => (Heap.get?_update_other _ _ (Ne.symm hb)).trans e
  refine wpAny_bind (wpAny_letGo ?_)
  refine ext_rev (A := A.in1) (s := { s with heap := (s.heap.push { cls := .type "list", data := .seq #[] }).update s.heap.objs.size (Obj.mapSeq (fun _ => (#[] : Array Value))) }) hh (hit1.at fun o e => oth _ _ (Ne.symm hSi) e) (hl1.extBut (fun b o hb e => oth b o hb e) (Ne.symm hSl)) hne hn hS₂ hSi hSl fun s' acc' c' hm hS' hacc => ?_
  exact ⟨rfl, hQ s' acc' c' ⟨fun b o hb e => hm.heap b o hb (oth b o (fun h => hb (by rw [h]; exact List.mem_cons_self)) e), hm.gens, hm.drawn, hm.os, hm.toks⟩ hS' hacc⟩
end
end RT

namespace L2
open PySem PySem.Spec PyProof.Rows RT
/-- list(reversed(x)), x a list: a new list -/
def tListRev (K : PySem.W.Frag) (te : TE) : TE := fun σ H Q => te σ H fun v H1 => ∃ (a : Addr) (xs : List V), v = .ref a ∧ SqL K H1 a xs ∧ ∀ q, H1 q = none → Q (.ref q) (upd H1 q (.lst xs.reverse))
theorem boot_list' : bootBuiltins "list" = some (.type "list") := by decide +kernel
section
variable {X : Cx}
theorem pe_listRev {e : Expr} {te : TE} {p p2 pos pos2 : Pos} (hc : X.calm = true) (hg : Gl X "list") (hm : X.mg "list" = none) (hg2 : Gl X "reversed") (hm2 : X.mg "reversed" = none) (he : PE X e te)
    (hs : starEach [e] X.env = (false, eval e X.env) :: starEach [] X.env := by rfl)
    (hs2 : starEach [.Call (.Name "reversed" p2) [e] [] pos2] X.env = (false, eval (.Call (.Name "reversed" p2) [e] [] pos2) X.env) :: starEach [] X.env := by rfl) :
    PE X (.Call (.Name "list" p) [.Call (.Name "reversed" p2) [e] [] pos2] [] pos) (tListRev X.K te) := by
  refine ⟨fun pins s σ H Q I h => ?_⟩
  refine Call_ (ld_blt I hg hm boot_list' (PyProof.Rows.callWith_type1 (args_cons (Call_ (ld_blt I hg2 hm2 PyProof.Rows.boot_reversed (PyProof.Rows.callWith_type1 (args_cons (thn (he.run pins s σ H _ I h) fun u s1 ⟨v, H1, I1, r1, q1⟩ => args_nil ?_) hs) hs rfl))) hs2) hs2 rfl))
  obtain ⟨a, xs, ev, hq, q⟩ := q1
  subst ev
  obtain rfl : u = Value.ref a := r1
  obtain ⟨its, rv, p', hz⟩ := I1.list hq
  refine call_reversed_list p'.isList (args_nil ?_)
  have hl := p'.isList
  obtain ⟨ol, hol, _⟩ := id hl
  have hne : a ≠ s1.heap.objs.size := Nat.ne_of_lt (Heap.lt_size hol)
  have hn : its.toArray.size ≤ sizeLine := by rw [List.size_toArray, ← rv.length]; exact hz
  refine call_list_rev (s := { s1 with heap := s1.heap.push (revObj a ((its.toArray.size : Int) - 1)) }) (I1.ok.hd hc) ⟨_, Heap.get?_push_size _ rfl, rfl, rfl⟩ (hl.push _) hne hn fun s' acc c hm hS hi => ?_
  have hsz : (s1.heap.push (revObj a ((its.toArray.size : Int) - 1))).objs.size = s1.heap.objs.size + 1 := Heap.size_push ..
  have kp : ∀ b o, s1.heap.get? b = some o → s'.heap.get? b = some o := fun b o e => by
    have lt := Heap.lt_size e
    refine hm.heap b o (fun hb => ?_) (Heap.get?_push_of_some _ (Heap.get?_push_of_some _ e))
    rcases List.mem_cons.mp hb with z | hb
    · rw [z] at lt
      exact absurd lt (Nat.not_lt.mpr (by rw [hsz]; exact Nat.le_succ _))
    · rw [List.mem_singleton.mp hb] at lt
      exact Nat.lt_irrefl _ lt
  have I3 := I1.kept (h' := s'.heap) (t' := s'.toks) kp
  have es : ({ s1 with heap := s'.heap, toks := s'.toks } : Shared) = s' := by
    obtain ⟨h1, g1, d1, t1, o1⟩ := s'
    have m1 : g1 = s1.gens := hm.gens
    have m2 : d1 = s1.drawn := hm.drawn
    have m3 : o1 = s1.os := hm.os
    subst m1
    subst m2
    subst m3
    rfl
  have I4 := I1.laid (h' := s'.heap) (t' := s'.toks) (a := (s1.heap.push (revObj a ((its.toArray.size : Int) - 1))).objs.size) (o := .lst xs.reverse) kp (by rw [hsz]; exact Nat.le_succ _)
    ⟨by rw [List.length_reverse]; exact hz, acc.toList, c, vals_rev rv hi, by rw [Array.toArray_toList]; exact hS⟩
  rw [es] at I4
  exact ⟨.ref _, _, I4, rfl, q _ (I1.hok.fresh (by rw [hsz]; exact Nat.le_succ _))⟩
end
end L2
set_option Elab.async false
set_option linter.all false
set_option maxRecDepth 100000
set_option maxHeartbeats 2000000
/-! Dn13: the same over D. -/
noncomputable section
namespace Dn
open PySem PySem.Spec PyProof.Rows L2
def srcV (a : DE) : DSrc := fun δ S => (a δ S).bnd fun d S1 => if isL S1 d = true then match items S1 d with
    | some xs => .ok (.rv d xs.length) S1
    | none => .bad
  else .bad
section
variable {K : PySem.W.Frag} {ρ : List Addr} {H : Hp} {S : Sto}
theorem src_rv {v : V} {d : D} {a : Addr} {n0 : Nat} (hv : v = .ref a) (r : Dv K ρ H v d) (hl : isT d = false) : SrcR K ρ H (Itv K a n0) (.rv d n0) := fun ρ1 H1 S1 e R n hn => by
  obtain ⟨ds, hi, hn2⟩ := Option.bind_eq_some_iff.mp (show (items S1 d).bind (fun xs => if xs.length = n0 then some n0 else none) = some n from hn)
  split at hn2
  case isFalse => cases hn2
  case isTrue hd =>
    cases hn2
    obtain ⟨b, xs, hb, sq, vs⟩ := (r.mono e).listI R hl hi
    rw [hv] at hb
    cases hb
    have hx : xs.length = n0 := by rw [vs.length]; exact hd
    refine ⟨fun i hi2 => ⟨hi2, xs, xs[n0 - 1 - i]'(by omega), sq, List.getElem?_eq_getElem _⟩, fun i hi2 => hi2, fun i x H' hi2 y => ?_⟩
    obtain ⟨hH, hx2⟩ := y
    obtain ⟨d', q1, q2⟩ := vs.getV (hx2 xs sq)
    refine ⟨d', ?_, by rw [hH]; exact Ext.refl _ _, by rw [hH]; exact R, by rw [hH]; exact q2⟩
    show (items S1 d).bind _ = _
    rw [hi]
    exact q1
end
section
variable {X : Cx} {cl : Str → Value} {E : XK} {e : Expr} {de : DE} {p p2 p3 pos pos2 : Pos} {k : Nat}
theorem so_rev {tg : Expr} (hg : Gl X "reversed") (hm : X.mg "reversed" = none) (h : SE X (wt X cl E) e de) (hs : starEach [e] X.env = (false, eval e X.env) :: starEach [] X.env := by rfl) :
    PI X tg (.Call (.Name "reversed" p) [e] [] pos) (tSrc (wt X cl E) (srcV de)) := pi_imp (RT.pi_revA hg hm h hs) fun σ H R h => tG.step h fun ρ δ ρ1 S1 H1 v d N e R1 r P => by
  split at P
  · rename_i hl
    split at P
    · rename_i ds hi
      obtain ⟨a, xs, rfl, sq, vs⟩ := r.listI R1 (isL_not hl) hi
      refine ⟨a, xs, rfl, .inl ⟨sq, ?_⟩⟩
      rw [vs.length]
      exact Post.now (Rl := fun ρ H J s => SrcR X.K ρ H J s) P R1 (src_rv rfl r (isL_not hl))
    · exact P.elim
  · exact P.elim
theorem se_revT (h : SE X (wt X cl E) e de) : SE X (wt X cl E) (.Subscript e (.Slice none none (some (.UnaryOp .USub (.Constant (.int 1) k p) p2)) p3) pos) (dRevT de) := pe_imp (pe_revT h) fun σ H Q h => tG.step h fun ρ δ ρ1 S1 H1 v d N e1 R r P => by
  match d, r, P with
  | .tup xs, r, P =>
    dsimp only at P
    split at P
    · obtain ⟨a, us, rfl, sq, dv⟩ := r.tupI
      exact ⟨a, us, rfl, sq, fun p hp => P ρ1 _ _ (Ext.new hp) (R.new hp) (.tup (.inl (.inl upd_same)) ((dvAll_reverse dv).mono (Ext.new hp)))⟩
    · exact P.elim
  | .non, _, P => exact P.elim
  | .bl _, _, P => exact P.elim
  | .int _, _, P => exact P.elim
  | .str _, _, P => exact P.elim
  | .ro _, _, P => exact P.elim
  | .cell _, _, P => exact P.elim
  | .rng _ _, _, P => exact P.elim
theorem mkLst_post {xs : List D} {ρ : List Addr} {H : Hp} {S : Sto} {Q : VK} {vs : List V} (P : Post (wt X cl E) (Dv X.K) ρ H (mkLst xs S) Q) (R : Rep X.K ρ H S) (dv : DvAll X.K ρ H vs xs) : ∀ p, H p = none → Q (.ref p) (upd H p (.lst vs)) := fun p hp => by
  unfold mkLst at P
  split at P
  · refine P (ρ ++ [p]) _ _ (Ext.newC hp) (R.newC hp ⟨vs, upd_same, dv.mono (Ext.newC hp)⟩) (.cell ?_)
    rw [List.getElem?_append_right (Nat.le_of_eq R.len), R.len, Nat.sub_self]
    rfl
  · exact P.elim
theorem se_revL (h : SE X (wt X cl E) e de) : SE X (wt X cl E) (.Subscript e (.Slice none none (some (.UnaryOp .USub (.Constant (.int 1) k p) p2)) p3) pos) (dRevL de) := pe_imp (pe_revL h) fun σ H Q h => tG.step h fun ρ δ ρ1 S1 H1 v d N e1 R r P => by
  cases ht : isT d with
  | true => simp [ht] at P; exact P.elim
  | false =>
    simp only [ht, Bool.false_eq_true, if_false] at P
    split at P
    · rename_i xs hi
      obtain ⟨a, us, rfl, sq, dv⟩ := r.listI R ht hi
      exact ⟨a, us, rfl, sq, mkLst_post P R (dvAll_reverse dv)⟩
    · exact P.elim
theorem se_listRev (hc : X.calm = true) (hg : Gl X "list") (hm : X.mg "list" = none) (hg2 : Gl X "reversed") (hm2 : X.mg "reversed" = none) (h : SE X (wt X cl E) e de)
    (hs : starEach [e] X.env = (false, eval e X.env) :: starEach [] X.env := by rfl)
    (hs2 : starEach [.Call (.Name "reversed" p2) [e] [] pos2] X.env = (false, eval (.Call (.Name "reversed" p2) [e] [] pos2) X.env) :: starEach [] X.env := by rfl) :
    SE X (wt X cl E) (.Call (.Name "list" p) [.Call (.Name "reversed" p2) [e] [] pos2] [] pos) (dListRev de) := pe_imp (pe_listRev hc hg hm hg2 hm2 h hs hs2) fun σ H Q h => tG.step h fun ρ δ ρ1 S1 H1 v d N e1 R r P => by
  cases ht : isT d with
  | true => simp [ht] at P; exact P.elim
  | false =>
    simp only [ht, Bool.false_eq_true, if_false] at P
    split at P
    · rename_i xs hi
      obtain ⟨a, us, rfl, sq, dv⟩ := r.listI R ht hi
      exact ⟨a, us, rfl, sq, mkLst_post P R (dvAll_reverse dv)⟩
    · exact P.elim
/-- len(set(x)), x a tuple of whole numbers -/
def tLenSetT (K : PySem.W.Frag) (ta : TE) : TE := fun σ H Q => ta σ H fun x H1 => ∃ (l : Addr) (ns : List Int), x = V.ref l ∧ SqT K H1 l (ns.map V.int) ∧ ns.length ≤ 60 ∧ Q (.int ((ded ns).length : Nat)) H1
theorem pe_lenSetT {a : Expr} {ta : TE} {p p2 q pos : Pos} (hc : X.calm = true) (hg : Gl X "len") (hm : X.mg "len" = none) (hg2 : Gl X "set") (hm2 : X.mg "set" = none) (ha : PE X a ta)
    (na : starEach [a] X.env = (false, eval a X.env) :: starEach [] X.env := by rfl) : PE X (.Call (.Name "len" p) [.Call (.Name "set" p2) [a] [] q] [] pos) (tLenSetT X.K ta) := by
  refine ⟨fun pins s σ H Q I h => ?_⟩
  refine Call_ (ld_blt I hg hm PySem.boot_len ?_)
  refine PyProof.Rows.callWith_builtin1 (PyProof.Rows.args_cons ?_ rfl) rfl rfl
  refine Call_ (ld_blt I hg2 hm2 PyProof.Rows.boot_set ?_)
  refine PyProof.Rows.callWith_type1 (PyProof.Rows.args_cons (thn (ha.run pins s σ H _ I h) fun v s1 ⟨x, H1, I1, r1, q1⟩ => PyProof.Rows.args_nil ?_) na) na rfl
  obtain ⟨l, ns, rfl, hq, h1, q1⟩ := q1
  cases r1
  obtain ⟨its, r, pl, hz⟩ := I1.tuple hq
  have hit : IntsAre its.toArray.toList ns := by simpa using r.ints
  refine L2.call_set_tupI ns (I1.ok.hd hc) pl hit (by unfold scanBound; omega) fun h' tk c hS hcl kp => ?_
  refine PyProof.Rows.args_nil ?_
  have I2 : Inv X pins σ H1 { s1 with heap := h', toks := tk } := I1.kept kp
  obtain ⟨o, es, ep, t, ho, hex, hd, hgd, hnd, hmem, hsb, hf, hn, _⟩ := hS
  have hlen : es.size = (ded ns).length := by
    have p1 : (es.toList.map keyOf).Perm (ded ns) := (List.perm_ext_iff_of_nodup hnd (ded_nodup ns)).mpr fun k => by
      rw [ded_mem, ← hmem k, decide_eq_true_iff]
    have := p1.length_eq
    rw [List.length_map, Array.length_toList] at this
    exact this
  refine call_len_set ho hex hd hf (by rw [hn]; omega) ⟨.int ((ded ns).length : Nat), H1, I2.tok _, ⟨_, by rw [hlen]⟩, q1⟩
theorem se_lenSet (hc : X.calm = true) (hg : Gl X "len") (hm : X.mg "len" = none) (hg2 : Gl X "set") (hm2 : X.mg "set" = none) (h : SE X (wt X cl E) e de)
    (na : starEach [e] X.env = (false, eval e X.env) :: starEach [] X.env := by rfl) : SE X (wt X cl E) (.Call (.Name "len" p) [.Call (.Name "set" p2) [e] [] pos2] [] pos) (dLenSet de) := pe_imp (pe_lenSetT hc hg hm hg2 hm2 h na) fun σ H Q h => tG.step h fun ρ δ ρ1 S1 H1 v d N e1 R r P => by
  match d, r, P with
  | .tup xs, r, P =>
    dsimp only at P
    split at P
    · rename_i ns hns
      split at P
      · rename_i hl
        obtain ⟨a, us, rfl, sq, dv⟩ := r.tupI
        have hu := intsD_dv dv hns
        subst hu
        exact ⟨a, ns, rfl, sq, hl, P.now R (.int _)⟩
      · exact P.elim
    · exact P.elim
  | .non, _, P => exact P.elim
  | .bl _, _, P => exact P.elim
  | .int _, _, P => exact P.elim
  | .str _, _, P => exact P.elim
  | .ro _, _, P => exact P.elim
  | .cell _, _, P => exact P.elim
  | .rng _ _, _, P => exact P.elim
theorem md_index : MtR X "list.index" (rMD (wt X cl E) mIndex) := fun pins s σ H x xs v us Q I r1 r2 q => mt_indexI pins s σ H x xs v us Q I r1 r2 (by
  obtain ⟨ρ, S, d, ds, R, r, rs, P⟩ := q
  have key : ∀ {its : List D} {ns : List Int}, items S d = some its → intsD its = some ns → isT d = false → ∃ a, x = .ref a ∧ SqL X.K H a (ns.map V.int) := fun hi hn ht => by
    obtain ⟨a, us, rfl, sq, dv⟩ := r.listI R ht hi
    have hu := intsD_dv dv hn
    subst hu
    exact ⟨a, rfl, sq⟩
  cases ht : isT d with
  | true =>
    unfold mIndex at P
    rw [ht] at P
    exact P.elim
  | false =>
    unfold mIndex at P
    rw [ht] at P
    simp only [Bool.false_eq_true, if_false] at P
    split at P
    · rename_i its k hi
      split at P
      · rename_i ns hn
        split at P
        · rename_i hk
          obtain ⟨a, rfl, sq⟩ := key hi hn ht
          obtain ⟨v1, rfl, rv1⟩ := one_of rs
          exact ⟨a, ns, k, rfl, sq, .inl ⟨by rw [rv1.intI], hk, P.now R (.int _)⟩⟩
        · exact P.elim
      · exact P.elim
    · rename_i its k i hi
      split at P
      · rename_i ns hn
        split at P
        · rename_i hk
          obtain ⟨a, rfl, sq⟩ := key hi hn ht
          cases rs with
          | cons ra rt => cases rt with
            | cons rb rt2 =>
              cases rt2
              have e : ((i.toNat : Nat) : Int) = i := Int.toNat_of_nonneg hk.1
              refine ⟨a, ns, k, rfl, sq, .inr ⟨i.toNat, by rw [ra.intI, rb.intI, e], hk.2, ?_⟩⟩
              have q := P.now R (.int _)
              simpa using q
        · exact P.elim
      · exact P.elim
    · exact P.elim)
end
end Dn
set_option Elab.async false
set_option linter.all false
set_option maxRecDepth 100000
set_option maxHeartbeats 2000000
/-! Dn14: calls of defs that use repr: where no guard stands. -/
noncomputable section
namespace Dn
open PySem PySem.Spec PyProof.Rows L2
structure HasG (P : Program) (w : World) (K : PySem.W.Frag) (mg : Str → Option Value) (base : Heap) (cl : Str → Value) (x : Str) (k : Nat) (g : DF) : Prop where
  ex : ∃ (f : Addr) (fd : FuncData) (ps : List Str), RunG P w K mg base cl k f fd ps g ∧ mg x = some (.ref f) ∧ PySem.W.keepIn K (.ref f) = true ∧ Binds K fd ps [] ∧ ∀ (ds : List D) (S : Sto), ds.length ≠ ps.length → g ds S = .bad
theorem dFn_bad {n m : Nat} {b : DS} (ds : List D) (S : Sto) (h : ds.length ≠ n) : dFn n m b ds S = .bad := by
  unfold dFn
  rw [if_neg h]
section
variable {X : Cx} {cl : Str → Value} {E : XK} {x : Str} {p pos : Pos} {e : Expr} {es : List Expr} {da : DA} {k : Nat} {g : DF}
theorem se_callG (F : HasG X.prog X.w X.K X.mg X.base cl x k g) (hr : Room k X.A) (hgd : X.A.guards = some []) (hg : Gl X x) (hx : Passes (L2.CX X.prog X.w) X E) (ha : SA X (wt X cl E) (e :: es) da) (hdb : (x == ("__debug__" : Str)) = false := by decide)
    (he : starEach (e :: es) X.env = (false, eval e X.env) :: starEach es X.env := by rfl) (hpl : (backTo pos (starEach es X.env)).any (·.1) = false := by rfl) : SE X (wt X cl E) (.Call (.Name x p) (e :: es) [] pos) (dCall g da) := by
  obtain ⟨f, fd, ps, F, hm, hk, hb, hlen⟩ := F.ex
  refine ⟨fun pins s σ H Q I h => ?_⟩
  refine wpAny_Call_Name_kw (ld_glob I hg hm ?_ hdb)
  have h2 : tAs (wt X cl E) da σ H fun vs H1 => ∃ ρ S ds, Rep X.K ρ H1 S ∧ DvAll X.K ρ H1 vs ds ∧ Post (wt X cl E) (Dv X.K) ρ H1 (g ds S) Q := tG.step h fun ρ δ ρ1 S1 H1 v d N e R r P => ⟨ρ1, S1, d, R, r, P⟩
  refine PySem.W.callWith_K (h₀ := X.base) I.ok.mod.kin hk (thn (ha.run pos pins s σ H _ I h2) fun us s1 ⟨vs, H1, I1, rv, ρ, S, ds, R, dv, P⟩ => ⟨I1.kIn, ?_⟩) he hpl
  have hl : us.length = ps.length := by
    rw [← rv.length, dv.length]
    by_cases q : ds.length = ps.length
    · exact q
    · rw [hlen ds S q] at P
      exact P.elim
  have hbt := hb s1 us I1.kIn (by rw [List.append_nil]; exact hl)
  rw [List.append_nil] at hbt
  refine wpAny_call (codeAny_mono (F X.A X.stack s1 H1 ⟨us, []⟩ us vs Q E hr hgd I1.env0 hbt rv ⟨ρ, S, ds, R, dv, P⟩) fun r s' hq => ?_)
  match r, hq with
  | .error e, hq => exact hx pins σ H1 s1 e s' I1 hq
  | .ok (.ret u), hq => exact I1.after hq
  | .ok .next, hq => exact False.elim hq
  | .ok .brk, hq => exact False.elim hq
  | .ok .cont, hq => exact False.elim hq
end
end Dn
set_option Elab.async false
set_option linter.all false
set_option maxRecDepth 100000
set_option maxHeartbeats 2000000
/-! Dn15: a, b = a list. -/
noncomputable section
namespace Dn
open PySem PySem.Spec PyProof.Rows L2
def dAsgL (gs : List Tg) (e : DE) : DS := fun δ S => thenS (e δ S) fun d S1 => if isT d = true then .bad else match items S1 d with
  | some ds => match Tg.setAll gs ds δ with
    | some δ' => .nx δ' S1
    | none => .bad
  | none => .bad
theorem setAll_len : ∀ (gs : List Tg) (ds : List D) (δ δ' : En), Tg.setAll gs ds δ = some δ' → ds.length = gs.length
  | [], [], _, _, _ => rfl
  | [], _ :: _, _, _, e => by cases e
  | _ :: _, [], _, _, e => by cases e
  | g :: gs, a :: b, δ, δ', e => by
    unfold Tg.setAll at e
    split at e
    · exact congrArg Nat.succ (setAll_len gs b _ _ e)
    · cases e
section
variable {X : Cx} {W : Wt} {e : Expr} {de : DE} {pos pos' : Pos}
theorem ss_asgL {es : List Expr} {k : Nat} {gs : List Tg} (hc : X.calm = true) (he : SE X W e de) (h : PGs X es (gsD X.K gs)) (hl : gs.length = es.length := by rfl)
    (hn : (assignEach es X.env).length = es.length := by rfl) (hst : (assignEach es X.env).findIdx? (·.1) = none := by rfl) (hW : W.K = X.K := by rfl)
    (hs : swapsWithSole [.Tuple es k pos'] e pos.line X.env = pure false := by rfl) (hw : swappedStores [.Tuple es k pos'] e X.env = pure none := by rfl)
    (h1 : (assignEach [.Tuple es k pos'] X.env).map (·.2) = [assign (.Tuple es k pos') X.env] := by rfl) : SS X W (.Assign [.Tuple es k pos'] e pos) (dAsgL gs de) :=
  ps_imp (ps_asg he (pg_lst hc h hn hst) hs hw h1) fun D σ H ⟨ρ, δ, S, R, N, P⟩ =>
  ⟨ρ, δ, S, R, N, PostS.res P fun ρ1 H1 v d S1 e1 R1 r1 P1 => by
    split at P1
    · exact P1.elim
    · rename_i hT
      split at P1
      · rename_i ds hi
        split at P1
        · rename_i δ' hδ
          have key : ∃ a xs, v = .ref a ∧ SqL W.K H1 a xs ∧ DvAll W.K ρ1 H1 xs ds := by
            cases r1 with
            | tup a b => exact absurd rfl hT
            | ro a f b => cases hi; exact ⟨_, _, rfl, a, b⟩
            | cell q =>
              obtain ⟨xs, h1, h2⟩ := R1.lst q (items_cell hi)
              exact ⟨_, xs, rfl, SqL.of h1, h2⟩
            | _ => cases hi
          obtain ⟨a, xs, rfl, sq, vs⟩ := key
          have hlen : xs.length = es.length := by rw [vs.length, setAll_len gs ds δ δ' hδ, hl]
          rw [← hW]
          exact ⟨a, xs, rfl, sq, hlen, ρ1, δ, ds, δ', N.mono e1, vs, hδ, fun σ' N' o' => P1 ρ1 H1 σ' (Ext.refl ρ1 H1) R1 N'⟩
        · exact P1.elim
      · exact P1.elim⟩
end
end Dn
set_option Elab.async false
set_option linter.all false
set_option maxRecDepth 100000
/-! Den_k92: the defs' denotations, printed by gen.py. -/
noncomputable section
namespace Dn
open PySem L2
def b_is_integer : DS := (dRet (dAndV (dIsI "int" (dVar 0)) (dNotV (dIsI "bool" (dVar 0)))))
def d_is_integer : DF := dFn 1 1 b_is_integer
def b_is_within : DS := (dRet (dAndV (dCall d_is_integer (dCons (dVar 0) dNil)) (dChain opLe opLe (dVar 1) (dVar 0) (dVar 2))))
def d_is_within : DF := dFn 3 3 b_is_within
def b_held : DS := (dSeq (dSet 2 (dLst dNil)) (dSeq (dFor (srcT (dSl (dVar 0) dNoPart (dPart (dVar 1)))) (.nm 3) (dIfS (dB (dBin opNe (dBin opIx (dVar 3) (dC (.int 0))) (dC (.str "out")))) (dDrop (dMth mAppend (dVar 2) (dCons (dTup (dCons (dBin opIx (dVar 3) (dC (.int 1))) (dCons (dBin opIx (dVar 3) (dC (.int 2))) dNil))) dNil))) (dDrop (dMth mPop (dVar 2) dNil)))) (dRet (dCall bTuple (dCons (dVar 2) dNil)))))
def d_held : DF := dFn 2 4 b_held
def b_wish : DS := (dSeq (dSet 2 (dBin opIx (dVar 0) (dVar 1))) (dRet (dIf (dB (dBin opNe (dBin opIx (dVar 2) (dC (.int 0))) (dC (.str "out")))) (dTup (dCons (dBin opIx (dVar 2) (dC (.int 1))) (dCons (dBin opIx (dVar 2) (dC (.int 2))) dNil))) (dC .non))))
def d_wish : DF := dFn 2 3 b_wish
def b_is_try : DS := (dRet (dBin opEq (dBin opIx (dBin opIx (dVar 0) (dVar 1)) (dC (.int 0))) (dC (.str "try"))))
def d_is_try : DF := dFn 2 2 b_is_try
def b_entries : DS := (dRet (dCall bTuple (dCons (dLc (enT (dCons (dVar 0) dNil)) (.tp [(.nm 1), (.nm 2)]) (dB (dBin opNe (dBin opIx (dVar 2) (dC (.int 0))) (dC (.str "out")))) (dVar 1) [1, 2]) dNil)))
def d_entries : DF := dFn 1 3 b_entries
def b_places_in : DS := (dRet (dLc (srcT (dCall d_entries (dCons (dVar 0) dNil))) (.nm 1) (dNot (dB (dCall d_is_try (dCons (dVar 0) (dCons (dVar 1) dNil))))) (dVar 1) [1]))
def d_places_in : DF := dFn 1 2 b_places_in
def b_rooms_held : DS := (dRet (dLc (srcA (dCall d_held (dCons (dVar 0) (dCons (dVar 1) dNil)))) (.tp [(.nm 2), (.nm 3)]) dYes (dVar 2) [2, 3]))
def d_rooms_held : DF := dFn 2 4 b_rooms_held
def b_is_entered : DS := (dSeq (dFor (srcT (dBin opIx (dVar 0) (dC (.int 1)))) (.nm 3) (dFor (srcA (dCall d_places_in (dCons (dVar 3) dNil))) (.nm 4) (dIfS (dAnd (dB (dBin opEq (dBin opIx (dCall d_wish (dCons (dVar 3) (dCons (dVar 4) dNil))) (dC (.int 0))) (dVar 2))) (dB (dBin (opIn false) (dVar 1) (dCall d_rooms_held (dCons (dVar 3) (dCons (dVar 4) dNil)))))) (dRet (dC (.bl true))) dSkip))) (dRet (dC (.bl false))))
def d_is_entered : DF := dFn 3 5 b_is_entered
def b_rooms_ahead : DS := (dSeq (dSet 1 (dCall bRange (dCons (dCall bLen (dCons (dBin opIx (dVar 0) (dC (.int 0))) dNil)) dNil))) (dRet (dLc (srcA (dVar 1)) (.nm 3) dYes (dLc (srcA (dVar 1)) (.nm 2) (dB (dCall d_is_entered (dCons (dVar 0) (dCons (dVar 2) (dCons (dVar 3) dNil))))) (dVar 2) [2]) [3])))
def d_rooms_ahead : DF := dFn 1 4 b_rooms_ahead
def b_numbers : DS := (dSeq (dSet 1 (dCall d_rooms_ahead (dCons (dVar 0) dNil))) (dSeq (dSet 2 (dBin opMul (dLst (dCons (dC .non) dNil)) (dCall bLen (dCons (dVar 1) dNil)))) (dSeq (dFor (rng1 (dCons (dCall bLen (dCons (dVar 1) dNil)) dNil)) (.nm 3) (dFor (enA (dCons (dVar 1) dNil)) (.tp [(.nm 4), (.nm 5)]) (dIfS (dAnd (dB (dBin (opIsN false) (dBin opIx (dVar 2) (dVar 4)) (dC .non))) (dB (dBin opEq (dLc (srcA (dVar 5)) (.nm 6) (dB (dBin (opIsN false) (dBin opIx (dVar 2) (dVar 6)) (dC .non))) (dVar 6) [6]) (dLst dNil)))) (dIPut (dVar 2) (dVar 4) (dIf (dB (dBin opNe (dVar 5) (dLst dNil))) (dBin opAdd (dC (.int 1)) (dCall bMax (dCons (dLc (srcA (dVar 5)) (.nm 6) dYes (dBin opIx (dVar 2) (dVar 6)) [6]) dNil))) (dC (.int 0)))) dSkip))) (dRet (dIf (dB (dBin (opIn false) (dC .non) (dVar 2))) (dC .non) (dCall bTuple (dCons (dVar 2) dNil)))))))
def d_numbers : DF := dFn 1 7 b_numbers
def b_numbers_error : DS := (dSeq (dSet 2 (dCall bLen (dCons (dBin opIx (dVar 0) (dC (.int 0))) dNil))) (dSeq (dIfS (dOr (dNot (dB (dIsI "tuple" (dVar 1)))) (dB (dBin opNe (dCall bLen (dCons (dVar 1) dNil)) (dVar 2)))) (dRet (dC (.str "form"))) dSkip) (dSeq (dIfS (dB (dBin opNe (dLc (srcA (dVar 1)) (.nm 7) (dNot (dB (dCall d_is_within (dCons (dVar 7) (dCons (dC (.int 0)) (dCons (dBin opSub (dVar 2) (dC (.int 1))) dNil)))))) (dVar 7) [7]) (dLst dNil))) (dRet (dC (.str "form"))) dSkip) (dSeq (dFor (enT (dCons (dBin opIx (dVar 0) (dC (.int 1))) dNil)) (.tp [(.nm 3), (.nm 4)]) (dFor (srcA (dCall d_places_in (dCons (dVar 4) dNil))) (.nm 5) (dSeq (dSet 6 (dBin opIx (dVar 1) (dBin opIx (dCall d_wish (dCons (dVar 4) (dCons (dVar 5) dNil))) (dC (.int 0))))) (dIfS (dB (dBin opNe (dLc (srcA (dCall d_rooms_held (dCons (dVar 4) (dCons (dVar 5) dNil)))) (.nm 8) (dB (dBin opGe (dBin opIx (dVar 1) (dVar 8)) (dVar 6))) (dVar 8) [8]) (dLst dNil))) (dRet (dTup (dCons (dC (.str "step")) (dCons (dVar 3) (dCons (dVar 5) dNil))))) dSkip)))) (dRet (dC .non))))))
def d_numbers_error : DF := dFn 2 9 b_numbers_error
def b_rooms_left : DS := (dSeq (dAsg (.tp [(.nm 1), (.nm 2)]) (dTup (dCons (dC .non) (dCons (dListRg (dCall bLen (dCons (dVar 0) dNil))) dNil)))) (dSeq (dWhile (dB (dBin opNe (dVar 2) (dVar 1))) (dSeq (dSet 1 (dVar 2)) (dSet 2 (dLc (srcA (dVar 1)) (.nm 4) (dB (dBin opNe (dLc (srcA (dBin opIx (dVar 0) (dVar 4))) (.nm 3) (dB (dBin (opIn false) (dVar 3) (dVar 1))) (dVar 3) [3]) (dLst dNil))) (dVar 4) [4])))) (dRet (dVar 1))))
def d_rooms_left : DF := dFn 1 5 b_rooms_left
def b_room_round : DS := (dSeq (dSet 1 (dCall d_rooms_ahead (dCons (dVar 0) dNil))) (dSeq (dSet 2 (dCall d_rooms_left (dCons (dVar 1) dNil))) (dSeq (dIfS (dB (dBin opEq (dVar 2) (dLst dNil))) (dRet (dC .non)) dSkip) (dSeq (dPar [3, 4] (dCons (dLst dNil) (dCons (dBin opIx (dVar 2) (dC (.int 0))) dNil))) (dSeq (dWhile (dB (dBin (opIn true) (dVar 4) (dVar 3))) (dSeq (dDrop (dMth mAppend (dVar 3) (dCons (dVar 4) dNil))) (dSet 4 (dBin opIx (dLc (srcA (dBin opIx (dVar 1) (dVar 4))) (.nm 5) (dB (dBin (opIn false) (dVar 5) (dVar 2))) (dVar 5) [5]) (dC (.int 0)))))) (dRet (dCall bTuple (dCons (dRevL (dSl (dVar 3) (dPart (dMth mIndex (dVar 3) (dCons (dVar 4) dNil))) dNoPart)) dNil))))))))
def d_room_round : DF := dFn 1 6 b_room_round
def b_is_form_of_round : DS := (dSeq (dIfS (dOr (dNot (dB (dIsI "tuple" (dVar 1)))) (dB (dBin opLt (dCall bLen (dCons (dVar 1) dNil)) (dC (.int 2))))) (dRet (dC (.bl false))) dSkip) (dSeq (dIfS (dB (dBin opNe (dLc (srcA (dVar 1)) (.nm 2) (dNot (dB (dCall d_is_within (dCons (dVar 2) (dCons (dC (.int 0)) (dCons (dBin opSub (dCall bLen (dCons (dBin opIx (dVar 0) (dC (.int 0))) dNil)) (dC (.int 1))) dNil)))))) (dVar 2) [2]) (dLst dNil))) (dRet (dC (.bl false))) dSkip) (dRet (dBin opEq (dLenSet (dVar 1)) (dCall bLen (dCons (dVar 1) dNil))))))
def d_is_form_of_round : DF := dFn 2 3 b_is_form_of_round
def b_round_error : DS := (dSeq (dIfS (dNot (dB (dCall d_is_form_of_round (dCons (dVar 0) (dCons (dVar 1) dNil))))) (dRet (dC (.str "form"))) dSkip) (dSeq (dFor (enA (dCons (dVar 1) dNil)) (.tp [(.nm 2), (.nm 3)]) (dIfS (dNot (dB (dCall d_is_entered (dCons (dVar 0) (dCons (dBin opIx (dVar 1) (dBin opSub (dVar 2) (dC (.int 1)))) (dCons (dVar 3) dNil)))))) (dRet (dTup (dCons (dC (.str "pair")) (dCons (dVar 2) dNil)))) dSkip)) (dRet (dC .non))))
def d_round_error : DF := dFn 2 4 b_round_error
def b_notify_one : DS := (dRet (dTup (dCons (dC (.str "ahead")) (dCons (dC (.str "kept")) (dCons (dC (.str "first")) (dCons (dC (.str "one")) (dCons (dC (.str "tries")) (dCons (dC (.str "back")) (dCons (dC (.str "left")) (dCons (dC (.str "passes")) (dCons (dC (.str "free")) (dCons (dC (.str "first")) dNil))))))))))))
def d_notify_one : DF := dFn 0 0 b_notify_one
def b_fair : DS := (dRet (dTup (dCons (dC (.str "ahead")) (dCons (dC (.str "kept")) (dCons (dC (.str "first")) (dCons (dC (.str "one")) (dCons (dC (.str "given")) (dCons (dC (.str "back")) (dCons (dC (.str "left")) (dCons (dC (.str "passes")) (dCons (dC (.str "behind")) (dCons (dC (.str "first")) dNil))))))))))))
def d_fair : DF := dFn 0 0 b_fair
def b_law_own_bag : DS := (dSeq (dSet 2 (dLc (srcA (dSl (dVar 0) dNoPart (dPart (dC (.int 63))))) (.nm 1) dYes (dCall bAbs (dCons (dVar 1) dNil)) [1])) (dSeq (dSet 3 (dBin opAdd (dC (.int 2468)) (dCall bLen (dCons (dVar 2) dNil)))) (dSeq (dFor (srcA (dVar 2)) (.nm 1) (dSet 3 (dBin opMod (dBin opAdd (dBin opAdd (dBin opMul (dVar 3) (dC (.int 48271))) (dBin opMod (dVar 1) (dC (.int 2147483629)))) (dC (.int 7))) (dC (.int 2147483647))))) (dRet (dLst (dCons (dListRev (dVar 2)) (dCons (dC (.int 0)) (dCons (dVar 3) dNil))))))))
def d_law_own_bag : DF := dFn 1 4 b_law_own_bag
def b_law_draw : DS := (dSeq (dWhile (dAnd (dB (dBin opEq (dBin opIx (dVar 0) (dC (.int 1))) (dC (.int 0)))) (dB (dBin opNe (dBin opIx (dVar 0) (dC (.int 0))) (dLst dNil)))) (dSeq (dSet 2 (dMth mPop (dBin opIx (dVar 0) (dC (.int 0))) dNil)) (dIPut (dVar 0) (dC (.int 1)) (dIf (dB (dBin opGt (dVar 2) (dBin opPow (dC (.int 10)) (dC (.int 9))))) (dVar 2) (dC (.int 0)))))) (dSeq (dIfS (dB (dBin opGt (dBin opIx (dVar 0) (dC (.int 1))) (dC (.int 0)))) (dSeq (dSet 3 (dBin opMod (dBin opIx (dVar 0) (dC (.int 1))) (dVar 1))) (dSeq (dIPut (dVar 0) (dC (.int 1)) (dBin opFdiv (dBin opIx (dVar 0) (dC (.int 1))) (dVar 1))) (dRet (dVar 3)))) dSkip) (dSeq (dIPut (dVar 0) (dC (.int 2)) (dBin opMod (dBin opAdd (dBin opMul (dBin opIx (dVar 0) (dC (.int 2))) (dC (.int 48271))) (dC (.int 11))) (dC (.int 2147483647)))) (dRet (dBin opMod (dBin opFdiv (dBin opMod (dBin opMul (dBin opIx (dVar 0) (dC (.int 2))) (dBin opIx (dVar 0) (dC (.int 2)))) (dC (.int 2147483629))) (dC (.int 7))) (dVar 1))))))
def d_law_draw : DF := dFn 2 4 b_law_draw
def b_law_pick : DS := (dRet (dBin opIx (dVar 1) (dCall d_law_draw (dCons (dVar 0) (dCons (dCall bLen (dCons (dVar 1) dNil)) dNil)))))
def d_law_pick : DF := dFn 2 2 b_law_pick
def b_law_own_way : DS := (dSeq (dAsg (.tp [(.nm 4), (.nm 5)]) (dTup (dCons (dLst dNil) (dCons (dLst dNil) dNil)))) (dSeq (dWhile (dOr (dB (dBin opEq (dVar 5) (dLst dNil))) (dOr (dB (dBin opNe (dVar 4) (dLst dNil))) (dAnd (dB (dBin opLe (dBin opAdd (dCall bLen (dCons (dVar 5) dNil)) (dC (.int 2))) (dVar 2))) (dB (dBin opGt (dCall d_law_draw (dCons (dVar 0) (dCons (dC (.int 3)) dNil))) (dC (.int 0))))))) (dSeq (dSet 6 (dLc (srcA (dVar 1)) (.nm 10) (dB (dBin (opIn true) (dVar 10) (dVar 4))) (dVar 10) [10])) (dSeq (dSet 7 (dAndV (dBin opNe (dVar 6) (dLst dNil)) (dAndV (dBin opLt (dCall bLen (dCons (dVar 4) dNil)) (dC (.int 3))) (dBin opLe (dBin opAdd (dBin opAdd (dCall bLen (dCons (dVar 5) dNil)) (dCall bLen (dCons (dVar 4) dNil))) (dC (.int 2))) (dVar 2))))) (dIfS (dAnd (dB (dVar 7)) (dOr (dB (dBin opEq (dVar 4) (dLst dNil))) (dB (dBin opGt (dCall d_law_draw (dCons (dVar 0) (dCons (dC (.int 5)) dNil))) (dC (.int 1)))))) (dSeq (dSet 8 (dIf (dB (dBin opLt (dCall d_law_draw (dCons (dVar 0) (dCons (dC (.int 6)) dNil))) (dBin opIx (dVar 3) (dC (.int 0))))) (dC (.str "try")) (dC (.str "in")))) (dSeq (dSet 9 (dIf (dB (dBin opLt (dCall d_law_draw (dCons (dVar 0) (dCons (dC (.int 6)) dNil))) (dBin opIx (dVar 3) (dC (.int 1))))) (dC (.str "beside")) (dC (.str "alone")))) (dSeq (dDrop (dMth mAppend (dVar 4) (dCons (dCall d_law_pick (dCons (dVar 0) (dCons (dVar 6) dNil))) dNil))) (dDrop (dMth mAppend (dVar 5) (dCons (dTup (dCons (dVar 8) (dCons (dBin opIx (dVar 4) (dNeg (dC (.int 1)))) (dCons (dVar 9) dNil)))) dNil)))))) (dDrop (dMth mAppend (dVar 5) (dCons (dTup (dCons (dC (.str "out")) (dCons (dMth mPop (dVar 4) dNil) dNil))) dNil))))))) (dRet (dCall bTuple (dCons (dVar 5) dNil)))))
def d_law_own_way : DF := dFn 4 11 b_law_own_way
def b_law_held : DS := (dSeq (dSet 2 (dLst dNil)) (dSeq (dFor (srcA (dSl (dVar 0) dNoPart (dPart (dVar 1)))) (.nm 3) (dIfS (dB (dBin opEq (dBin opIx (dVar 3) (dC (.int 0))) (dC (.str "out")))) (dDrop (dMth mPop (dVar 2) dNil)) (dDrop (dMth mAppend (dVar 2) (dCons (dSl (dVar 3) (dPart (dC (.int 1))) dNoPart) dNil))))) (dRet (dVar 2))))
def d_law_held : DF := dFn 2 4 b_law_held
def b_law_own_house : DS := (dSeq (dSet 5 (dCall bTuple (dCons (dLc (rng1 (dCons (dVar 1) dNil)) (.nm 6) dYes (dCall d_law_own_way (dCons (dVar 0) (dCons (dListRg (dVar 2)) (dCons (dVar 3) (dCons (dVar 4) dNil))))) [6]) dNil))) (dRet (dTup (dCons (dBin opMul (dTup (dCons (dTup (dCons (dC (.str "store")) (dCons (dC .non) dNil))) dNil)) (dVar 2)) (dCons (dVar 5) dNil)))))
def d_law_own_house : DF := dFn 5 7 b_law_own_house
def b_law_crossed : DS := (dSeq (dSet 3 (dLst dNil)) (dSeq (dFor (rng1 (dCons (dVar 1) dNil)) (.nm 4) (dSeq (dSet 5 (dLst (dCons (dVar 4) (dCons (dBin opMod (dBin opAdd (dVar 4) (dC (.int 1))) (dVar 1)) dNil)))) (dSeq (dIfS (dB (dBin opEq (dCall d_law_draw (dCons (dVar 0) (dCons (dC (.int 4)) dNil))) (dC (.int 0)))) (dDrop (dMth mReverse (dVar 5) dNil)) dSkip) (dSeq (dIfS (dB (dBin opEq (dCall d_law_draw (dCons (dVar 0) (dCons (dC (.int 5)) dNil))) (dC (.int 0)))) (dSet 5 (dBin opAdd (dLst (dCons (dVar 1) dNil)) (dVar 5))) dSkip) (dSeq (dSet 6 (dLst dNil)) (dSeq (dFor (srcA (dVar 5)) (.nm 7) (dSeq (dSet 8 (dIf (dAnd (dB (dBin opLt (dCall d_law_draw (dCons (dVar 0) (dCons (dC (.int 6)) dNil))) (dBin opIx (dVar 2) (dC (.int 0))))) (dB (dBin opNe (dVar 6) (dLst dNil)))) (dC (.str "try")) (dC (.str "in")))) (dDrop (dMth mAppend (dVar 6) (dCons (dTup (dCons (dVar 8) (dCons (dVar 7) (dCons (dIf (dB (dBin opLt (dCall d_law_draw (dCons (dVar 0) (dCons (dC (.int 8)) dNil))) (dBin opIx (dVar 2) (dC (.int 1))))) (dC (.str "beside")) (dC (.str "alone"))) dNil)))) dNil))))) (dSeq (dDrop (dMth mExtend (dVar 6) (dCons (dLc (srcV (dVar 5)) (.nm 7) dYes (dTup (dCons (dC (.str "out")) (dCons (dVar 7) dNil))) [7]) dNil))) (dDrop (dMth mAppend (dVar 3) (dCons (dCall bTuple (dCons (dVar 6) dNil)) dNil)))))))))) (dRet (dTup (dCons (dBin opMul (dTup (dCons (dTup (dCons (dC (.str "store")) (dCons (dC .non) dNil))) dNil)) (dBin opAdd (dVar 1) (dC (.int 1)))) (dCons (dCall bTuple (dCons (dVar 3) dNil)) dNil))))))
def d_law_crossed : DF := dFn 3 9 b_law_crossed
def b_law_door : DS := (dSeq (dSet 2 (dLc (rng1 (dCons (dVar 1) dNil)) (.nm 9) dYes (dBin opMul (dLst (dCons (dC (.str "-")) dNil)) (dVar 1)) [9])) (dSeq (dFor (rng1 (dCons (dVar 1) dNil)) (.nm 3) (dFor (rng1 (dCons (dVar 3) dNil)) (.nm 4) (dSeq (dSet 5 (dCall d_law_pick (dCons (dVar 0) (dCons (dLst (dCons (dC (.str "even")) (dCons (dC (.str "bow")) (dCons (dC (.str "stand")) (dCons (dC (.str "stand")) dNil))))) dNil)))) (dSeq (dIPut (dBin opIx (dVar 2) (dVar 3)) (dVar 4) (dVar 5)) (dIPut (dBin opIx (dVar 2) (dVar 4)) (dVar 3) (dIf (dB (dBin opEq (dVar 5) (dC (.str "even")))) (dVar 5) (dCall d_law_pick (dCons (dVar 0) (dCons (dLst (dCons (dC (.str "bow")) (dCons (dC (.str "stand")) dNil))) dNil))))))))) (dSeq (dSet 6 (dLst dNil)) (dSeq (dFor (rng1 (dCons (dVar 1) dNil)) (.nm 3) (dSeq (dPar [7, 8] (dCons (dLc (rng1 (dCons (dVar 1) dNil)) (.nm 4) (dB (dBin opNe (dVar 4) (dVar 3))) (dVar 4) [4]) (dCons (dLst dNil) dNil))) (dSeq (dWhile (dB (dBin opNe (dVar 7) (dLst dNil))) (dDrop (dMth mAppend (dVar 8) (dCons (dMth mPop (dVar 7) (dCons (dCall d_law_draw (dCons (dVar 0) (dCons (dCall bLen (dCons (dVar 7) dNil)) dNil))) dNil)) dNil)))) (dDrop (dMth mAppend (dVar 6) (dCons (dCall bTuple (dCons (dVar 8) dNil)) dNil)))))) (dRet (dTup (dCons (dC (.str "door")) (dCons (dCall bTuple (dCons (dLc (srcA (dVar 2)) (.nm 8) dYes (dCall bTuple (dCons (dVar 8) dNil)) [8]) dNil)) (dCons (dCall bTuple (dCons (dVar 6) dNil)) dNil)))))))))
def d_law_door : DF := dFn 2 10 b_law_door
def b_law_own_mixed : DS := (dSeq (dSet 3 (dLst dNil)) (dSeq (dFor (rng1 (dCons (dVar 1) dNil)) (.nm 4) (dSeq (dSet 6 (dCall bAny (dCons (dLc (srcA (dVar 2)) (.nm 5) dYes (dBin opInS (dBin opAddS (dCall bRepr (dCons (dVar 4) dNil)) (dC (.str ", 'beside'"))) (dCall bRepr (dCons (dVar 5) dNil))) [5]) dNil))) (dSeq (dSet 5 (dCall d_law_draw (dCons (dVar 0) (dCons (dC (.int 4)) dNil)))) (dIfS (dAnd (dB (dBin opEq (dVar 5) (dC (.int 0)))) (dNot (dB (dVar 6)))) (dDrop (dMth mAppend (dVar 3) (dCons (dCall d_law_door (dCons (dVar 0) (dCons (dCall bLen (dCons (dVar 2) dNil)) dNil))) dNil))) (dDrop (dMth mAppend (dVar 3) (dCons (dTup (dCons (dC (.str "store")) (dCons (dIf (dB (dBin opEq (dVar 5) (dC (.int 1)))) (dCall d_law_pick (dCons (dVar 0) (dCons (dLst (dCons (dC .non) (dCons (dCallK d_fair [] dNil) (dCons (dCallK d_notify_one [] dNil) dNil)))) dNil))) (dC .non)) dNil))) dNil))))))) (dRet (dTup (dCons (dCall bTuple (dCons (dVar 3) dNil)) (dCons (dVar 2) dNil))))))
def d_law_own_mixed : DF := dFn 3 7 b_law_own_mixed
def b_law_own_pairs : DS := (dSeq (dSet 1 (dLst dNil)) (dSeq (dFor (enA (dCons (dVar 0) dNil)) (.tp [(.nm 2), (.nm 3)]) (dFor (enA (dCons (dVar 3) dNil)) (.tp [(.nm 4), (.nm 5)]) (dIfS (dB (dBin opEq (dBin opIx (dVar 5) (dC (.int 0))) (dC (.str "in")))) (dDrop (dMth mAppend (dVar 1) (dCons (dTup (dCons (dVar 2) (dCons (dVar 4) (dCons (dBin opIx (dVar 5) (dC (.int 1))) (dCons (dLc (srcA (dCall d_law_held (dCons (dVar 3) (dCons (dVar 4) dNil)))) (.tp [(.nm 6), (.nm 7)]) dYes (dVar 6) [6, 7]) dNil))))) dNil))) dSkip))) (dRet (dVar 1))))
def d_law_own_pairs : DF := dFn 1 8 b_law_own_pairs
def b_law_is_entered : DS := (dRet (dCall bAny (dCons (dLc (srcA (dVar 0)) (.nm 3) dYes (dAndV (dBin opEq (dBin opIx (dVar 3) (dC (.int 2))) (dVar 2)) (dBin (opIn false) (dVar 1) (dBin opIx (dVar 3) (dC (.int 3))))) [3]) dNil)))
def d_law_is_entered : DF := dFn 3 4 b_law_is_entered
def b_law_sorted : DS := (dSeq (dAsg (.tp [(.nm 2), (.nm 3), (.nm 4)]) (dTup (dCons (dListRg (dVar 1)) (dCons (dBin opMul (dLst (dCons (dC (.int 0)) dNil)) (dVar 1)) (dCons (dC (.int 0)) dNil))))) (dSeq (dWhile (dB (dBin opNe (dVar 2) (dLst dNil))) (dSeq (dSet 6 (dLc (srcA (dVar 2)) (.nm 5) (dNot (dB (dCall bAny (dCons (dLc (srcA (dVar 2)) (.nm 8) dYes (dCall d_law_is_entered (dCons (dVar 0) (dCons (dVar 8) (dCons (dVar 5) dNil)))) [8]) dNil)))) (dVar 5) [5])) (dSeq (dIfS (dB (dBin opEq (dVar 6) (dLst dNil))) dBrk dSkip) (dSeq (dFor (srcA (dVar 6)) (.nm 5) (dIPut (dVar 3) (dVar 5) (dVar 4))) (dSeq (dSet 4 (dBin opAdd (dVar 4) (dC (.int 1)))) (dSet 2 (dLc (srcA (dVar 2)) (.nm 5) (dB (dBin (opIn true) (dVar 5) (dVar 6))) (dVar 5) [5]))))))) (dSeq (dIfS (dB (dBin opEq (dVar 2) (dLst dNil))) (dRet (dLst (dCons (dCall bTuple (dCons (dVar 3) dNil)) (dCons (dC .non) dNil)))) dSkip) (dSeq (dSet 7 (dLst (dCons (dBin opIx (dVar 2) (dC (.int 0))) dNil))) (dSeq (dWhile (dB (dBin (opIn true) (dBin opIx (dVar 7) (dC (.int 0))) (dSl (dVar 7) (dPart (dC (.int 1))) dNoPart))) (dSet 7 (dBin opAdd (dLst (dCons (dBin opIx (dLc (srcA (dVar 2)) (.nm 8) (dB (dCall d_law_is_entered (dCons (dVar 0) (dCons (dVar 8) (dCons (dBin opIx (dVar 7) (dC (.int 0))) dNil))))) (dVar 8) [8]) (dC (.int 0))) dNil)) (dVar 7)))) (dRet (dLst (dCons (dC .non) (dCons (dCall bTuple (dCons (dSl (dVar 7) dNoPart (dPart (dMth mIndex (dVar 7) (dCons (dBin opIx (dVar 7) (dC (.int 0))) (dCons (dC (.int 1)) dNil))))) dNil)) dNil)))))))))
def d_law_sorted : DF := dFn 2 9 b_law_sorted
def b_law_whole : DS := (dRet (dAndV (dIsI "int" (dVar 0)) (dAndV (dNotV (dIsI "bool" (dVar 0))) (dChain opLe opLt (dC (.int 0)) (dVar 0) (dVar 1)))))
def d_law_whole : DF := dFn 2 2 b_law_whole
def b_law_number_due : DS := (dSeq (dIfS (dOr (dNot (dB (dIsI "tuple" (dVar 2)))) (dOr (dB (dBin opNe (dCall bLen (dCons (dVar 2) dNil)) (dVar 1))) (dNot (dB (dCall bAll (dCons (dLc (srcA (dVar 2)) (.nm 7) dYes (dCall d_law_whole (dCons (dVar 7) (dCons (dVar 1) dNil))) [7]) dNil)))))) (dRet (dC (.str "form"))) dSkip) (dSeq (dFor (srcA (dVar 0)) (.tp [(.nm 3), (.nm 4), (.nm 5), (.nm 6)]) (dIfS (dB (dCall bAny (dCons (dLc (srcA (dVar 6)) (.nm 7) dYes (dBin opGe (dBin opIx (dVar 2) (dVar 7)) (dBin opIx (dVar 2) (dVar 5))) [7]) dNil))) (dRet (dTup (dCons (dC (.str "step")) (dCons (dVar 3) (dCons (dVar 4) dNil))))) dSkip)) (dRet (dC .non))))
def d_law_number_due : DF := dFn 3 8 b_law_number_due
def b_law_round_due : DS := (dSeq (dIfS (dOr (dNot (dB (dIsI "tuple" (dVar 2)))) (dOr (dB (dBin opLt (dCall bLen (dCons (dVar 2) dNil)) (dC (.int 2)))) (dNot (dB (dCall bAll (dCons (dLc (srcA (dVar 2)) (.nm 5) dYes (dCall d_law_whole (dCons (dVar 5) (dCons (dVar 1) dNil))) [5]) dNil)))))) (dRet (dC (.str "form"))) dSkip) (dSeq (dIfS (dB (dCall bAny (dCons (dLc (enA (dCons (dVar 2) dNil)) (.tp [(.nm 3), (.nm 4)]) dYes (dBin (opIn false) (dVar 4) (dSl (dVar 2) dNoPart (dPart (dVar 3)))) [3, 4]) dNil))) (dRet (dC (.str "form"))) dSkip) (dSeq (dFor (enA (dCons (dVar 2) dNil)) (.tp [(.nm 3), (.nm 4)]) (dIfS (dNot (dB (dCall d_law_is_entered (dCons (dVar 0) (dCons (dBin opIx (dVar 2) (dBin opSub (dVar 3) (dC (.int 1)))) (dCons (dVar 4) dNil)))))) (dRet (dTup (dCons (dC (.str "pair")) (dCons (dVar 3) dNil)))) dSkip)) (dRet (dC .non)))))
def d_law_round_due : DF := dFn 3 6 b_law_round_due
def b_law_values : DS := (dSeq (dPar [3, 4] (dCons (dCall d_law_draw (dCons (dVar 0) (dCons (dCall bLen (dCons (dVar 2) dNil)) dNil))) (dCons (dCall d_law_pick (dCons (dVar 0) (dCons (dLst (dCons (dNeg (dC (.int 1))) (dCons (dVar 1) (dCons (dC (.bl true)) (dCons (dC .non) (dCons (dC (.str "0")) (dCons (dTup (dCons (dC (.int 0)) dNil)) dNil))))))) dNil))) dNil))) (dSeq (dSet 5 (dLst (dCons (dVar 2) (dCons (dRevT (dVar 2)) (dCons (dSl (dVar 2) (dPart (dC (.int 1))) dNoPart) (dCons (dBin opAdd (dSl (dVar 2) (dPart (dC (.int 1))) dNoPart) (dSl (dVar 2) dNoPart (dPart (dC (.int 1))))) (dCons (dBin opAdd (dVar 2) (dSl (dVar 2) dNoPart (dPart (dC (.int 1))))) (dCons (dBin opAdd (dVar 2) (dTup (dCons (dBin opSub (dVar 1) (dC (.int 1))) dNil))) (dCons (dCall bList (dCons (dVar 2) dNil)) (dCons (dC .non) (dCons (dTup dNil) (dCons (dC (.int 0)) dNil)))))))))))) (dSeq (dSet 5 (dBin opAdd (dVar 5) (dLst (dCons (dBin opAdd (dBin opAdd (dSl (dVar 2) dNoPart (dPart (dVar 3))) (dTup (dCons (dVar 4) dNil))) (dSl (dVar 2) (dPart (dBin opAdd (dVar 3) (dC (.int 1)))) dNoPart)) (dCons (dBin opAdd (dBin opAdd (dSl (dVar 2) dNoPart (dPart (dVar 3))) (dTup (dCons (dCall d_law_draw (dCons (dVar 0) (dCons (dVar 1) dNil))) dNil))) (dSl (dVar 2) (dPart (dBin opAdd (dVar 3) (dC (.int 1)))) dNoPart)) dNil))))) (dSeq (dDrop (dMth mAppend (dVar 5) (dCons (dBin opAdd (dBin opAdd (dSl (dVar 2) dNoPart (dPart (dVar 3))) (dTup (dCons (dBin opMod (dBin opAdd (dBin opIx (dVar 2) (dVar 3)) (dC (.int 1))) (dVar 1)) dNil))) (dSl (dVar 2) (dPart (dBin opAdd (dVar 3) (dC (.int 1)))) dNoPart)) dNil))) (dSeq (dFor (rng1 (dCons (dC (.int 4)) dNil)) (.nm 6) (dDrop (dMth mAppend (dVar 5) (dCons (dCall bTuple (dCons (dLc (rng1 (dCons (dBin opIx (dLst (dCons (dVar 1) (dCons (dC (.int 2)) (dCons (dC (.int 3)) (dCons (dVar 1) dNil))))) (dVar 6)) dNil)) (.nm 7) dYes (dCall d_law_draw (dCons (dVar 0) (dCons (dVar 1) dNil))) [7]) dNil)) dNil)))) (dRet (dVar 5)))))))
def d_law_values : DF := dFn 3 8 b_law_values
def b_law_is_right : DS := (dSeq (dPar [2, 3] (dCons (dCall bLen (dCons (dBin opIx (dVar 1) (dC (.int 0))) dNil)) (dCons (dCall bRepr (dCons (dVar 1) dNil)) dNil))) (dSeq (dSet 4 (dCall d_law_own_pairs (dCons (dBin opIx (dVar 1) (dC (.int 1))) dNil))) (dSeq (dAsgL [(.nm 5), (.nm 6)] (dCall d_law_sorted (dCons (dVar 4) (dCons (dVar 2) dNil)))) (dSeq (dSet 7 (dLst (dCons (dCall d_numbers (dCons (dVar 1) dNil)) (dCons (dCall d_room_round (dCons (dVar 1) dNil)) dNil)))) (dSeq (dIfS (dB (dBin opNe (dLst (dCons (dBin (opIsN false) (dBin opIx (dVar 7) (dC (.int 0))) (dC .non)) (dCons (dBin (opIsN false) (dBin opIx (dVar 7) (dC (.int 1))) (dC .non)) dNil))) (dLst (dCons (dBin (opIsN false) (dVar 5) (dC .non)) (dCons (dBin (opIsN false) (dVar 6) (dC .non)) dNil))))) (dRet (dC (.bl false))) dSkip) (dSeq (dIfS (dAnd (dB (dBin (opIsN true) (dVar 5) (dC .non))) (dB (dBin (opIsN true) (dCall d_law_number_due (dCons (dVar 4) (dCons (dVar 2) (dCons (dBin opIx (dVar 7) (dC (.int 0))) dNil)))) (dC .non)))) (dRet (dC (.bl false))) dSkip) (dSeq (dIfS (dAnd (dB (dBin (opIsN true) (dVar 6) (dC .non))) (dB (dBin (opIsN true) (dCall d_law_round_due (dCons (dVar 4) (dCons (dVar 2) (dCons (dBin opIx (dVar 7) (dC (.int 1))) dNil)))) (dC .non)))) (dRet (dC (.bl false))) dSkip) (dSeq (dSet 8 (dIf (dB (dBin (opIsN false) (dVar 5) (dC .non))) (dCall bTuple (dCons (dListRg (dVar 2)) dNil)) (dVar 5))) (dSeq (dFor (enA (dCons (dBin opAdd (dCall d_law_values (dCons (dVar 0) (dCons (dVar 2) (dCons (dVar 8) dNil)))) (dLst (dCons (dBin opIx (dVar 7) (dC (.int 0))) dNil))) dNil)) (.tp [(.nm 9), (.nm 10)]) (dSeq (dSet 11 (dIf (dB (dBin opEq (dBin opMod (dVar 9) (dC (.int 2))) (dC (.int 0)))) (dCall d_numbers_error (dCons (dVar 1) (dCons (dVar 10) dNil))) (dCallK d_numbers_error [0, 1] (dCons (dVar 1) (dCons (dVar 10) dNil))))) (dIfS (dB (dBin opNe (dCall bRepr (dCons (dVar 11) dNil)) (dCall bRepr (dCons (dCall d_law_number_due (dCons (dVar 4) (dCons (dVar 2) (dCons (dVar 10) dNil)))) dNil)))) (dRet (dC (.bl false))) dSkip))) (dSeq (dSet 8 (dIf (dB (dBin (opIsN false) (dVar 6) (dC .non))) (dCall bTuple (dCons (dListRg (dCall bMin (dCons (dVar 2) (dCons (dC (.int 3)) dNil)))) dNil)) (dVar 6))) (dSeq (dFor (enA (dCons (dBin opAdd (dCall d_law_values (dCons (dVar 0) (dCons (dVar 2) (dCons (dVar 8) dNil)))) (dLst (dCons (dBin opIx (dVar 7) (dC (.int 1))) dNil))) dNil)) (.tp [(.nm 9), (.nm 10)]) (dSeq (dSet 11 (dIf (dB (dBin opEq (dBin opMod (dVar 9) (dC (.int 2))) (dC (.int 0)))) (dCall d_round_error (dCons (dVar 1) (dCons (dVar 10) dNil))) (dCallK d_round_error [0, 1] (dCons (dVar 1) (dCons (dVar 10) dNil))))) (dIfS (dB (dBin opNe (dCall bRepr (dCons (dVar 11) dNil)) (dCall bRepr (dCons (dCall d_law_round_due (dCons (dVar 4) (dCons (dVar 2) (dCons (dVar 10) dNil)))) dNil)))) (dRet (dC (.bl false))) dSkip))) (dRet (dAndV (dBin opEq (dCall bRepr (dCons (dLst (dCons (dCallK d_numbers [0] (dCons (dVar 1) dNil)) (dCons (dCallK d_room_round [0] (dCons (dVar 1) dNil)) dNil))) dNil)) (dCall bRepr (dCons (dVar 7) dNil))) (dBin opEq (dCall bRepr (dCons (dVar 1) dNil)) (dVar 3)))))))))))))))
def d_law_is_right : DF := dFn 2 12 b_law_is_right
def b_law : DS := (dSeq (dSet 1 (dCall d_law_own_bag (dCons (dVar 0) dNil))) (dSeq (dFor (rng1 (dCons (dC (.int 4)) dNil)) (.nm 2) (dSeq (dSet 3 (dTup (dCons (dCall d_law_draw (dCons (dVar 1) (dCons (dC (.int 3)) dNil))) (dCons (dCall d_law_draw (dCons (dVar 1) (dCons (dC (.int 4)) dNil))) dNil)))) (dSeq (dPar [4, 5] (dCons (dBin opAdd (dC (.int 1)) (dCall d_law_draw (dCons (dVar 1) (dCons (dBin opIx (dLst (dCons (dC (.int 2)) (dCons (dC (.int 3)) (dCons (dC (.int 5)) (dCons (dC (.int 3)) dNil))))) (dVar 2)) dNil)))) (dCons (dBin opAdd (dC (.int 1)) (dCall d_law_draw (dCons (dVar 1) (dCons (dBin opIx (dLst (dCons (dC (.int 3)) (dCons (dC (.int 4)) (dCons (dC (.int 6)) (dCons (dC (.int 6)) dNil))))) (dVar 2)) dNil)))) dNil))) (dSeq (dSet 6 (dIf (dAnd (dB (dBin opEq (dVar 2) (dC (.int 3)))) (dB (dBin opEq (dCall d_law_draw (dCons (dVar 1) (dCons (dC (.int 8)) dNil))) (dC (.int 0))))) (dC (.int 24)) (dCall d_law_pick (dCons (dVar 1) (dCons (dLst (dCons (dC (.int 2)) (dCons (dC (.int 4)) (dCons (dC (.int 6)) (dCons (dC (.int 10)) dNil))))) dNil))))) (dSeq (dSet 7 (dCall d_law_own_house (dCons (dVar 1) (dCons (dVar 4) (dCons (dVar 5) (dCons (dVar 6) (dCons (dVar 3) dNil))))))) (dSeq (dIfS (dAnd (dB (dBin opEq (dVar 2) (dC (.int 2)))) (dB (dBin opEq (dCall d_law_draw (dCons (dVar 1) (dCons (dC (.int 2)) dNil))) (dC (.int 0))))) (dSet 7 (dCall d_law_crossed (dCons (dVar 1) (dCons (dBin opAdd (dC (.int 2)) (dCall d_law_draw (dCons (dVar 1) (dCons (dC (.int 3)) dNil)))) (dCons (dVar 3) dNil))))) dSkip) (dIfS (dNot (dB (dCall d_law_is_right (dCons (dVar 1) (dCons (dCall d_law_own_mixed (dCons (dVar 1) (dCons (dCall bLen (dCons (dBin opIx (dVar 7) (dC (.int 0))) dNil)) (dCons (dBin opIx (dVar 7) (dC (.int 1))) dNil)))) dNil))))) (dRet (dC (.bl false))) dSkip))))))) (dRet (dC (.bl true)))))
def d_law : DF := dFn 1 8 b_law
end Dn
set_option Elab.async false
set_option linter.all false
set_option maxRecDepth 100000
set_option maxHeartbeats 4000000
/-! Ok_k92: each def keeps its denotation, printed by gen.py. -/
namespace Dn
open PySem PySem.Spec PyProof.Rows L2
def top (i : Nat) : Stmt := PySem.Challenge.pw_manylocks_k92_whole_numbers_or_a_round.main.body.getD i (.Pass ⟨0, 0, 0, 0⟩)
theorem bt_abs : bootBuiltins "abs" = some (.builtin "abs") := by decide +kernel
theorem bt_all : bootBuiltins "all" = some (.builtin "all") := by decide +kernel
theorem bt_any : bootBuiltins "any" = some (.builtin "any") := by decide +kernel
theorem bt_bool : bootBuiltins "bool" = some (.type "bool") := by decide +kernel
theorem bt_enumerate : bootBuiltins "enumerate" = some (.type "enumerate") := by decide +kernel
theorem bt_int : bootBuiltins "int" = some (.type "int") := by decide +kernel
theorem bt_isinstance : bootBuiltins "isinstance" = some (.builtin "isinstance") := by decide +kernel
theorem bt_len : bootBuiltins "len" = some (.builtin "len") := by decide +kernel
theorem bt_list : bootBuiltins "list" = some (.type "list") := by decide +kernel
theorem bt_max : bootBuiltins "max" = some (.builtin "max") := by decide +kernel
theorem bt_min : bootBuiltins "min" = some (.builtin "min") := by decide +kernel
theorem bt_range : bootBuiltins "range" = some (.type "range") := by decide +kernel
theorem bt_repr : bootBuiltins "repr" = some (.builtin "repr") := by decide +kernel
theorem bt_reversed : bootBuiltins "reversed" = some (.type "reversed") := by decide +kernel
theorem bt_set : bootBuiltins "set" = some (.type "set") := by decide +kernel
theorem bt_tuple : bootBuiltins "tuple" = some (.type "tuple") := by decide +kernel
structure Tx (K : PySem.W.Frag) (mg : Str → Option Value) (cl : Str → Value) : Prop where
  n_abs : mg "abs" = none
  n_all : mg "all" = none
  n_any : mg "any" = none
  n_bool : mg "bool" = none
  n_enumerate : mg "enumerate" = none
  n_int : mg "int" = none
  n_isinstance : mg "isinstance" = none
  n_len : mg "len" = none
  n_list : mg "list" = none
  n_max : mg "max" = none
  n_min : mg "min" = none
  n_range : mg "range" = none
  n_repr : mg "repr" = none
  n_reversed : mg "reversed" = none
  n_set : mg "set" = none
  n_tuple : mg "tuple" = none
abbrev s_is_integer : Stmt := top 1
abbrev n_is_integer : List Str := ["value"]
theorem sc_is_integer : FnScope n_is_integer ["value"] (defScope s_is_integer) := ⟨rfl, rfl, rfl, by decide +kernel, rfl, by decide +kernel, by decide +kernel⟩
abbrev s_is_within : Stmt := top 2
abbrev n_is_within : List Str := ["value", "low", "high"]
theorem sc_is_within : FnScope n_is_within ["value", "low", "high"] (defScope s_is_within) := ⟨rfl, rfl, rfl, by decide +kernel, rfl, by decide +kernel, by decide +kernel⟩
abbrev s_held : Stmt := top 4
abbrev n_held : List Str := ["way", "place", "inside", "step"]
theorem sc_held : FnScope n_held ["way", "place"] (defScope s_held) := ⟨rfl, rfl, rfl, by decide +kernel, rfl, by decide +kernel, by decide +kernel⟩
abbrev s_wish : Stmt := top 5
abbrev n_wish : List Str := ["way", "place", "step"]
theorem sc_wish : FnScope n_wish ["way", "place"] (defScope s_wish) := ⟨rfl, rfl, rfl, by decide +kernel, rfl, by decide +kernel, by decide +kernel⟩
abbrev s_is_try : Stmt := top 6
abbrev n_is_try : List Str := ["way", "place"]
theorem sc_is_try : FnScope n_is_try ["way", "place"] (defScope s_is_try) := ⟨rfl, rfl, rfl, by decide +kernel, rfl, by decide +kernel, by decide +kernel⟩
abbrev s_entries : Stmt := top 7
abbrev n_entries : List Str := ["way", "place", "step"]
theorem sc_entries : FnScope n_entries ["way"] (defScope s_entries) := ⟨rfl, rfl, rfl, by decide +kernel, rfl, by decide +kernel, by decide +kernel⟩
abbrev s_places_in : Stmt := top 9
abbrev n_places_in : List Str := ["way", "place"]
theorem sc_places_in : FnScope n_places_in ["way"] (defScope s_places_in) := ⟨rfl, rfl, rfl, by decide +kernel, rfl, by decide +kernel, by decide +kernel⟩
abbrev s_rooms_held : Stmt := top 10
abbrev n_rooms_held : List Str := ["way", "place", "room", "mode"]
theorem sc_rooms_held : FnScope n_rooms_held ["way", "place"] (defScope s_rooms_held) := ⟨rfl, rfl, rfl, by decide +kernel, rfl, by decide +kernel, by decide +kernel⟩
abbrev s_is_entered : Stmt := top 11
abbrev n_is_entered : List Str := ["house", "one", "other", "way", "place"]
theorem sc_is_entered : FnScope n_is_entered ["house", "one", "other"] (defScope s_is_entered) := ⟨rfl, rfl, rfl, by decide +kernel, rfl, by decide +kernel, by decide +kernel⟩
abbrev s_rooms_ahead : Stmt := top 12
abbrev n_rooms_ahead : List Str := ["house", "rooms", "one", "other"]
theorem sc_rooms_ahead : FnScope n_rooms_ahead ["house"] (defScope s_rooms_ahead) := ⟨rfl, rfl, rfl, by decide +kernel, rfl, by decide +kernel, by decide +kernel⟩
abbrev s_numbers : Stmt := top 13
abbrev n_numbers : List Str := ["house", "ahead", "found", "turn", "room", "row", "one"]
theorem sc_numbers : FnScope n_numbers ["house"] (defScope s_numbers) := ⟨rfl, rfl, rfl, by decide +kernel, rfl, by decide +kernel, by decide +kernel⟩
abbrev s_numbers_error : Stmt := top 14
abbrev n_numbers_error : List Str := ["house", "value", "many", "hand", "way", "place", "own", "item", "kept"]
theorem sc_numbers_error : FnScope n_numbers_error ["house", "value"] (defScope s_numbers_error) := ⟨rfl, rfl, rfl, by decide +kernel, rfl, by decide +kernel, by decide +kernel⟩
abbrev s_rooms_left : Stmt := top 15
abbrev n_rooms_left : List Str := ["ahead", "left", "fresh", "one", "room"]
theorem sc_rooms_left : FnScope n_rooms_left ["ahead"] (defScope s_rooms_left) := ⟨rfl, rfl, rfl, by decide +kernel, rfl, by decide +kernel, by decide +kernel⟩
abbrev s_room_round : Stmt := top 16
abbrev n_room_round : List Str := ["house", "ahead", "left", "row", "room", "one"]
theorem sc_room_round : FnScope n_room_round ["house"] (defScope s_room_round) := ⟨rfl, rfl, rfl, by decide +kernel, rfl, by decide +kernel, by decide +kernel⟩
abbrev s_is_form_of_round : Stmt := top 17
abbrev n_is_form_of_round : List Str := ["house", "value", "item"]
theorem sc_is_form_of_round : FnScope n_is_form_of_round ["house", "value"] (defScope s_is_form_of_round) := ⟨rfl, rfl, rfl, by decide +kernel, rfl, by decide +kernel, by decide +kernel⟩
abbrev s_round_error : Stmt := top 18
abbrev n_round_error : List Str := ["house", "value", "place", "room"]
theorem sc_round_error : FnScope n_round_error ["house", "value"] (defScope s_round_error) := ⟨rfl, rfl, rfl, by decide +kernel, rfl, by decide +kernel, by decide +kernel⟩
abbrev s_notify_one : Stmt := top 20
abbrev n_notify_one : List Str := []
theorem sc_notify_one : FnScope n_notify_one [] (defScope s_notify_one) := ⟨rfl, rfl, rfl, by decide +kernel, rfl, by decide +kernel, by decide +kernel⟩
abbrev s_fair : Stmt := top 21
abbrev n_fair : List Str := []
theorem sc_fair : FnScope n_fair [] (defScope s_fair) := ⟨rfl, rfl, rfl, by decide +kernel, rfl, by decide +kernel, by decide +kernel⟩
abbrev s_law_own_bag : Stmt := top 23
abbrev n_law_own_bag : List Str := ["script", "cell", "cells", "mixed"]
theorem sc_law_own_bag : FnScope n_law_own_bag ["script"] (defScope s_law_own_bag) := ⟨rfl, rfl, rfl, by decide +kernel, rfl, by decide +kernel, by decide +kernel⟩
abbrev s_law_draw : Stmt := top 24
abbrev n_law_draw : List Str := ["bag", "below", "cell", "found"]
theorem sc_law_draw : FnScope n_law_draw ["bag", "below"] (defScope s_law_draw) := ⟨rfl, rfl, rfl, by decide +kernel, rfl, by decide +kernel, by decide +kernel⟩
abbrev s_law_pick : Stmt := top 25
abbrev n_law_pick : List Str := ["bag", "some"]
theorem sc_law_pick : FnScope n_law_pick ["bag", "some"] (defScope s_law_pick) := ⟨rfl, rfl, rfl, by decide +kernel, rfl, by decide +kernel, by decide +kernel⟩
abbrev s_law_own_way : Stmt := top 26
abbrev n_law_own_way : List Str := ["bag", "rooms", "most", "kinds", "stack", "way", "free", "may", "word", "mode", "room"]
theorem sc_law_own_way : FnScope n_law_own_way ["bag", "rooms", "most", "kinds"] (defScope s_law_own_way) := ⟨rfl, rfl, rfl, by decide +kernel, rfl, by decide +kernel, by decide +kernel⟩
abbrev s_law_held : Stmt := top 27
abbrev n_law_held : List Str := ["way", "place", "found", "step"]
theorem sc_law_held : FnScope n_law_held ["way", "place"] (defScope s_law_held) := ⟨rfl, rfl, rfl, by decide +kernel, rfl, by decide +kernel, by decide +kernel⟩
abbrev s_law_own_house : Stmt := top 28
abbrev n_law_own_house : List Str := ["bag", "hands", "many", "most", "kinds", "paths", "hand"]
theorem sc_law_own_house : FnScope n_law_own_house ["bag", "hands", "many", "most", "kinds"] (defScope s_law_own_house) := ⟨rfl, rfl, rfl, by decide +kernel, rfl, by decide +kernel, by decide +kernel⟩
abbrev s_law_crossed : Stmt := top 29
abbrev n_law_crossed : List Str := ["bag", "hands", "kinds", "paths", "hand", "pair", "way", "room", "word"]
theorem sc_law_crossed : FnScope n_law_crossed ["bag", "hands", "kinds"] (defScope s_law_crossed) := ⟨rfl, rfl, rfl, by decide +kernel, rfl, by decide +kernel, by decide +kernel⟩
abbrev s_law_door : Stmt := top 30
abbrev n_law_door : List Str := ["bag", "hands", "table", "i", "j", "pair", "orders", "rest", "row", "hand"]
theorem sc_law_door : FnScope n_law_door ["bag", "hands"] (defScope s_law_door) := ⟨rfl, rfl, rfl, by decide +kernel, rfl, by decide +kernel, by decide +kernel⟩
abbrev s_law_own_mixed : Stmt := top 31
abbrev n_law_own_mixed : List Str := ["bag", "rooms", "paths", "found", "room", "way", "is_beside"]
theorem sc_law_own_mixed : FnScope n_law_own_mixed ["bag", "rooms", "paths"] (defScope s_law_own_mixed) := ⟨rfl, rfl, rfl, by decide +kernel, rfl, by decide +kernel, by decide +kernel⟩
abbrev s_law_own_pairs : Stmt := top 32
abbrev n_law_own_pairs : List Str := ["paths", "found", "hand", "way", "place", "step", "room", "mode"]
theorem sc_law_own_pairs : FnScope n_law_own_pairs ["paths"] (defScope s_law_own_pairs) := ⟨rfl, rfl, rfl, by decide +kernel, rfl, by decide +kernel, by decide +kernel⟩
abbrev s_law_is_entered : Stmt := top 33
abbrev n_law_is_entered : List Str := ["pairs", "one", "other", "row"]
theorem sc_law_is_entered : FnScope n_law_is_entered ["pairs", "one", "other"] (defScope s_law_is_entered) := ⟨rfl, rfl, rfl, by decide +kernel, rfl, by decide +kernel, by decide +kernel⟩
abbrev s_law_sorted : Stmt := top 34
abbrev n_law_sorted : List Str := ["pairs", "rooms", "rest", "found", "number", "room", "free", "row", "own"]
theorem sc_law_sorted : FnScope n_law_sorted ["pairs", "rooms"] (defScope s_law_sorted) := ⟨rfl, rfl, rfl, by decide +kernel, rfl, by decide +kernel, by decide +kernel⟩
abbrev s_law_whole : Stmt := top 35
abbrev n_law_whole : List Str := ["value", "below"]
theorem sc_law_whole : FnScope n_law_whole ["value", "below"] (defScope s_law_whole) := ⟨rfl, rfl, rfl, by decide +kernel, rfl, by decide +kernel, by decide +kernel⟩
abbrev s_law_number_due : Stmt := top 36
abbrev n_law_number_due : List Str := ["pairs", "rooms", "value", "hand", "place", "room", "around", "own"]
theorem sc_law_number_due : FnScope n_law_number_due ["pairs", "rooms", "value"] (defScope s_law_number_due) := ⟨rfl, rfl, rfl, by decide +kernel, rfl, by decide +kernel, by decide +kernel⟩
abbrev s_law_round_due : Stmt := top 37
abbrev n_law_round_due : List Str := ["pairs", "rooms", "value", "k", "room", "own"]
theorem sc_law_round_due : FnScope n_law_round_due ["pairs", "rooms", "value"] (defScope s_law_round_due) := ⟨rfl, rfl, rfl, by decide +kernel, rfl, by decide +kernel, by decide +kernel⟩
abbrev s_law_values : Stmt := top 38
abbrev n_law_values : List Str := ["bag", "rooms", "row", "at", "odd", "found", "turn", "k"]
theorem sc_law_values : FnScope n_law_values ["bag", "rooms", "row"] (defScope s_law_values) := ⟨rfl, rfl, rfl, by decide +kernel, rfl, by decide +kernel, by decide +kernel⟩
abbrev s_law_is_right : Stmt := top 39
abbrev n_law_is_right : List Str := ["bag", "house", "rooms", "kept", "pairs", "row", "circle", "told", "made", "k", "value", "error"]
theorem sc_law_is_right : FnScope n_law_is_right ["bag", "house"] (defScope s_law_is_right) := ⟨rfl, rfl, rfl, by decide +kernel, rfl, by decide +kernel, by decide +kernel⟩
abbrev s_law : Stmt := top 40
abbrev n_law : List Str := ["script", "bag", "turn", "kinds", "hands", "rooms", "most", "house"]
theorem sc_law : FnScope n_law ["script"] (defScope s_law) := ⟨rfl, rfl, rfl, by decide +kernel, rfl, by decide +kernel, by decide +kernel⟩
section
variable {P : Program} {w : World} {K : PySem.W.Frag} {mg : Str → Option Value} {base : Heap} {cl : Str → Value}
theorem ok_is_integer (T : Tx K mg cl) {f : Addr} {fd : FuncData} (F : Fun K "is_integer" "is_integer" s_is_integer f fd) : FnOk P w K mg base (L2.CX P w) 1 f fd ["value"] (SpD K cl d_is_integer) := by
  refine fn_ok F sc_is_integer fun cdv A outer s H E hr => ?_
  have scN := sc_is_integer.nd
  have tk := takes_of (X := cxOf (L2.CX P w) P w K mg base n_is_integer "is_integer" (defScope s_is_integer) f cdv A outer s H E) (E := E) rfl rfl rfl rfl
  have hx := passes_call (E := E) tk (fun _ _ _ _ h => h)
  have hpo : PassesOwn (model P w) (cxOf (L2.CX P w) P w K mg base n_is_integer "is_integer" (defScope s_is_integer) f cdv A outer s H E).A (cxOf (L2.CX P w) P w K mg base n_is_integer "is_integer" (defScope s_is_integer) f cdv A outer s H E).env (cxOf (L2.CX P w) P w K mg base n_is_integer "is_integer" (defScope s_is_integer) f cdv A outer s H E).xe := passes_of (X := cxOf (L2.CX P w) P w K mg base n_is_integer "is_integer" (defScope s_is_integer) f cdv A outer s H E) rfl
  exact (sb_one (ss_ret (se_and (se_isi rfl T.n_isinstance bt_isinstance (se_var 0) rfl T.n_int bt_int) (se_one (se_not (se_isi rfl T.n_isinstance bt_isinstance (se_var 0) rfl T.n_bool bt_bool))))))
theorem ok_is_within (T : Tx K mg cl) {f : Addr} {fd : FuncData} (F : Fun K "is_within" "is_within" s_is_within f fd) (H_is_integer : Has P w K mg base cl "is_integer" 1 d_is_integer) : FnOk P w K mg base (L2.CX P w) 2 f fd ["value", "low", "high"] (SpD K cl d_is_within) := by
  refine fn_ok F sc_is_within fun cdv A outer s H E hr => ?_
  have scN := sc_is_within.nd
  have tk := takes_of (X := cxOf (L2.CX P w) P w K mg base n_is_within "is_within" (defScope s_is_within) f cdv A outer s H E) (E := E) rfl rfl rfl rfl
  have hx := passes_call (E := E) tk (fun _ _ _ _ h => h)
  have hpo : PassesOwn (model P w) (cxOf (L2.CX P w) P w K mg base n_is_within "is_within" (defScope s_is_within) f cdv A outer s H E).A (cxOf (L2.CX P w) P w K mg base n_is_within "is_within" (defScope s_is_within) f cdv A outer s H E).env (cxOf (L2.CX P w) P w K mg base n_is_within "is_within" (defScope s_is_within) f cdv A outer s H E).xe := passes_of (X := cxOf (L2.CX P w) P w K mg base n_is_within "is_within" (defScope s_is_within) f cdv A outer s H E) rfl
  exact (sb_one (ss_ret (se_and (se_call H_is_integer (hr.mono (by decide)) rfl hx (sa_cons (se_var 0) sa_nil)) (se_one (se_chain od_le od_le (se_var 1) (se_var 0) (se_var 2))))))
theorem ok_held (T : Tx K mg cl) {f : Addr} {fd : FuncData} (F : Fun K "held" "held" s_held f fd) : FnOk P w K mg base (L2.CX P w) 1 f fd ["way", "place"] (SpD K cl d_held) := by
  refine fn_ok F sc_held fun cdv A outer s H E hr => ?_
  have scN := sc_held.nd
  have tk := takes_of (X := cxOf (L2.CX P w) P w K mg base n_held "held" (defScope s_held) f cdv A outer s H E) (E := E) rfl rfl rfl rfl
  have hx := passes_call (E := E) tk (fun _ _ _ _ h => h)
  have hpo : PassesOwn (model P w) (cxOf (L2.CX P w) P w K mg base n_held "held" (defScope s_held) f cdv A outer s H E).A (cxOf (L2.CX P w) P w K mg base n_held "held" (defScope s_held) f cdv A outer s H E).env (cxOf (L2.CX P w) P w K mg base n_held "held" (defScope s_held) f cdv A outer s H E).xe := passes_of (X := cxOf (L2.CX P w) P w K mg base n_held "held" (defScope s_held) f cdv A outer s H E) rfl
  exact (sb_cons (ss_set (i := 2) scN rfl (Or.inl rfl) (se_lst sa_nil))
      (sb_cons (ss_for hpo rfl (so_tup (se_sl (se_var 0) so_none (so_some (se_var 1)))) (sg_name (i := 3) scN rfl (Or.inl rfl)) (sb_one (ss_if (st_cmp (od_ne hr.units) (se_ix (se_var 3) se_int) se_str (nomark _)) (sb_one (ss_expr (se_mth PySem.F.slot_list_append PySem.F.type_list_append md_append (se_var 2) (sa_cons (se_tup (sa_cons (se_ix (se_var 3) se_int) (sa_cons (se_ix (se_var 3) se_int) sa_nil))) sa_nil)))) (sb_one (ss_expr (se_mth0 PySem.F.slot_list_pop PySem.F.type_list_pop md_pop (se_var 2)))))))
      (sb_one (ss_ret (se_callTy cd_tuple rfl T.n_tuple bt_tuple (sa_cons (se_var 2) sa_nil))))))
theorem ok_wish (T : Tx K mg cl) {f : Addr} {fd : FuncData} (F : Fun K "wish" "wish" s_wish f fd) : FnOk P w K mg base (L2.CX P w) 1 f fd ["way", "place"] (SpD K cl d_wish) := by
  refine fn_ok F sc_wish fun cdv A outer s H E hr => ?_
  have scN := sc_wish.nd
  have tk := takes_of (X := cxOf (L2.CX P w) P w K mg base n_wish "wish" (defScope s_wish) f cdv A outer s H E) (E := E) rfl rfl rfl rfl
  have hx := passes_call (E := E) tk (fun _ _ _ _ h => h)
  have hpo : PassesOwn (model P w) (cxOf (L2.CX P w) P w K mg base n_wish "wish" (defScope s_wish) f cdv A outer s H E).A (cxOf (L2.CX P w) P w K mg base n_wish "wish" (defScope s_wish) f cdv A outer s H E).env (cxOf (L2.CX P w) P w K mg base n_wish "wish" (defScope s_wish) f cdv A outer s H E).xe := passes_of (X := cxOf (L2.CX P w) P w K mg base n_wish "wish" (defScope s_wish) f cdv A outer s H E) rfl
  exact (sb_cons (ss_set (i := 2) scN rfl (Or.inl rfl) (se_ix (se_var 0) (se_var 1)))
      (sb_one (ss_ret (se_if (st_cmp (od_ne hr.units) (se_ix (se_var 2) se_int) se_str (nomark _)) (se_tup (sa_cons (se_ix (se_var 2) se_int) (sa_cons (se_ix (se_var 2) se_int) sa_nil))) se_non))))
theorem ok_is_try (T : Tx K mg cl) {f : Addr} {fd : FuncData} (F : Fun K "is_try" "is_try" s_is_try f fd) : FnOk P w K mg base (L2.CX P w) 1 f fd ["way", "place"] (SpD K cl d_is_try) := by
  refine fn_ok F sc_is_try fun cdv A outer s H E hr => ?_
  have scN := sc_is_try.nd
  have tk := takes_of (X := cxOf (L2.CX P w) P w K mg base n_is_try "is_try" (defScope s_is_try) f cdv A outer s H E) (E := E) rfl rfl rfl rfl
  have hx := passes_call (E := E) tk (fun _ _ _ _ h => h)
  have hpo : PassesOwn (model P w) (cxOf (L2.CX P w) P w K mg base n_is_try "is_try" (defScope s_is_try) f cdv A outer s H E).A (cxOf (L2.CX P w) P w K mg base n_is_try "is_try" (defScope s_is_try) f cdv A outer s H E).env (cxOf (L2.CX P w) P w K mg base n_is_try "is_try" (defScope s_is_try) f cdv A outer s H E).xe := passes_of (X := cxOf (L2.CX P w) P w K mg base n_is_try "is_try" (defScope s_is_try) f cdv A outer s H E) rfl
  exact (sb_one (ss_ret (se_cmp (od_eq hr.units) (se_ix (se_ix (se_var 0) (se_var 1)) se_int) se_str (nomark _))))
theorem ok_entries (T : Tx K mg cl) {f : Addr} {fd : FuncData} (F : Fun K "entries" "entries" s_entries f fd) : FnOk P w K mg base (L2.CX P w) 1 f fd ["way"] (SpD K cl d_entries) := by
  refine fn_ok F sc_entries fun cdv A outer s H E hr => ?_
  have scN := sc_entries.nd
  have tk := takes_of (X := cxOf (L2.CX P w) P w K mg base n_entries "entries" (defScope s_entries) f cdv A outer s H E) (E := E) rfl rfl rfl rfl
  have hx := passes_call (E := E) tk (fun _ _ _ _ h => h)
  have hpo : PassesOwn (model P w) (cxOf (L2.CX P w) P w K mg base n_entries "entries" (defScope s_entries) f cdv A outer s H E).A (cxOf (L2.CX P w) P w K mg base n_entries "entries" (defScope s_entries) f cdv A outer s H E).env (cxOf (L2.CX P w) P w K mg base n_entries "entries" (defScope s_entries) f cdv A outer s H E).xe := passes_of (X := cxOf (L2.CX P w) P w K mg base n_entries "entries" (defScope s_entries) f cdv A outer s H E) rfl
  exact (sb_one (ss_ret (se_callTy cd_tuple rfl T.n_tuple bt_tuple (sa_cons (se_lc (own := [("place", 1), ("step", 2)]) rfl scN (so_enumT rfl T.n_enumerate (sa_cons (se_var 0) sa_nil)) (blkOk_by (own := [("place", 1), ("step", 2)]) (N := n_entries) (sc := (defScope s_entries)) (by decide +kernel)) (by decide) (fun _ _ _ _ _ => (sg_tup rfl (sgs_cons (sg_name (i := 1) scN rfl (Or.inl rfl)) (sgs_cons (sg_name (i := 2) scN rfl (Or.inl rfl)) sgs_nil)))) (fun _ _ _ _ _ => (pts_one (st_cmp (od_ne hr.units) (se_ix (se_var 2) se_int) se_str (nomark _)))) (fun _ _ _ _ _ => (se_var 1))) sa_nil))))
theorem ok_places_in (T : Tx K mg cl) {f : Addr} {fd : FuncData} (F : Fun K "places_in" "places_in" s_places_in f fd) (H_entries : Has P w K mg base cl "entries" 1 d_entries) (H_is_try : Has P w K mg base cl "is_try" 1 d_is_try) : FnOk P w K mg base (L2.CX P w) 2 f fd ["way"] (SpD K cl d_places_in) := by
  refine fn_ok F sc_places_in fun cdv A outer s H E hr => ?_
  have scN := sc_places_in.nd
  have tk := takes_of (X := cxOf (L2.CX P w) P w K mg base n_places_in "places_in" (defScope s_places_in) f cdv A outer s H E) (E := E) rfl rfl rfl rfl
  have hx := passes_call (E := E) tk (fun _ _ _ _ h => h)
  have hpo : PassesOwn (model P w) (cxOf (L2.CX P w) P w K mg base n_places_in "places_in" (defScope s_places_in) f cdv A outer s H E).A (cxOf (L2.CX P w) P w K mg base n_places_in "places_in" (defScope s_places_in) f cdv A outer s H E).env (cxOf (L2.CX P w) P w K mg base n_places_in "places_in" (defScope s_places_in) f cdv A outer s H E).xe := passes_of (X := cxOf (L2.CX P w) P w K mg base n_places_in "places_in" (defScope s_places_in) f cdv A outer s H E) rfl
  exact (sb_one (ss_ret (se_lc (own := [("place", 1)]) rfl scN (so_tup (se_call H_entries (hr.mono (by decide)) rfl hx (sa_cons (se_var 0) sa_nil))) (blkOk_by (own := [("place", 1)]) (N := n_places_in) (sc := (defScope s_places_in)) (by decide +kernel)) (by decide) (fun _ _ _ _ _ => (sg_name (i := 1) scN rfl (Or.inl rfl))) (fun _ _ _ _ _ => (pts_one (st_not (st_val (se_call H_is_try (hr.mono (by decide)) rfl passL (sa_cons (se_var 0) (sa_cons (se_var 1) sa_nil))))))) (fun _ _ _ _ _ => (se_var 1)))))
theorem ok_rooms_held (T : Tx K mg cl) {f : Addr} {fd : FuncData} (F : Fun K "rooms_held" "rooms_held" s_rooms_held f fd) (H_held : Has P w K mg base cl "held" 1 d_held) : FnOk P w K mg base (L2.CX P w) 2 f fd ["way", "place"] (SpD K cl d_rooms_held) := by
  refine fn_ok F sc_rooms_held fun cdv A outer s H E hr => ?_
  have scN := sc_rooms_held.nd
  have tk := takes_of (X := cxOf (L2.CX P w) P w K mg base n_rooms_held "rooms_held" (defScope s_rooms_held) f cdv A outer s H E) (E := E) rfl rfl rfl rfl
  have hx := passes_call (E := E) tk (fun _ _ _ _ h => h)
  have hpo : PassesOwn (model P w) (cxOf (L2.CX P w) P w K mg base n_rooms_held "rooms_held" (defScope s_rooms_held) f cdv A outer s H E).A (cxOf (L2.CX P w) P w K mg base n_rooms_held "rooms_held" (defScope s_rooms_held) f cdv A outer s H E).env (cxOf (L2.CX P w) P w K mg base n_rooms_held "rooms_held" (defScope s_rooms_held) f cdv A outer s H E).xe := passes_of (X := cxOf (L2.CX P w) P w K mg base n_rooms_held "rooms_held" (defScope s_rooms_held) f cdv A outer s H E) rfl
  exact (sb_one (ss_ret (se_lc (own := [("room", 2), ("mode", 3)]) rfl scN (so_any (se_call H_held (hr.mono (by decide)) rfl hx (sa_cons (se_var 0) (sa_cons (se_var 1) sa_nil)))) (blkOk_by (own := [("room", 2), ("mode", 3)]) (N := n_rooms_held) (sc := (defScope s_rooms_held)) (by decide +kernel)) (by decide) (fun _ _ _ _ _ => (sg_tup rfl (sgs_cons (sg_name (i := 2) scN rfl (Or.inl rfl)) (sgs_cons (sg_name (i := 3) scN rfl (Or.inl rfl)) sgs_nil)))) (fun _ _ _ _ _ => pts_yes) (fun _ _ _ _ _ => (se_var 2)))))
theorem ok_is_entered (T : Tx K mg cl) {f : Addr} {fd : FuncData} (F : Fun K "is_entered" "is_entered" s_is_entered f fd) (H_places_in : Has P w K mg base cl "places_in" 2 d_places_in) (H_rooms_held : Has P w K mg base cl "rooms_held" 2 d_rooms_held) (H_wish : Has P w K mg base cl "wish" 1 d_wish) : FnOk P w K mg base (L2.CX P w) 3 f fd ["house", "one", "other"] (SpD K cl d_is_entered) := by
  refine fn_ok F sc_is_entered fun cdv A outer s H E hr => ?_
  have scN := sc_is_entered.nd
  have tk := takes_of (X := cxOf (L2.CX P w) P w K mg base n_is_entered "is_entered" (defScope s_is_entered) f cdv A outer s H E) (E := E) rfl rfl rfl rfl
  have hx := passes_call (E := E) tk (fun _ _ _ _ h => h)
  have hpo : PassesOwn (model P w) (cxOf (L2.CX P w) P w K mg base n_is_entered "is_entered" (defScope s_is_entered) f cdv A outer s H E).A (cxOf (L2.CX P w) P w K mg base n_is_entered "is_entered" (defScope s_is_entered) f cdv A outer s H E).env (cxOf (L2.CX P w) P w K mg base n_is_entered "is_entered" (defScope s_is_entered) f cdv A outer s H E).xe := passes_of (X := cxOf (L2.CX P w) P w K mg base n_is_entered "is_entered" (defScope s_is_entered) f cdv A outer s H E) rfl
  exact (sb_cons (ss_for hpo rfl (so_tup (se_ix (se_var 0) se_int)) (sg_name (i := 3) scN rfl (Or.inl rfl)) (sb_one (ss_for hpo rfl (so_any (se_call H_places_in (hr.mono (by decide)) rfl hx (sa_cons (se_var 3) sa_nil))) (sg_name (i := 4) scN rfl (Or.inl rfl)) (sb_one (ss_if (PW.pt (sw_and (st_cmp (od_eq hr.units) (se_ix (se_call H_wish (hr.mono (by decide)) rfl hx (sa_cons (se_var 3) (sa_cons (se_var 4) sa_nil))) se_int) (se_var 2) (nomark _)) (sw_and1 (st_cmp (od_in hr.units) (se_var 1) (se_call H_rooms_held (hr.mono (by decide)) rfl hx (sa_cons (se_var 3) (sa_cons (se_var 4) sa_nil))) rfl)))) (sb_one (ss_ret se_bl)) sb_nil)))))
      (sb_one (ss_ret se_bl)))
theorem ok_rooms_ahead (T : Tx K mg cl) {f : Addr} {fd : FuncData} (F : Fun K "rooms_ahead" "rooms_ahead" s_rooms_ahead f fd) (H_is_entered : Has P w K mg base cl "is_entered" 3 d_is_entered) : FnOk P w K mg base (L2.CX P w) 4 f fd ["house"] (SpD K cl d_rooms_ahead) := by
  refine fn_ok F sc_rooms_ahead fun cdv A outer s H E hr => ?_
  have scN := sc_rooms_ahead.nd
  have tk := takes_of (X := cxOf (L2.CX P w) P w K mg base n_rooms_ahead "rooms_ahead" (defScope s_rooms_ahead) f cdv A outer s H E) (E := E) rfl rfl rfl rfl
  have hx := passes_call (E := E) tk (fun _ _ _ _ h => h)
  have hpo : PassesOwn (model P w) (cxOf (L2.CX P w) P w K mg base n_rooms_ahead "rooms_ahead" (defScope s_rooms_ahead) f cdv A outer s H E).A (cxOf (L2.CX P w) P w K mg base n_rooms_ahead "rooms_ahead" (defScope s_rooms_ahead) f cdv A outer s H E).env (cxOf (L2.CX P w) P w K mg base n_rooms_ahead "rooms_ahead" (defScope s_rooms_ahead) f cdv A outer s H E).xe := passes_of (X := cxOf (L2.CX P w) P w K mg base n_rooms_ahead "rooms_ahead" (defScope s_rooms_ahead) f cdv A outer s H E) rfl
  exact (sb_cons (ss_set (i := 1) scN rfl (Or.inr rfl) (se_callTy cd_range rfl T.n_range bt_range (sa_cons (se_callB cd_len rfl T.n_len bt_len (sa_cons (se_ix (se_var 0) se_int) sa_nil)) sa_nil)))
      (sb_one (ss_ret (se_lc (own := [("other", 3)]) rfl scN (so_any (se_var 1)) (blkOk_by (own := [("other", 3)]) (N := n_rooms_ahead) (sc := (defScope s_rooms_ahead)) (by decide +kernel)) (by decide) (fun _ _ _ _ _ => (sg_name (i := 3) scN rfl (Or.inr rfl))) (fun _ _ _ _ _ => pts_yes) (fun _ _ _ _ _ => (se_lc (own := [("one", 2)]) rfl scN (so_any (se_var 1)) (blkOk_by (own := [("one", 2)]) (N := n_rooms_ahead) (sc := (relS { kind := .function, names := [(".0", .local), ("other", .cell), ("house", .free), ("rooms", .free)], isGenerator := false, isCoroutine := false, more := [] : Scope } (defScope s_rooms_ahead))) (by decide +kernel)) (by decide) (fun _ _ _ _ _ => (sg_name (i := 2) scN rfl (Or.inl rfl))) (fun _ _ _ _ _ => (pts_one (st_val (se_call H_is_entered (hr.mono (by decide)) rfl passL (sa_cons (se_var 0) (sa_cons (se_var 2) (sa_cons (se_var 3) sa_nil))))))) (fun _ _ _ _ _ => (se_var 2))))))))
theorem ok_numbers (T : Tx K mg cl) {f : Addr} {fd : FuncData} (F : Fun K "numbers" "numbers" s_numbers f fd) (H_rooms_ahead : Has P w K mg base cl "rooms_ahead" 4 d_rooms_ahead) : FnOk P w K mg base (L2.CX P w) 5 f fd ["house"] (SpD K cl d_numbers) := by
  refine fn_ok F sc_numbers fun cdv A outer s H E hr => ?_
  have scN := sc_numbers.nd
  have tk := takes_of (X := cxOf (L2.CX P w) P w K mg base n_numbers "numbers" (defScope s_numbers) f cdv A outer s H E) (E := E) rfl rfl rfl rfl
  have hx := passes_call (E := E) tk (fun _ _ _ _ h => h)
  have hpo : PassesOwn (model P w) (cxOf (L2.CX P w) P w K mg base n_numbers "numbers" (defScope s_numbers) f cdv A outer s H E).A (cxOf (L2.CX P w) P w K mg base n_numbers "numbers" (defScope s_numbers) f cdv A outer s H E).env (cxOf (L2.CX P w) P w K mg base n_numbers "numbers" (defScope s_numbers) f cdv A outer s H E).xe := passes_of (X := cxOf (L2.CX P w) P w K mg base n_numbers "numbers" (defScope s_numbers) f cdv A outer s H E) rfl
  exact (sb_cons (ss_set (i := 1) scN rfl (Or.inl rfl) (se_call H_rooms_ahead (hr.mono (by decide)) rfl hx (sa_cons (se_var 0) sa_nil)))
      (sb_cons (ss_set (i := 2) scN rfl (Or.inr rfl) (se_bin od_mul (se_lst (sa_cons se_non sa_nil)) (se_callB cd_len rfl T.n_len bt_len (sa_cons (se_var 1) sa_nil))))
      (sb_cons (ss_for hpo rfl (so_range1 rfl T.n_range (sa_cons (se_callB cd_len rfl T.n_len bt_len (sa_cons (se_var 1) sa_nil)) sa_nil)) (sg_name (i := 3) scN rfl (Or.inl rfl)) (sb_one (ss_for hpo rfl (so_enumA rfl T.n_enumerate (sa_cons (se_var 1) sa_nil)) (sg_tup rfl (sgs_cons (sg_name (i := 4) scN rfl (Or.inl rfl)) (sgs_cons (sg_name (i := 5) scN rfl (Or.inl rfl)) sgs_nil))) (sb_one (ss_if (PW.pt (sw_and (st_cmp od_isN (se_ix (se_var 2) (se_var 4)) se_non (nomark _)) (sw_and1 (st_cmp (od_eq hr.units) (se_lc (own := [("one", 6)]) rfl scN (so_any (se_var 5)) (blkOk_by (own := [("one", 6)]) (N := n_numbers) (sc := (defScope s_numbers)) (by decide +kernel)) (by decide) (fun _ _ _ _ _ => (sg_name (i := 6) scN rfl (Or.inl rfl))) (fun _ _ _ _ _ => (pts_one (st_cmp od_isN (se_ix (se_var 2) (se_var 6)) se_non (nomark _)))) (fun _ _ _ _ _ => (se_var 6))) (se_lst sa_nil) (nomark _))))) (sb_one (ss_iput hr.units (se_var 2) (se_var 4) (se_if (st_cmp (od_ne hr.units) (se_var 5) (se_lst sa_nil) (nomark _)) (se_bin od_add se_int (se_callB (cd_max rfl) rfl T.n_max bt_max (sa_cons (se_lc (own := [("one", 6)]) rfl scN (so_any (se_var 5)) (blkOk_by (own := [("one", 6)]) (N := n_numbers) (sc := (defScope s_numbers)) (by decide +kernel)) (by decide) (fun _ _ _ _ _ => (sg_name (i := 6) scN rfl (Or.inl rfl))) (fun _ _ _ _ _ => pts_yes) (fun _ _ _ _ _ => (se_ix (se_var 2) (se_var 6)))) sa_nil))) se_int))) sb_nil)))))
      (sb_one (ss_ret (se_if (st_cmp (od_in hr.units) se_non (se_var 2) rfl) se_non (se_callTy cd_tuple rfl T.n_tuple bt_tuple (sa_cons (se_var 2) sa_nil))))))))
theorem ok_numbers_error (T : Tx K mg cl) {f : Addr} {fd : FuncData} (F : Fun K "numbers_error" "numbers_error" s_numbers_error f fd) (H_is_within : Has P w K mg base cl "is_within" 2 d_is_within) (H_places_in : Has P w K mg base cl "places_in" 2 d_places_in) (H_rooms_held : Has P w K mg base cl "rooms_held" 2 d_rooms_held) (H_wish : Has P w K mg base cl "wish" 1 d_wish) : FnOk P w K mg base (L2.CX P w) 3 f fd ["house", "value"] (SpD K cl d_numbers_error) := by
  refine fn_ok F sc_numbers_error fun cdv A outer s H E hr => ?_
  have scN := sc_numbers_error.nd
  have tk := takes_of (X := cxOf (L2.CX P w) P w K mg base n_numbers_error "numbers_error" (defScope s_numbers_error) f cdv A outer s H E) (E := E) rfl rfl rfl rfl
  have hx := passes_call (E := E) tk (fun _ _ _ _ h => h)
  have hpo : PassesOwn (model P w) (cxOf (L2.CX P w) P w K mg base n_numbers_error "numbers_error" (defScope s_numbers_error) f cdv A outer s H E).A (cxOf (L2.CX P w) P w K mg base n_numbers_error "numbers_error" (defScope s_numbers_error) f cdv A outer s H E).env (cxOf (L2.CX P w) P w K mg base n_numbers_error "numbers_error" (defScope s_numbers_error) f cdv A outer s H E).xe := passes_of (X := cxOf (L2.CX P w) P w K mg base n_numbers_error "numbers_error" (defScope s_numbers_error) f cdv A outer s H E) rfl
  exact (sb_cons (ss_set (i := 2) scN rfl (Or.inr rfl) (se_callB cd_len rfl T.n_len bt_len (sa_cons (se_ix (se_var 0) se_int) sa_nil)))
      (sb_cons (ss_if (PW.pt (sw_or (st_not (st_val (se_isi rfl T.n_isinstance bt_isinstance (se_var 1) rfl T.n_tuple bt_tuple))) (sw_or1 (st_cmp (od_ne hr.units) (se_callB cd_len rfl T.n_len bt_len (sa_cons (se_var 1) sa_nil)) (se_var 2) (nomark _))))) (sb_one (ss_ret se_str)) sb_nil)
      (sb_cons (ss_if (st_cmp (od_ne hr.units) (se_lc (own := [("item", 7)]) rfl scN (so_any (se_var 1)) (blkOk_by (own := [("item", 7)]) (N := n_numbers_error) (sc := (defScope s_numbers_error)) (by decide +kernel)) (by decide) (fun _ _ _ _ _ => (sg_name (i := 7) scN rfl (Or.inl rfl))) (fun _ _ _ _ _ => (pts_one (st_not (st_val (se_call H_is_within (hr.mono (by decide)) rfl passL (sa_cons (se_var 7) (sa_cons se_int (sa_cons (se_bin od_sub (se_var 2) se_int) sa_nil)))))))) (fun _ _ _ _ _ => (se_var 7))) (se_lst sa_nil) (nomark _)) (sb_one (ss_ret se_str)) sb_nil)
      (sb_cons (ss_for hpo rfl (so_enumT rfl T.n_enumerate (sa_cons (se_ix (se_var 0) se_int) sa_nil)) (sg_tup rfl (sgs_cons (sg_name (i := 3) scN rfl (Or.inl rfl)) (sgs_cons (sg_name (i := 4) scN rfl (Or.inl rfl)) sgs_nil))) (sb_one (ss_for hpo rfl (so_any (se_call H_places_in (hr.mono (by decide)) rfl hx (sa_cons (se_var 4) sa_nil))) (sg_name (i := 5) scN rfl (Or.inl rfl)) (sb_cons (ss_set (i := 6) scN rfl (Or.inr rfl) (se_ix (se_var 1) (se_ix (se_call H_wish (hr.mono (by decide)) rfl hx (sa_cons (se_var 4) (sa_cons (se_var 5) sa_nil))) se_int)))
      (sb_one (ss_if (st_cmp (od_ne hr.units) (se_lc (own := [("kept", 8)]) rfl scN (so_any (se_call H_rooms_held (hr.mono (by decide)) rfl hx (sa_cons (se_var 4) (sa_cons (se_var 5) sa_nil)))) (blkOk_by (own := [("kept", 8)]) (N := n_numbers_error) (sc := (defScope s_numbers_error)) (by decide +kernel)) (by decide) (fun _ _ _ _ _ => (sg_name (i := 8) scN rfl (Or.inl rfl))) (fun _ _ _ _ _ => (pts_one (st_cmp od_ge (se_ix (se_var 1) (se_var 8)) (se_var 6) (nomark _)))) (fun _ _ _ _ _ => (se_var 8))) (se_lst sa_nil) (nomark _)) (sb_one (ss_ret (se_tup (sa_cons se_str (sa_cons (se_var 3) (sa_cons (se_var 5) sa_nil)))))) sb_nil))))))
      (sb_one (ss_ret se_non))))))
theorem ok_rooms_left (T : Tx K mg cl) {f : Addr} {fd : FuncData} (F : Fun K "rooms_left" "rooms_left" s_rooms_left f fd) : FnOk P w K mg base (L2.CX P w) 1 f fd ["ahead"] (SpD K cl d_rooms_left) := by
  refine fn_ok F sc_rooms_left fun cdv A outer s H E hr => ?_
  have scN := sc_rooms_left.nd
  have tk := takes_of (X := cxOf (L2.CX P w) P w K mg base n_rooms_left "rooms_left" (defScope s_rooms_left) f cdv A outer s H E) (E := E) rfl rfl rfl rfl
  have hx := passes_call (E := E) tk (fun _ _ _ _ h => h)
  have hpo : PassesOwn (model P w) (cxOf (L2.CX P w) P w K mg base n_rooms_left "rooms_left" (defScope s_rooms_left) f cdv A outer s H E).A (cxOf (L2.CX P w) P w K mg base n_rooms_left "rooms_left" (defScope s_rooms_left) f cdv A outer s H E).env (cxOf (L2.CX P w) P w K mg base n_rooms_left "rooms_left" (defScope s_rooms_left) f cdv A outer s H E).xe := passes_of (X := cxOf (L2.CX P w) P w K mg base n_rooms_left "rooms_left" (defScope s_rooms_left) f cdv A outer s H E) rfl
  exact (sb_cons (ss_asg (se_tup (sa_cons se_non (sa_cons (se_listRg rfl rfl T.n_range rfl T.n_list (se_callB cd_len rfl T.n_len bt_len (sa_cons (se_var 0) sa_nil))) sa_nil))) (sg_tup rfl (sgs_cons (sg_name (i := 1) scN rfl (Or.inr rfl)) (sgs_cons (sg_name (i := 2) scN rfl (Or.inl rfl)) sgs_nil))))
      (sb_cons (ss_while hpo (st_cmp (od_ne hr.units) (se_var 2) (se_var 1) (nomark _)) (sb_cons (ss_set (i := 1) scN rfl (Or.inr rfl) (se_var 2))
      (sb_one (ss_setLc (own := [("room", 4)]) (i := 2) rfl scN rfl rfl (sw_true rfl rfl rfl (by decide +kernel)) (so_any (se_var 1)) (blkOk_by (own := [("room", 4)]) (N := n_rooms_left) (sc := (defScope s_rooms_left)) (by decide +kernel)) (by decide) (fun _ _ _ _ _ => (sg_name (i := 4) scN rfl (Or.inl rfl))) (fun _ _ _ _ _ => (pts_one (st_cmp (od_ne hr.units) (se_lc (own := [("one", 3)]) rfl scN (so_any (se_ix (se_var 0) (se_var 4))) (blkOk_by (own := [("one", 3)]) (N := n_rooms_left) (sc := (relS { kind := .function, names := [(".0", .local), ("room", .local), ("ahead", .free), ("left", .free)], isGenerator := false, isCoroutine := false, more := [] : Scope } (defScope s_rooms_left))) (by decide +kernel)) (by decide) (fun _ _ _ _ _ => (sg_name (i := 3) scN rfl (Or.inl rfl))) (fun _ _ _ _ _ => (pts_one (st_cmp (od_in hr.units) (se_var 3) (se_var 1) rfl))) (fun _ _ _ _ _ => (se_var 3))) (se_lst sa_nil) (nomark _)))) (fun _ _ _ _ _ => (se_var 4))))))
      (sb_one (ss_ret (se_var 1)))))
theorem ok_room_round (T : Tx K mg cl) {f : Addr} {fd : FuncData} (F : Fun K "room_round" "room_round" s_room_round f fd) (H_rooms_ahead : Has P w K mg base cl "rooms_ahead" 4 d_rooms_ahead) (H_rooms_left : Has P w K mg base cl "rooms_left" 1 d_rooms_left) : FnOk P w K mg base (L2.CX P w) 5 f fd ["house"] (SpD K cl d_room_round) := by
  refine fn_ok F sc_room_round fun cdv A outer s H E hr => ?_
  have scN := sc_room_round.nd
  have tk := takes_of (X := cxOf (L2.CX P w) P w K mg base n_room_round "room_round" (defScope s_room_round) f cdv A outer s H E) (E := E) rfl rfl rfl rfl
  have hx := passes_call (E := E) tk (fun _ _ _ _ h => h)
  have hpo : PassesOwn (model P w) (cxOf (L2.CX P w) P w K mg base n_room_round "room_round" (defScope s_room_round) f cdv A outer s H E).A (cxOf (L2.CX P w) P w K mg base n_room_round "room_round" (defScope s_room_round) f cdv A outer s H E).env (cxOf (L2.CX P w) P w K mg base n_room_round "room_round" (defScope s_room_round) f cdv A outer s H E).xe := passes_of (X := cxOf (L2.CX P w) P w K mg base n_room_round "room_round" (defScope s_room_round) f cdv A outer s H E) rfl
  exact (sb_cons (ss_set (i := 1) scN rfl (Or.inl rfl) (se_call H_rooms_ahead (hr.mono (by decide)) rfl hx (sa_cons (se_var 0) sa_nil)))
      (sb_cons (ss_set (i := 2) scN rfl (Or.inr rfl) (se_call H_rooms_left (hr.mono (by decide)) rfl hx (sa_cons (se_var 1) sa_nil)))
      (sb_cons (ss_if (st_cmp (od_eq hr.units) (se_var 2) (se_lst sa_nil) (nomark _)) (sb_one (ss_ret se_non)) sb_nil)
      (sb_cons (ss_par (i := 3) (j := 4) rfl scN rfl rfl (by decide) rfl rfl (sa_cons (se_lst sa_nil) (sa_cons (se_ix (se_var 2) se_int) sa_nil)) (by rfl))
      (sb_cons (ss_while hpo (st_cmp (od_notIn hr.units) (se_var 4) (se_var 3) rfl) (sb_cons (ss_expr (se_mth PySem.F.slot_list_append PySem.F.type_list_append md_append (se_var 3) (sa_cons (se_var 4) sa_nil)))
      (sb_one (ss_set (i := 4) scN rfl (Or.inl rfl) (se_ix (se_lc (own := [("one", 5)]) rfl scN (so_any (se_ix (se_var 1) (se_var 4))) (blkOk_by (own := [("one", 5)]) (N := n_room_round) (sc := (defScope s_room_round)) (by decide +kernel)) (by decide) (fun _ _ _ _ _ => (sg_name (i := 5) scN rfl (Or.inl rfl))) (fun _ _ _ _ _ => (pts_one (st_cmp (od_in hr.units) (se_var 5) (se_var 2) rfl))) (fun _ _ _ _ _ => (se_var 5))) se_int)))))
      (sb_one (ss_ret (se_callTy cd_tuple rfl T.n_tuple bt_tuple (sa_cons (se_revL (se_sl (se_var 3) (so_some (se_mth PySem.F.slot_list_index PySem.F.type_list_index md_index (se_var 3) (sa_cons (se_var 4) sa_nil))) so_none)) sa_nil)))))))))
theorem ok_is_form_of_round (T : Tx K mg cl) {f : Addr} {fd : FuncData} (F : Fun K "is_form_of_round" "is_form_of_round" s_is_form_of_round f fd) (H_is_within : Has P w K mg base cl "is_within" 2 d_is_within) : FnOk P w K mg base (L2.CX P w) 3 f fd ["house", "value"] (SpD K cl d_is_form_of_round) := by
  refine fn_ok F sc_is_form_of_round fun cdv A outer s H E hr => ?_
  have scN := sc_is_form_of_round.nd
  have tk := takes_of (X := cxOf (L2.CX P w) P w K mg base n_is_form_of_round "is_form_of_round" (defScope s_is_form_of_round) f cdv A outer s H E) (E := E) rfl rfl rfl rfl
  have hx := passes_call (E := E) tk (fun _ _ _ _ h => h)
  have hpo : PassesOwn (model P w) (cxOf (L2.CX P w) P w K mg base n_is_form_of_round "is_form_of_round" (defScope s_is_form_of_round) f cdv A outer s H E).A (cxOf (L2.CX P w) P w K mg base n_is_form_of_round "is_form_of_round" (defScope s_is_form_of_round) f cdv A outer s H E).env (cxOf (L2.CX P w) P w K mg base n_is_form_of_round "is_form_of_round" (defScope s_is_form_of_round) f cdv A outer s H E).xe := passes_of (X := cxOf (L2.CX P w) P w K mg base n_is_form_of_round "is_form_of_round" (defScope s_is_form_of_round) f cdv A outer s H E) rfl
  exact (sb_cons (ss_if (PW.pt (sw_or (st_not (st_val (se_isi rfl T.n_isinstance bt_isinstance (se_var 1) rfl T.n_tuple bt_tuple))) (sw_or1 (st_cmp od_lt (se_callB cd_len rfl T.n_len bt_len (sa_cons (se_var 1) sa_nil)) se_int (nomark _))))) (sb_one (ss_ret se_bl)) sb_nil)
      (sb_cons (ss_if (st_cmp (od_ne hr.units) (se_lc (own := [("item", 2)]) rfl scN (so_any (se_var 1)) (blkOk_by (own := [("item", 2)]) (N := n_is_form_of_round) (sc := (defScope s_is_form_of_round)) (by decide +kernel)) (by decide) (fun _ _ _ _ _ => (sg_name (i := 2) scN rfl (Or.inl rfl))) (fun _ _ _ _ _ => (pts_one (st_not (st_val (se_call H_is_within (hr.mono (by decide)) rfl passL (sa_cons (se_var 2) (sa_cons se_int (sa_cons (se_bin od_sub (se_callB cd_len rfl T.n_len bt_len (sa_cons (se_ix (se_var 0) se_int) sa_nil)) se_int) sa_nil)))))))) (fun _ _ _ _ _ => (se_var 2))) (se_lst sa_nil) (nomark _)) (sb_one (ss_ret se_bl)) sb_nil)
      (sb_one (ss_ret (se_cmp (od_eq hr.units) (se_lenSet rfl rfl T.n_len rfl T.n_set (se_var 1)) (se_callB cd_len rfl T.n_len bt_len (sa_cons (se_var 1) sa_nil)) (nomark _))))))
theorem ok_round_error (T : Tx K mg cl) {f : Addr} {fd : FuncData} (F : Fun K "round_error" "round_error" s_round_error f fd) (H_is_entered : Has P w K mg base cl "is_entered" 3 d_is_entered) (H_is_form_of_round : Has P w K mg base cl "is_form_of_round" 3 d_is_form_of_round) : FnOk P w K mg base (L2.CX P w) 4 f fd ["house", "value"] (SpD K cl d_round_error) := by
  refine fn_ok F sc_round_error fun cdv A outer s H E hr => ?_
  have scN := sc_round_error.nd
  have tk := takes_of (X := cxOf (L2.CX P w) P w K mg base n_round_error "round_error" (defScope s_round_error) f cdv A outer s H E) (E := E) rfl rfl rfl rfl
  have hx := passes_call (E := E) tk (fun _ _ _ _ h => h)
  have hpo : PassesOwn (model P w) (cxOf (L2.CX P w) P w K mg base n_round_error "round_error" (defScope s_round_error) f cdv A outer s H E).A (cxOf (L2.CX P w) P w K mg base n_round_error "round_error" (defScope s_round_error) f cdv A outer s H E).env (cxOf (L2.CX P w) P w K mg base n_round_error "round_error" (defScope s_round_error) f cdv A outer s H E).xe := passes_of (X := cxOf (L2.CX P w) P w K mg base n_round_error "round_error" (defScope s_round_error) f cdv A outer s H E) rfl
  exact (sb_cons (ss_if (st_not (st_val (se_call H_is_form_of_round (hr.mono (by decide)) rfl hx (sa_cons (se_var 0) (sa_cons (se_var 1) sa_nil))))) (sb_one (ss_ret se_str)) sb_nil)
      (sb_cons (ss_for hpo rfl (so_enumA rfl T.n_enumerate (sa_cons (se_var 1) sa_nil)) (sg_tup rfl (sgs_cons (sg_name (i := 2) scN rfl (Or.inl rfl)) (sgs_cons (sg_name (i := 3) scN rfl (Or.inl rfl)) sgs_nil))) (sb_one (ss_if (st_not (st_val (se_call H_is_entered (hr.mono (by decide)) rfl hx (sa_cons (se_var 0) (sa_cons (se_ix (se_var 1) (se_bin od_sub (se_var 2) se_int)) (sa_cons (se_var 3) sa_nil)))))) (sb_one (ss_ret (se_tup (sa_cons se_str (sa_cons (se_var 2) sa_nil))))) sb_nil)))
      (sb_one (ss_ret se_non))))
theorem ok_notify_one (T : Tx K mg cl) {f : Addr} {fd : FuncData} (F : Fun K "notify_one" "notify_one" s_notify_one f fd) : FnOk P w K mg base (L2.CX P w) 1 f fd [] (SpD K cl d_notify_one) := by
  refine fn_ok F sc_notify_one fun cdv A outer s H E hr => ?_
  have scN := sc_notify_one.nd
  have tk := takes_of (X := cxOf (L2.CX P w) P w K mg base n_notify_one "notify_one" (defScope s_notify_one) f cdv A outer s H E) (E := E) rfl rfl rfl rfl
  have hx := passes_call (E := E) tk (fun _ _ _ _ h => h)
  have hpo : PassesOwn (model P w) (cxOf (L2.CX P w) P w K mg base n_notify_one "notify_one" (defScope s_notify_one) f cdv A outer s H E).A (cxOf (L2.CX P w) P w K mg base n_notify_one "notify_one" (defScope s_notify_one) f cdv A outer s H E).env (cxOf (L2.CX P w) P w K mg base n_notify_one "notify_one" (defScope s_notify_one) f cdv A outer s H E).xe := passes_of (X := cxOf (L2.CX P w) P w K mg base n_notify_one "notify_one" (defScope s_notify_one) f cdv A outer s H E) rfl
  exact (sb_one (ss_ret (se_tup (sa_cons se_str (sa_cons se_str (sa_cons se_str (sa_cons se_str (sa_cons se_str (sa_cons se_str (sa_cons se_str (sa_cons se_str (sa_cons se_str (sa_cons se_str sa_nil)))))))))))))
theorem ok_fair (T : Tx K mg cl) {f : Addr} {fd : FuncData} (F : Fun K "fair" "fair" s_fair f fd) : FnOk P w K mg base (L2.CX P w) 1 f fd [] (SpD K cl d_fair) := by
  refine fn_ok F sc_fair fun cdv A outer s H E hr => ?_
  have scN := sc_fair.nd
  have tk := takes_of (X := cxOf (L2.CX P w) P w K mg base n_fair "fair" (defScope s_fair) f cdv A outer s H E) (E := E) rfl rfl rfl rfl
  have hx := passes_call (E := E) tk (fun _ _ _ _ h => h)
  have hpo : PassesOwn (model P w) (cxOf (L2.CX P w) P w K mg base n_fair "fair" (defScope s_fair) f cdv A outer s H E).A (cxOf (L2.CX P w) P w K mg base n_fair "fair" (defScope s_fair) f cdv A outer s H E).env (cxOf (L2.CX P w) P w K mg base n_fair "fair" (defScope s_fair) f cdv A outer s H E).xe := passes_of (X := cxOf (L2.CX P w) P w K mg base n_fair "fair" (defScope s_fair) f cdv A outer s H E) rfl
  exact (sb_one (ss_ret (se_tup (sa_cons se_str (sa_cons se_str (sa_cons se_str (sa_cons se_str (sa_cons se_str (sa_cons se_str (sa_cons se_str (sa_cons se_str (sa_cons se_str (sa_cons se_str sa_nil)))))))))))))
theorem ok_law_own_bag (T : Tx K mg cl) {f : Addr} {fd : FuncData} (F : Fun K "_law_own_bag" "_law_own_bag" s_law_own_bag f fd) : FnOk P w K mg base (L2.CX P w) 1 f fd ["script"] (SpD K cl d_law_own_bag) := by
  refine fn_ok F sc_law_own_bag fun cdv A outer s H E hr => ?_
  have scN := sc_law_own_bag.nd
  have tk := takes_of (X := cxOf (L2.CX P w) P w K mg base n_law_own_bag "_law_own_bag" (defScope s_law_own_bag) f cdv A outer s H E) (E := E) rfl rfl rfl rfl
  have hx := passes_call (E := E) tk (fun _ _ _ _ h => h)
  have hpo : PassesOwn (model P w) (cxOf (L2.CX P w) P w K mg base n_law_own_bag "_law_own_bag" (defScope s_law_own_bag) f cdv A outer s H E).A (cxOf (L2.CX P w) P w K mg base n_law_own_bag "_law_own_bag" (defScope s_law_own_bag) f cdv A outer s H E).env (cxOf (L2.CX P w) P w K mg base n_law_own_bag "_law_own_bag" (defScope s_law_own_bag) f cdv A outer s H E).xe := passes_of (X := cxOf (L2.CX P w) P w K mg base n_law_own_bag "_law_own_bag" (defScope s_law_own_bag) f cdv A outer s H E) rfl
  exact (sb_cons (ss_setLc (own := [("cell", 1)]) (i := 2) rfl scN rfl rfl (sw_true rfl rfl rfl (by decide +kernel)) (so_any (se_sl (se_var 0) so_none (so_some se_int))) (blkOk_by (own := [("cell", 1)]) (N := n_law_own_bag) (sc := (defScope s_law_own_bag)) (by decide +kernel)) (by decide) (fun _ _ _ _ _ => (sg_name (i := 1) scN rfl (Or.inl rfl))) (fun _ _ _ _ _ => pts_yes) (fun _ _ _ _ _ => (se_callB cd_abs rfl T.n_abs bt_abs (sa_cons (se_var 1) sa_nil))))
      (sb_cons (ss_set (i := 3) scN rfl (Or.inl rfl) (se_bin od_add se_int (se_callB cd_len rfl T.n_len bt_len (sa_cons (se_var 2) sa_nil))))
      (sb_cons (ss_for hpo rfl (so_any (se_var 2)) (sg_name (i := 1) scN rfl (Or.inl rfl)) (sb_one (ss_set (i := 3) scN rfl (Or.inl rfl) (se_bin od_mod (se_bin od_add (se_bin od_add (se_bin od_mul (se_var 3) se_int) (se_bin od_mod (se_var 1) se_int)) se_int) se_int))))
      (sb_one (ss_ret (se_lst (sa_cons (se_listRev rfl rfl T.n_list rfl T.n_reversed (se_var 2)) (sa_cons se_int (sa_cons (se_var 3) sa_nil)))))))))
theorem ok_law_draw (T : Tx K mg cl) {f : Addr} {fd : FuncData} (F : Fun K "_law_draw" "_law_draw" s_law_draw f fd) : FnOk P w K mg base (L2.CX P w) 1 f fd ["bag", "below"] (SpD K cl d_law_draw) := by
  refine fn_ok F sc_law_draw fun cdv A outer s H E hr => ?_
  have scN := sc_law_draw.nd
  have tk := takes_of (X := cxOf (L2.CX P w) P w K mg base n_law_draw "_law_draw" (defScope s_law_draw) f cdv A outer s H E) (E := E) rfl rfl rfl rfl
  have hx := passes_call (E := E) tk (fun _ _ _ _ h => h)
  have hpo : PassesOwn (model P w) (cxOf (L2.CX P w) P w K mg base n_law_draw "_law_draw" (defScope s_law_draw) f cdv A outer s H E).A (cxOf (L2.CX P w) P w K mg base n_law_draw "_law_draw" (defScope s_law_draw) f cdv A outer s H E).env (cxOf (L2.CX P w) P w K mg base n_law_draw "_law_draw" (defScope s_law_draw) f cdv A outer s H E).xe := passes_of (X := cxOf (L2.CX P w) P w K mg base n_law_draw "_law_draw" (defScope s_law_draw) f cdv A outer s H E) rfl
  exact (sb_cons (ss_while hpo (PW.pt (sw_and (st_cmp (od_eq hr.units) (se_ix (se_var 0) se_int) se_int (nomark _)) (sw_and1 (st_cmp (od_ne hr.units) (se_ix (se_var 0) se_int) (se_lst sa_nil) (nomark _))))) (sb_cons (ss_set (i := 2) scN rfl (Or.inl rfl) (se_mth0 PySem.F.slot_list_pop PySem.F.type_list_pop md_pop (se_ix (se_var 0) se_int)))
      (sb_one (ss_iput hr.units (se_var 0) se_int (se_if (st_cmp od_gt (se_var 2) (se_bin od_pow se_int se_int) (nomark _)) (se_var 2) se_int)))))
      (sb_cons (ss_if (st_cmp od_gt (se_ix (se_var 0) se_int) se_int (nomark _)) (sb_cons (ss_set (i := 3) scN rfl (Or.inl rfl) (se_bin od_mod (se_ix (se_var 0) se_int) (se_var 1)))
      (sb_cons (ss_iput hr.units (se_var 0) se_int (se_bin od_fdiv (se_ix (se_var 0) se_int) (se_var 1)))
      (sb_one (ss_ret (se_var 3))))) sb_nil)
      (sb_cons (ss_iput hr.units (se_var 0) se_int (se_bin od_mod (se_bin od_add (se_bin od_mul (se_ix (se_var 0) se_int) se_int) se_int) se_int))
      (sb_one (ss_ret (se_bin od_mod (se_bin od_fdiv (se_bin od_mod (se_bin od_mul (se_ix (se_var 0) se_int) (se_ix (se_var 0) se_int)) se_int) se_int) (se_var 1)))))))
theorem ok_law_pick (T : Tx K mg cl) {f : Addr} {fd : FuncData} (F : Fun K "_law_pick" "_law_pick" s_law_pick f fd) (H_law_draw : Has P w K mg base cl "_law_draw" 1 d_law_draw) : FnOk P w K mg base (L2.CX P w) 2 f fd ["bag", "some"] (SpD K cl d_law_pick) := by
  refine fn_ok F sc_law_pick fun cdv A outer s H E hr => ?_
  have scN := sc_law_pick.nd
  have tk := takes_of (X := cxOf (L2.CX P w) P w K mg base n_law_pick "_law_pick" (defScope s_law_pick) f cdv A outer s H E) (E := E) rfl rfl rfl rfl
  have hx := passes_call (E := E) tk (fun _ _ _ _ h => h)
  have hpo : PassesOwn (model P w) (cxOf (L2.CX P w) P w K mg base n_law_pick "_law_pick" (defScope s_law_pick) f cdv A outer s H E).A (cxOf (L2.CX P w) P w K mg base n_law_pick "_law_pick" (defScope s_law_pick) f cdv A outer s H E).env (cxOf (L2.CX P w) P w K mg base n_law_pick "_law_pick" (defScope s_law_pick) f cdv A outer s H E).xe := passes_of (X := cxOf (L2.CX P w) P w K mg base n_law_pick "_law_pick" (defScope s_law_pick) f cdv A outer s H E) rfl
  exact (sb_one (ss_ret (se_ix (se_var 1) (se_call H_law_draw (hr.mono (by decide)) rfl hx (sa_cons (se_var 0) (sa_cons (se_callB cd_len rfl T.n_len bt_len (sa_cons (se_var 1) sa_nil)) sa_nil))))))
theorem ok_law_own_way (T : Tx K mg cl) {f : Addr} {fd : FuncData} (F : Fun K "_law_own_way" "_law_own_way" s_law_own_way f fd) (H_law_draw : Has P w K mg base cl "_law_draw" 1 d_law_draw) (H_law_pick : Has P w K mg base cl "_law_pick" 2 d_law_pick) : FnOk P w K mg base (L2.CX P w) 3 f fd ["bag", "rooms", "most", "kinds"] (SpD K cl d_law_own_way) := by
  refine fn_ok F sc_law_own_way fun cdv A outer s H E hr => ?_
  have scN := sc_law_own_way.nd
  have tk := takes_of (X := cxOf (L2.CX P w) P w K mg base n_law_own_way "_law_own_way" (defScope s_law_own_way) f cdv A outer s H E) (E := E) rfl rfl rfl rfl
  have hx := passes_call (E := E) tk (fun _ _ _ _ h => h)
  have hpo : PassesOwn (model P w) (cxOf (L2.CX P w) P w K mg base n_law_own_way "_law_own_way" (defScope s_law_own_way) f cdv A outer s H E).A (cxOf (L2.CX P w) P w K mg base n_law_own_way "_law_own_way" (defScope s_law_own_way) f cdv A outer s H E).env (cxOf (L2.CX P w) P w K mg base n_law_own_way "_law_own_way" (defScope s_law_own_way) f cdv A outer s H E).xe := passes_of (X := cxOf (L2.CX P w) P w K mg base n_law_own_way "_law_own_way" (defScope s_law_own_way) f cdv A outer s H E) rfl
  exact (sb_cons (ss_asg (se_tup (sa_cons (se_lst sa_nil) (sa_cons (se_lst sa_nil) sa_nil))) (sg_tup rfl (sgs_cons (sg_name (i := 4) scN rfl (Or.inr rfl)) (sgs_cons (sg_name (i := 5) scN rfl (Or.inl rfl)) sgs_nil))))
      (sb_cons (ss_while hpo (PW.pt (sw_or (st_cmp (od_eq hr.units) (se_var 5) (se_lst sa_nil) (nomark _)) (sw_or (st_cmp (od_ne hr.units) (se_var 4) (se_lst sa_nil) (nomark _)) (sw_or1 (PW.pt (sw_and (st_cmp od_le (se_bin od_add (se_callB cd_len rfl T.n_len bt_len (sa_cons (se_var 5) sa_nil)) se_int) (se_var 2) (nomark _)) (sw_and1 (st_cmp od_gt (se_call H_law_draw (hr.mono (by decide)) rfl hx (sa_cons (se_var 0) (sa_cons se_int sa_nil))) se_int (nomark _))))))))) (sb_cons (ss_setLc (own := [("room", 10)]) (i := 6) rfl scN rfl rfl (sw_true rfl rfl rfl (by decide +kernel)) (so_any (se_var 1)) (blkOk_by (own := [("room", 10)]) (N := n_law_own_way) (sc := (defScope s_law_own_way)) (by decide +kernel)) (by decide) (fun _ _ _ _ _ => (sg_name (i := 10) scN rfl (Or.inl rfl))) (fun _ _ _ _ _ => (pts_one (st_cmp (od_notIn hr.units) (se_var 10) (se_var 4) rfl))) (fun _ _ _ _ _ => (se_var 10)))
      (sb_cons (ss_set (i := 7) scN rfl (Or.inl rfl) (se_and (se_cmp (od_ne hr.units) (se_var 6) (se_lst sa_nil) (nomark _)) (se_and (se_cmp od_lt (se_callB cd_len rfl T.n_len bt_len (sa_cons (se_var 4) sa_nil)) se_int (nomark _)) (se_one (se_cmp od_le (se_bin od_add (se_bin od_add (se_callB cd_len rfl T.n_len bt_len (sa_cons (se_var 5) sa_nil)) (se_callB cd_len rfl T.n_len bt_len (sa_cons (se_var 4) sa_nil))) se_int) (se_var 2) (nomark _))))))
      (sb_one (ss_if (PW.pt (sw_and (st_val (se_var 7)) (sw_and1 (PW.pt (sw_or (st_cmp (od_eq hr.units) (se_var 4) (se_lst sa_nil) (nomark _)) (sw_or1 (st_cmp od_gt (se_call H_law_draw (hr.mono (by decide)) rfl hx (sa_cons (se_var 0) (sa_cons se_int sa_nil))) se_int (nomark _)))))))) (sb_cons (ss_set (i := 8) scN rfl (Or.inl rfl) (se_if (st_cmp od_lt (se_call H_law_draw (hr.mono (by decide)) rfl hx (sa_cons (se_var 0) (sa_cons se_int sa_nil))) (se_ix (se_var 3) se_int) (nomark _)) se_str se_str))
      (sb_cons (ss_set (i := 9) scN rfl (Or.inl rfl) (se_if (st_cmp od_lt (se_call H_law_draw (hr.mono (by decide)) rfl hx (sa_cons (se_var 0) (sa_cons se_int sa_nil))) (se_ix (se_var 3) se_int) (nomark _)) se_str se_str))
      (sb_cons (ss_expr (se_mth PySem.F.slot_list_append PySem.F.type_list_append md_append (se_var 4) (sa_cons (se_call H_law_pick (hr.mono (by decide)) rfl hx (sa_cons (se_var 0) (sa_cons (se_var 6) sa_nil))) sa_nil)))
      (sb_one (ss_expr (se_mth PySem.F.slot_list_append PySem.F.type_list_append md_append (se_var 5) (sa_cons (se_tup (sa_cons (se_var 8) (sa_cons (se_ix (se_var 4) (se_neg se_int)) (sa_cons (se_var 9) sa_nil)))) sa_nil))))))) (sb_one (ss_expr (se_mth PySem.F.slot_list_append PySem.F.type_list_append md_append (se_var 5) (sa_cons (se_tup (sa_cons se_str (sa_cons (se_mth0 PySem.F.slot_list_pop PySem.F.type_list_pop md_pop (se_var 4)) sa_nil))) sa_nil)))))))))
      (sb_one (ss_ret (se_callTy cd_tuple rfl T.n_tuple bt_tuple (sa_cons (se_var 5) sa_nil))))))
theorem ok_law_held (T : Tx K mg cl) {f : Addr} {fd : FuncData} (F : Fun K "_law_held" "_law_held" s_law_held f fd) : FnOk P w K mg base (L2.CX P w) 1 f fd ["way", "place"] (SpD K cl d_law_held) := by
  refine fn_ok F sc_law_held fun cdv A outer s H E hr => ?_
  have scN := sc_law_held.nd
  have tk := takes_of (X := cxOf (L2.CX P w) P w K mg base n_law_held "_law_held" (defScope s_law_held) f cdv A outer s H E) (E := E) rfl rfl rfl rfl
  have hx := passes_call (E := E) tk (fun _ _ _ _ h => h)
  have hpo : PassesOwn (model P w) (cxOf (L2.CX P w) P w K mg base n_law_held "_law_held" (defScope s_law_held) f cdv A outer s H E).A (cxOf (L2.CX P w) P w K mg base n_law_held "_law_held" (defScope s_law_held) f cdv A outer s H E).env (cxOf (L2.CX P w) P w K mg base n_law_held "_law_held" (defScope s_law_held) f cdv A outer s H E).xe := passes_of (X := cxOf (L2.CX P w) P w K mg base n_law_held "_law_held" (defScope s_law_held) f cdv A outer s H E) rfl
  exact (sb_cons (ss_set (i := 2) scN rfl (Or.inl rfl) (se_lst sa_nil))
      (sb_cons (ss_for hpo rfl (so_any (se_sl (se_var 0) so_none (so_some (se_var 1)))) (sg_name (i := 3) scN rfl (Or.inl rfl)) (sb_one (ss_if (st_cmp (od_eq hr.units) (se_ix (se_var 3) se_int) se_str (nomark _)) (sb_one (ss_expr (se_mth0 PySem.F.slot_list_pop PySem.F.type_list_pop md_pop (se_var 2)))) (sb_one (ss_expr (se_mth PySem.F.slot_list_append PySem.F.type_list_append md_append (se_var 2) (sa_cons (se_sl (se_var 3) (so_some se_int) so_none) sa_nil)))))))
      (sb_one (ss_ret (se_var 2)))))
theorem ok_law_own_house (T : Tx K mg cl) {f : Addr} {fd : FuncData} (F : Fun K "_law_own_house" "_law_own_house" s_law_own_house f fd) (H_law_own_way : Has P w K mg base cl "_law_own_way" 3 d_law_own_way) : FnOk P w K mg base (L2.CX P w) 4 f fd ["bag", "hands", "many", "most", "kinds"] (SpD K cl d_law_own_house) := by
  refine fn_ok F sc_law_own_house fun cdv A outer s H E hr => ?_
  have scN := sc_law_own_house.nd
  have tk := takes_of (X := cxOf (L2.CX P w) P w K mg base n_law_own_house "_law_own_house" (defScope s_law_own_house) f cdv A outer s H E) (E := E) rfl rfl rfl rfl
  have hx := passes_call (E := E) tk (fun _ _ _ _ h => h)
  have hpo : PassesOwn (model P w) (cxOf (L2.CX P w) P w K mg base n_law_own_house "_law_own_house" (defScope s_law_own_house) f cdv A outer s H E).A (cxOf (L2.CX P w) P w K mg base n_law_own_house "_law_own_house" (defScope s_law_own_house) f cdv A outer s H E).env (cxOf (L2.CX P w) P w K mg base n_law_own_house "_law_own_house" (defScope s_law_own_house) f cdv A outer s H E).xe := passes_of (X := cxOf (L2.CX P w) P w K mg base n_law_own_house "_law_own_house" (defScope s_law_own_house) f cdv A outer s H E) rfl
  exact (sb_cons (ss_set (i := 5) scN rfl (Or.inl rfl) (se_callTy cd_tuple rfl T.n_tuple bt_tuple (sa_cons (se_lc (own := [("hand", 6)]) rfl scN (so_range1 rfl T.n_range (sa_cons (se_var 1) sa_nil)) (blkOk_by (own := [("hand", 6)]) (N := n_law_own_house) (sc := (defScope s_law_own_house)) (by decide +kernel)) (by decide) (fun _ _ _ _ _ => (sg_name (i := 6) scN rfl (Or.inl rfl))) (fun _ _ _ _ _ => pts_yes) (fun _ _ _ _ _ => (se_call H_law_own_way (hr.mono (by decide)) rfl passL (sa_cons (se_var 0) (sa_cons (se_listRg rfl rfl T.n_range rfl T.n_list (se_var 2)) (sa_cons (se_var 3) (sa_cons (se_var 4) sa_nil))))))) sa_nil)))
      (sb_one (ss_ret (se_tup (sa_cons (se_bin od_mul (se_tup (sa_cons (se_tup (sa_cons se_str (sa_cons se_non sa_nil))) sa_nil)) (se_var 2)) (sa_cons (se_var 5) sa_nil))))))
theorem ok_law_crossed (T : Tx K mg cl) {f : Addr} {fd : FuncData} (F : Fun K "_law_crossed" "_law_crossed" s_law_crossed f fd) (H_law_draw : Has P w K mg base cl "_law_draw" 1 d_law_draw) : FnOk P w K mg base (L2.CX P w) 2 f fd ["bag", "hands", "kinds"] (SpD K cl d_law_crossed) := by
  refine fn_ok F sc_law_crossed fun cdv A outer s H E hr => ?_
  have scN := sc_law_crossed.nd
  have tk := takes_of (X := cxOf (L2.CX P w) P w K mg base n_law_crossed "_law_crossed" (defScope s_law_crossed) f cdv A outer s H E) (E := E) rfl rfl rfl rfl
  have hx := passes_call (E := E) tk (fun _ _ _ _ h => h)
  have hpo : PassesOwn (model P w) (cxOf (L2.CX P w) P w K mg base n_law_crossed "_law_crossed" (defScope s_law_crossed) f cdv A outer s H E).A (cxOf (L2.CX P w) P w K mg base n_law_crossed "_law_crossed" (defScope s_law_crossed) f cdv A outer s H E).env (cxOf (L2.CX P w) P w K mg base n_law_crossed "_law_crossed" (defScope s_law_crossed) f cdv A outer s H E).xe := passes_of (X := cxOf (L2.CX P w) P w K mg base n_law_crossed "_law_crossed" (defScope s_law_crossed) f cdv A outer s H E) rfl
  exact (sb_cons (ss_set (i := 3) scN rfl (Or.inl rfl) (se_lst sa_nil))
      (sb_cons (ss_for hpo rfl (so_range1 rfl T.n_range (sa_cons (se_var 1) sa_nil)) (sg_name (i := 4) scN rfl (Or.inl rfl)) (sb_cons (ss_set (i := 5) scN rfl (Or.inl rfl) (se_lst (sa_cons (se_var 4) (sa_cons (se_bin od_mod (se_bin od_add (se_var 4) se_int) (se_var 1)) sa_nil))))
      (sb_cons (ss_if (st_cmp (od_eq hr.units) (se_call H_law_draw (hr.mono (by decide)) rfl hx (sa_cons (se_var 0) (sa_cons se_int sa_nil))) se_int (nomark _)) (sb_one (ss_expr (se_mth0 PySem.F.slot_list_reverse PySem.F.type_list_reverse md_reverse (se_var 5)))) sb_nil)
      (sb_cons (ss_if (st_cmp (od_eq hr.units) (se_call H_law_draw (hr.mono (by decide)) rfl hx (sa_cons (se_var 0) (sa_cons se_int sa_nil))) se_int (nomark _)) (sb_one (ss_set (i := 5) scN rfl (Or.inl rfl) (se_bin od_add (se_lst (sa_cons (se_var 1) sa_nil)) (se_var 5)))) sb_nil)
      (sb_cons (ss_set (i := 6) scN rfl (Or.inl rfl) (se_lst sa_nil))
      (sb_cons (ss_for hpo rfl (so_any (se_var 5)) (sg_name (i := 7) scN rfl (Or.inl rfl)) (sb_cons (ss_set (i := 8) scN rfl (Or.inl rfl) (se_if (PW.pt (sw_and (st_cmp od_lt (se_call H_law_draw (hr.mono (by decide)) rfl hx (sa_cons (se_var 0) (sa_cons se_int sa_nil))) (se_ix (se_var 2) se_int) (nomark _)) (sw_and1 (st_cmp (od_ne hr.units) (se_var 6) (se_lst sa_nil) (nomark _))))) se_str se_str))
      (sb_one (ss_expr (se_mth PySem.F.slot_list_append PySem.F.type_list_append md_append (se_var 6) (sa_cons (se_tup (sa_cons (se_var 8) (sa_cons (se_var 7) (sa_cons (se_if (st_cmp od_lt (se_call H_law_draw (hr.mono (by decide)) rfl hx (sa_cons (se_var 0) (sa_cons se_int sa_nil))) (se_ix (se_var 2) se_int) (nomark _)) se_str se_str) sa_nil)))) sa_nil))))))
      (sb_cons (ss_expr (se_mth PySem.F.slot_list_extend PySem.F.type_list_extend md_extend (se_var 6) (sa_cons (se_lc (own := [("room", 7)]) rfl scN (so_rev rfl T.n_reversed (se_var 5)) (blkOk_by (own := [("room", 7)]) (N := n_law_crossed) (sc := (defScope s_law_crossed)) (by decide +kernel)) (by decide) (fun _ _ _ _ _ => (sg_name (i := 7) scN rfl (Or.inl rfl))) (fun _ _ _ _ _ => pts_yes) (fun _ _ _ _ _ => (se_tup (sa_cons se_str (sa_cons (se_var 7) sa_nil))))) sa_nil)))
      (sb_one (ss_expr (se_mth PySem.F.slot_list_append PySem.F.type_list_append md_append (se_var 3) (sa_cons (se_callTy cd_tuple rfl T.n_tuple bt_tuple (sa_cons (se_var 6) sa_nil)) sa_nil)))))))))))
      (sb_one (ss_ret (se_tup (sa_cons (se_bin od_mul (se_tup (sa_cons (se_tup (sa_cons se_str (sa_cons se_non sa_nil))) sa_nil)) (se_bin od_add (se_var 1) se_int)) (sa_cons (se_callTy cd_tuple rfl T.n_tuple bt_tuple (sa_cons (se_var 3) sa_nil)) sa_nil)))))))
theorem ok_law_door (T : Tx K mg cl) {f : Addr} {fd : FuncData} (F : Fun K "_law_door" "_law_door" s_law_door f fd) (H_law_draw : Has P w K mg base cl "_law_draw" 1 d_law_draw) (H_law_pick : Has P w K mg base cl "_law_pick" 2 d_law_pick) : FnOk P w K mg base (L2.CX P w) 3 f fd ["bag", "hands"] (SpD K cl d_law_door) := by
  refine fn_ok F sc_law_door fun cdv A outer s H E hr => ?_
  have scN := sc_law_door.nd
  have tk := takes_of (X := cxOf (L2.CX P w) P w K mg base n_law_door "_law_door" (defScope s_law_door) f cdv A outer s H E) (E := E) rfl rfl rfl rfl
  have hx := passes_call (E := E) tk (fun _ _ _ _ h => h)
  have hpo : PassesOwn (model P w) (cxOf (L2.CX P w) P w K mg base n_law_door "_law_door" (defScope s_law_door) f cdv A outer s H E).A (cxOf (L2.CX P w) P w K mg base n_law_door "_law_door" (defScope s_law_door) f cdv A outer s H E).env (cxOf (L2.CX P w) P w K mg base n_law_door "_law_door" (defScope s_law_door) f cdv A outer s H E).xe := passes_of (X := cxOf (L2.CX P w) P w K mg base n_law_door "_law_door" (defScope s_law_door) f cdv A outer s H E) rfl
  exact (sb_cons (ss_setLc (own := [("hand", 9)]) (i := 2) rfl scN rfl rfl (sw_true rfl rfl rfl (by decide +kernel)) (so_range1 rfl T.n_range (sa_cons (se_var 1) sa_nil)) (blkOk_by (own := [("hand", 9)]) (N := n_law_door) (sc := (defScope s_law_door)) (by decide +kernel)) (by decide) (fun _ _ _ _ _ => (sg_name (i := 9) scN rfl (Or.inl rfl))) (fun _ _ _ _ _ => pts_yes) (fun _ _ _ _ _ => (se_bin od_mul (se_lst (sa_cons se_str sa_nil)) (se_var 1))))
      (sb_cons (ss_for hpo rfl (so_range1 rfl T.n_range (sa_cons (se_var 1) sa_nil)) (sg_name (i := 3) scN rfl (Or.inr rfl)) (sb_one (ss_for hpo rfl (so_range1 rfl T.n_range (sa_cons (se_var 3) sa_nil)) (sg_name (i := 4) scN rfl (Or.inl rfl)) (sb_cons (ss_set (i := 5) scN rfl (Or.inl rfl) (se_call H_law_pick (hr.mono (by decide)) rfl hx (sa_cons (se_var 0) (sa_cons (se_lst (sa_cons se_str (sa_cons se_str (sa_cons se_str (sa_cons se_str sa_nil))))) sa_nil))))
      (sb_cons (ss_iput hr.units (se_ix (se_var 2) (se_var 3)) (se_var 4) (se_var 5))
      (sb_one (ss_iput hr.units (se_ix (se_var 2) (se_var 4)) (se_var 3) (se_if (st_cmp (od_eq hr.units) (se_var 5) se_str (nomark _)) (se_var 5) (se_call H_law_pick (hr.mono (by decide)) rfl hx (sa_cons (se_var 0) (sa_cons (se_lst (sa_cons se_str (sa_cons se_str sa_nil))) sa_nil)))))))))))
      (sb_cons (ss_set (i := 6) scN rfl (Or.inl rfl) (se_lst sa_nil))
      (sb_cons (ss_for hpo rfl (so_range1 rfl T.n_range (sa_cons (se_var 1) sa_nil)) (sg_name (i := 3) scN rfl (Or.inr rfl)) (sb_cons (ss_par (i := 7) (j := 8) rfl scN rfl rfl (by decide) rfl rfl (sa_cons (se_lc (own := [("j", 4)]) rfl scN (so_range1 rfl T.n_range (sa_cons (se_var 1) sa_nil)) (blkOk_by (own := [("j", 4)]) (N := n_law_door) (sc := (defScope s_law_door)) (by decide +kernel)) (by decide) (fun _ _ _ _ _ => (sg_name (i := 4) scN rfl (Or.inl rfl))) (fun _ _ _ _ _ => (pts_one (st_cmp (od_ne hr.units) (se_var 4) (se_var 3) (nomark _)))) (fun _ _ _ _ _ => (se_var 4))) (sa_cons (se_lst sa_nil) sa_nil)) (by rfl))
      (sb_cons (ss_while hpo (st_cmp (od_ne hr.units) (se_var 7) (se_lst sa_nil) (nomark _)) (sb_one (ss_expr (se_mth PySem.F.slot_list_append PySem.F.type_list_append md_append (se_var 8) (sa_cons (se_mth PySem.F.slot_list_pop PySem.F.type_list_pop md_pop (se_var 7) (sa_cons (se_call H_law_draw (hr.mono (by decide)) rfl hx (sa_cons (se_var 0) (sa_cons (se_callB cd_len rfl T.n_len bt_len (sa_cons (se_var 7) sa_nil)) sa_nil))) sa_nil)) sa_nil)))))
      (sb_one (ss_expr (se_mth PySem.F.slot_list_append PySem.F.type_list_append md_append (se_var 6) (sa_cons (se_callTy cd_tuple rfl T.n_tuple bt_tuple (sa_cons (se_var 8) sa_nil)) sa_nil)))))))
      (sb_one (ss_ret (se_tup (sa_cons se_str (sa_cons (se_callTy cd_tuple rfl T.n_tuple bt_tuple (sa_cons (se_lc (own := [("row", 8)]) rfl scN (so_any (se_var 2)) (blkOk_by (own := [("row", 8)]) (N := n_law_door) (sc := (defScope s_law_door)) (by decide +kernel)) (by decide) (fun _ _ _ _ _ => (sg_name (i := 8) scN rfl (Or.inl rfl))) (fun _ _ _ _ _ => pts_yes) (fun _ _ _ _ _ => (se_callTy cd_tuple rfl T.n_tuple bt_tuple (sa_cons (se_var 8) sa_nil)))) sa_nil)) (sa_cons (se_callTy cd_tuple rfl T.n_tuple bt_tuple (sa_cons (se_var 6) sa_nil)) sa_nil))))))))))
theorem ok_law_own_mixed (T : Tx K mg cl) {f : Addr} {fd : FuncData} (F : Fun K "_law_own_mixed" "_law_own_mixed" s_law_own_mixed f fd) (H_law_door : Has P w K mg base cl "_law_door" 3 d_law_door) (H_law_draw : Has P w K mg base cl "_law_draw" 1 d_law_draw) (H_law_pick : Has P w K mg base cl "_law_pick" 2 d_law_pick) (HK_fair : HasK P w K mg base cl "fair" 1 [] [] d_fair) (HK_notify_one : HasK P w K mg base cl "notify_one" 1 [] [] d_notify_one) : RunG P w K mg base cl 4 f fd ["bag", "rooms", "paths"] d_law_own_mixed := by
  refine fn_okG F sc_law_own_mixed fun cdv A outer s H E hr hgd => ?_
  have scN := sc_law_own_mixed.nd
  have tk := takes_of (X := cxOf (L2.CX P w) P w K mg base n_law_own_mixed "_law_own_mixed" (defScope s_law_own_mixed) f cdv A outer s H E) (E := E) rfl rfl rfl rfl
  have hx := passes_call (E := E) tk (fun _ _ _ _ h => h)
  have hpo : PassesOwn (model P w) (cxOf (L2.CX P w) P w K mg base n_law_own_mixed "_law_own_mixed" (defScope s_law_own_mixed) f cdv A outer s H E).A (cxOf (L2.CX P w) P w K mg base n_law_own_mixed "_law_own_mixed" (defScope s_law_own_mixed) f cdv A outer s H E).env (cxOf (L2.CX P w) P w K mg base n_law_own_mixed "_law_own_mixed" (defScope s_law_own_mixed) f cdv A outer s H E).xe := passes_of (X := cxOf (L2.CX P w) P w K mg base n_law_own_mixed "_law_own_mixed" (defScope s_law_own_mixed) f cdv A outer s H E) rfl
  exact (sb_cons (ss_set (i := 3) scN rfl (Or.inl rfl) (se_lst sa_nil))
      (sb_cons (ss_for hpo rfl (so_range1 rfl T.n_range (sa_cons (se_var 1) sa_nil)) (sg_name (i := 4) scN rfl (Or.inr rfl)) (sb_cons (ss_set (i := 6) scN rfl (Or.inl rfl) (se_callB (cd_any rfl) rfl T.n_any bt_any (sa_cons (se_lc (own := [("way", 5)]) rfl scN (so_any (se_var 2)) (blkOk_by (own := [("way", 5)]) (N := n_law_own_mixed) (sc := (defScope s_law_own_mixed)) (by decide +kernel)) (by decide) (fun _ _ _ _ _ => (sg_name (i := 5) scN rfl (Or.inl rfl))) (fun _ _ _ _ _ => pts_yes) (fun _ _ _ _ _ => (se_cmp od_inS (se_bin od_addS (se_callB (cd_repr hgd hr.units) rfl T.n_repr bt_repr (sa_cons (se_var 4) sa_nil)) se_str) (se_callB (cd_repr hgd hr.units) rfl T.n_repr bt_repr (sa_cons (se_var 5) sa_nil)) rfl))) sa_nil)))
      (sb_cons (ss_set (i := 5) scN rfl (Or.inl rfl) (se_call H_law_draw (hr.mono (by decide)) rfl hx (sa_cons (se_var 0) (sa_cons se_int sa_nil))))
      (sb_one (ss_if (PW.pt (sw_and (st_cmp (od_eq hr.units) (se_var 5) se_int (nomark _)) (sw_and1 (st_not (st_val (se_var 6)))))) (sb_one (ss_expr (se_mth PySem.F.slot_list_append PySem.F.type_list_append md_append (se_var 3) (sa_cons (se_call H_law_door (hr.mono (by decide)) rfl hx (sa_cons (se_var 0) (sa_cons (se_callB cd_len rfl T.n_len bt_len (sa_cons (se_var 2) sa_nil)) sa_nil))) sa_nil)))) (sb_one (ss_expr (se_mth PySem.F.slot_list_append PySem.F.type_list_append md_append (se_var 3) (sa_cons (se_tup (sa_cons se_str (sa_cons (se_if (st_cmp (od_eq hr.units) (se_var 5) se_int (nomark _)) (se_call H_law_pick (hr.mono (by decide)) rfl hx (sa_cons (se_var 0) (sa_cons (se_lst (sa_cons se_non (sa_cons (se_callK HK_fair (hr.mono (by decide)) rfl hx sk_nil) (sa_cons (se_callK HK_notify_one (hr.mono (by decide)) rfl hx sk_nil) sa_nil)))) sa_nil))) se_non) sa_nil))) sa_nil)))))))))
      (sb_one (ss_ret (se_tup (sa_cons (se_callTy cd_tuple rfl T.n_tuple bt_tuple (sa_cons (se_var 3) sa_nil)) (sa_cons (se_var 2) sa_nil)))))))
theorem ok_law_own_pairs (T : Tx K mg cl) {f : Addr} {fd : FuncData} (F : Fun K "_law_own_pairs" "_law_own_pairs" s_law_own_pairs f fd) (H_law_held : Has P w K mg base cl "_law_held" 1 d_law_held) : FnOk P w K mg base (L2.CX P w) 2 f fd ["paths"] (SpD K cl d_law_own_pairs) := by
  refine fn_ok F sc_law_own_pairs fun cdv A outer s H E hr => ?_
  have scN := sc_law_own_pairs.nd
  have tk := takes_of (X := cxOf (L2.CX P w) P w K mg base n_law_own_pairs "_law_own_pairs" (defScope s_law_own_pairs) f cdv A outer s H E) (E := E) rfl rfl rfl rfl
  have hx := passes_call (E := E) tk (fun _ _ _ _ h => h)
  have hpo : PassesOwn (model P w) (cxOf (L2.CX P w) P w K mg base n_law_own_pairs "_law_own_pairs" (defScope s_law_own_pairs) f cdv A outer s H E).A (cxOf (L2.CX P w) P w K mg base n_law_own_pairs "_law_own_pairs" (defScope s_law_own_pairs) f cdv A outer s H E).env (cxOf (L2.CX P w) P w K mg base n_law_own_pairs "_law_own_pairs" (defScope s_law_own_pairs) f cdv A outer s H E).xe := passes_of (X := cxOf (L2.CX P w) P w K mg base n_law_own_pairs "_law_own_pairs" (defScope s_law_own_pairs) f cdv A outer s H E) rfl
  exact (sb_cons (ss_set (i := 1) scN rfl (Or.inl rfl) (se_lst sa_nil))
      (sb_cons (ss_for hpo rfl (so_enumA rfl T.n_enumerate (sa_cons (se_var 0) sa_nil)) (sg_tup rfl (sgs_cons (sg_name (i := 2) scN rfl (Or.inl rfl)) (sgs_cons (sg_name (i := 3) scN rfl (Or.inl rfl)) sgs_nil))) (sb_one (ss_for hpo rfl (so_enumA rfl T.n_enumerate (sa_cons (se_var 3) sa_nil)) (sg_tup rfl (sgs_cons (sg_name (i := 4) scN rfl (Or.inl rfl)) (sgs_cons (sg_name (i := 5) scN rfl (Or.inl rfl)) sgs_nil))) (sb_one (ss_if (st_cmp (od_eq hr.units) (se_ix (se_var 5) se_int) se_str (nomark _)) (sb_one (ss_expr (se_mth PySem.F.slot_list_append PySem.F.type_list_append md_append (se_var 1) (sa_cons (se_tup (sa_cons (se_var 2) (sa_cons (se_var 4) (sa_cons (se_ix (se_var 5) se_int) (sa_cons (se_lc (own := [("room", 6), ("mode", 7)]) rfl scN (so_any (se_call H_law_held (hr.mono (by decide)) rfl hx (sa_cons (se_var 3) (sa_cons (se_var 4) sa_nil)))) (blkOk_by (own := [("room", 6), ("mode", 7)]) (N := n_law_own_pairs) (sc := (defScope s_law_own_pairs)) (by decide +kernel)) (by decide) (fun _ _ _ _ _ => (sg_tup rfl (sgs_cons (sg_name (i := 6) scN rfl (Or.inl rfl)) (sgs_cons (sg_name (i := 7) scN rfl (Or.inl rfl)) sgs_nil)))) (fun _ _ _ _ _ => pts_yes) (fun _ _ _ _ _ => (se_var 6))) sa_nil))))) sa_nil)))) sb_nil)))))
      (sb_one (ss_ret (se_var 1)))))
theorem ok_law_is_entered (T : Tx K mg cl) {f : Addr} {fd : FuncData} (F : Fun K "_law_is_entered" "_law_is_entered" s_law_is_entered f fd) : FnOk P w K mg base (L2.CX P w) 1 f fd ["pairs", "one", "other"] (SpD K cl d_law_is_entered) := by
  refine fn_ok F sc_law_is_entered fun cdv A outer s H E hr => ?_
  have scN := sc_law_is_entered.nd
  have tk := takes_of (X := cxOf (L2.CX P w) P w K mg base n_law_is_entered "_law_is_entered" (defScope s_law_is_entered) f cdv A outer s H E) (E := E) rfl rfl rfl rfl
  have hx := passes_call (E := E) tk (fun _ _ _ _ h => h)
  have hpo : PassesOwn (model P w) (cxOf (L2.CX P w) P w K mg base n_law_is_entered "_law_is_entered" (defScope s_law_is_entered) f cdv A outer s H E).A (cxOf (L2.CX P w) P w K mg base n_law_is_entered "_law_is_entered" (defScope s_law_is_entered) f cdv A outer s H E).env (cxOf (L2.CX P w) P w K mg base n_law_is_entered "_law_is_entered" (defScope s_law_is_entered) f cdv A outer s H E).xe := passes_of (X := cxOf (L2.CX P w) P w K mg base n_law_is_entered "_law_is_entered" (defScope s_law_is_entered) f cdv A outer s H E) rfl
  exact (sb_one (ss_ret (se_callB (cd_any rfl) rfl T.n_any bt_any (sa_cons (se_lc (own := [("row", 3)]) rfl scN (so_any (se_var 0)) (blkOk_by (own := [("row", 3)]) (N := n_law_is_entered) (sc := (defScope s_law_is_entered)) (by decide +kernel)) (by decide) (fun _ _ _ _ _ => (sg_name (i := 3) scN rfl (Or.inl rfl))) (fun _ _ _ _ _ => pts_yes) (fun _ _ _ _ _ => (se_and (se_cmp (od_eq hr.units) (se_ix (se_var 3) se_int) (se_var 2) (nomark _)) (se_one (se_cmp (od_in hr.units) (se_var 1) (se_ix (se_var 3) se_int) rfl))))) sa_nil))))
theorem ok_law_sorted (T : Tx K mg cl) {f : Addr} {fd : FuncData} (F : Fun K "_law_sorted" "_law_sorted" s_law_sorted f fd) (H_law_is_entered : Has P w K mg base cl "_law_is_entered" 1 d_law_is_entered) : FnOk P w K mg base (L2.CX P w) 2 f fd ["pairs", "rooms"] (SpD K cl d_law_sorted) := by
  refine fn_ok F sc_law_sorted fun cdv A outer s H E hr => ?_
  have scN := sc_law_sorted.nd
  have tk := takes_of (X := cxOf (L2.CX P w) P w K mg base n_law_sorted "_law_sorted" (defScope s_law_sorted) f cdv A outer s H E) (E := E) rfl rfl rfl rfl
  have hx := passes_call (E := E) tk (fun _ _ _ _ h => h)
  have hpo : PassesOwn (model P w) (cxOf (L2.CX P w) P w K mg base n_law_sorted "_law_sorted" (defScope s_law_sorted) f cdv A outer s H E).A (cxOf (L2.CX P w) P w K mg base n_law_sorted "_law_sorted" (defScope s_law_sorted) f cdv A outer s H E).env (cxOf (L2.CX P w) P w K mg base n_law_sorted "_law_sorted" (defScope s_law_sorted) f cdv A outer s H E).xe := passes_of (X := cxOf (L2.CX P w) P w K mg base n_law_sorted "_law_sorted" (defScope s_law_sorted) f cdv A outer s H E) rfl
  exact (sb_cons (ss_asg (se_tup (sa_cons (se_listRg rfl rfl T.n_range rfl T.n_list (se_var 1)) (sa_cons (se_bin od_mul (se_lst (sa_cons se_int sa_nil)) (se_var 1)) (sa_cons se_int sa_nil)))) (sg_tup rfl (sgs_cons (sg_name (i := 2) scN rfl (Or.inr rfl)) (sgs_cons (sg_name (i := 3) scN rfl (Or.inl rfl)) (sgs_cons (sg_name (i := 4) scN rfl (Or.inl rfl)) sgs_nil)))))
      (sb_cons (ss_while hpo (st_cmp (od_ne hr.units) (se_var 2) (se_lst sa_nil) (nomark _)) (sb_cons (ss_set (i := 6) scN rfl (Or.inr rfl) (se_lc (own := [("room", 5)]) rfl scN (so_any (se_var 2)) (blkOk_by (own := [("room", 5)]) (N := n_law_sorted) (sc := (defScope s_law_sorted)) (by decide +kernel)) (by decide) (fun _ _ _ _ _ => (sg_name (i := 5) scN rfl (Or.inr rfl))) (fun _ _ _ _ _ => (pts_one (st_not (st_val (se_callB (cd_any rfl) rfl T.n_any bt_any (sa_cons (se_lc (own := [("own", 8)]) rfl scN (so_any (se_var 2)) (blkOk_by (own := [("own", 8)]) (N := n_law_sorted) (sc := (relS { kind := .function, names := [(".0", .local), ("room", .cell), ("any", .globalImplicit), ("pairs", .free), ("rest", .free)], isGenerator := false, isCoroutine := false, more := [] : Scope } (defScope s_law_sorted))) (by decide +kernel)) (by decide) (fun _ _ _ _ _ => (sg_name (i := 8) scN rfl (Or.inl rfl))) (fun _ _ _ _ _ => pts_yes) (fun _ _ _ _ _ => (se_call H_law_is_entered (hr.mono (by decide)) rfl passL (sa_cons (se_var 0) (sa_cons (se_var 8) (sa_cons (se_var 5) sa_nil)))))) sa_nil)))))) (fun _ _ _ _ _ => (se_var 5))))
      (sb_cons (ss_if (st_cmp (od_eq hr.units) (se_var 6) (se_lst sa_nil) (nomark _)) (sb_one ss_break) sb_nil)
      (sb_cons (ss_for hpo rfl (so_any (se_var 6)) (sg_name (i := 5) scN rfl (Or.inl rfl)) (sb_one (ss_iput hr.units (se_var 3) (se_var 5) (se_var 4))))
      (sb_cons (ss_set (i := 4) scN rfl (Or.inl rfl) (se_bin od_add (se_var 4) se_int))
      (sb_one (ss_set (i := 2) scN rfl (Or.inr rfl) (se_lc (own := [("room", 5)]) rfl scN (so_any (se_var 2)) (blkOk_by (own := [("room", 5)]) (N := n_law_sorted) (sc := (defScope s_law_sorted)) (by decide +kernel)) (by decide) (fun _ _ _ _ _ => (sg_name (i := 5) scN rfl (Or.inl rfl))) (fun _ _ _ _ _ => (pts_one (st_cmp (od_notIn hr.units) (se_var 5) (se_var 6) rfl))) (fun _ _ _ _ _ => (se_var 5))))))))))
      (sb_cons (ss_if (st_cmp (od_eq hr.units) (se_var 2) (se_lst sa_nil) (nomark _)) (sb_one (ss_ret (se_lst (sa_cons (se_callTy cd_tuple rfl T.n_tuple bt_tuple (sa_cons (se_var 3) sa_nil)) (sa_cons se_non sa_nil))))) sb_nil)
      (sb_cons (ss_set (i := 7) scN rfl (Or.inr rfl) (se_lst (sa_cons (se_ix (se_var 2) se_int) sa_nil)))
      (sb_cons (ss_while hpo (st_cmp (od_notIn hr.units) (se_ix (se_var 7) se_int) (se_sl (se_var 7) (so_some se_int) so_none) rfl) (sb_one (ss_set (i := 7) scN rfl (Or.inr rfl) (se_bin od_add (se_lst (sa_cons (se_ix (se_lc (own := [("own", 8)]) rfl scN (so_any (se_var 2)) (blkOk_by (own := [("own", 8)]) (N := n_law_sorted) (sc := (defScope s_law_sorted)) (by decide +kernel)) (by decide) (fun _ _ _ _ _ => (sg_name (i := 8) scN rfl (Or.inl rfl))) (fun _ _ _ _ _ => (pts_one (st_val (se_call H_law_is_entered (hr.mono (by decide)) rfl passL (sa_cons (se_var 0) (sa_cons (se_var 8) (sa_cons (se_ix (se_var 7) se_int) sa_nil))))))) (fun _ _ _ _ _ => (se_var 8))) se_int) sa_nil)) (se_var 7)))))
      (sb_one (ss_ret (se_lst (sa_cons se_non (sa_cons (se_callTy cd_tuple rfl T.n_tuple bt_tuple (sa_cons (se_sl (se_var 7) so_none (so_some (se_mth PySem.F.slot_list_index PySem.F.type_list_index md_index (se_var 7) (sa_cons (se_ix (se_var 7) se_int) (sa_cons se_int sa_nil))))) sa_nil)) sa_nil))))))))))
theorem ok_law_whole (T : Tx K mg cl) {f : Addr} {fd : FuncData} (F : Fun K "_law_whole" "_law_whole" s_law_whole f fd) : FnOk P w K mg base (L2.CX P w) 1 f fd ["value", "below"] (SpD K cl d_law_whole) := by
  refine fn_ok F sc_law_whole fun cdv A outer s H E hr => ?_
  have scN := sc_law_whole.nd
  have tk := takes_of (X := cxOf (L2.CX P w) P w K mg base n_law_whole "_law_whole" (defScope s_law_whole) f cdv A outer s H E) (E := E) rfl rfl rfl rfl
  have hx := passes_call (E := E) tk (fun _ _ _ _ h => h)
  have hpo : PassesOwn (model P w) (cxOf (L2.CX P w) P w K mg base n_law_whole "_law_whole" (defScope s_law_whole) f cdv A outer s H E).A (cxOf (L2.CX P w) P w K mg base n_law_whole "_law_whole" (defScope s_law_whole) f cdv A outer s H E).env (cxOf (L2.CX P w) P w K mg base n_law_whole "_law_whole" (defScope s_law_whole) f cdv A outer s H E).xe := passes_of (X := cxOf (L2.CX P w) P w K mg base n_law_whole "_law_whole" (defScope s_law_whole) f cdv A outer s H E) rfl
  exact (sb_one (ss_ret (se_and (se_isi rfl T.n_isinstance bt_isinstance (se_var 0) rfl T.n_int bt_int) (se_and (se_not (se_isi rfl T.n_isinstance bt_isinstance (se_var 0) rfl T.n_bool bt_bool)) (se_one (se_chain od_le od_lt se_int (se_var 0) (se_var 1)))))))
theorem ok_law_number_due (T : Tx K mg cl) {f : Addr} {fd : FuncData} (F : Fun K "_law_number_due" "_law_number_due" s_law_number_due f fd) (H_law_whole : Has P w K mg base cl "_law_whole" 1 d_law_whole) : FnOk P w K mg base (L2.CX P w) 2 f fd ["pairs", "rooms", "value"] (SpD K cl d_law_number_due) := by
  refine fn_ok F sc_law_number_due fun cdv A outer s H E hr => ?_
  have scN := sc_law_number_due.nd
  have tk := takes_of (X := cxOf (L2.CX P w) P w K mg base n_law_number_due "_law_number_due" (defScope s_law_number_due) f cdv A outer s H E) (E := E) rfl rfl rfl rfl
  have hx := passes_call (E := E) tk (fun _ _ _ _ h => h)
  have hpo : PassesOwn (model P w) (cxOf (L2.CX P w) P w K mg base n_law_number_due "_law_number_due" (defScope s_law_number_due) f cdv A outer s H E).A (cxOf (L2.CX P w) P w K mg base n_law_number_due "_law_number_due" (defScope s_law_number_due) f cdv A outer s H E).env (cxOf (L2.CX P w) P w K mg base n_law_number_due "_law_number_due" (defScope s_law_number_due) f cdv A outer s H E).xe := passes_of (X := cxOf (L2.CX P w) P w K mg base n_law_number_due "_law_number_due" (defScope s_law_number_due) f cdv A outer s H E) rfl
  exact (sb_cons (ss_if (PW.pt (sw_or (st_not (st_val (se_isi rfl T.n_isinstance bt_isinstance (se_var 2) rfl T.n_tuple bt_tuple))) (sw_or (st_cmp (od_ne hr.units) (se_callB cd_len rfl T.n_len bt_len (sa_cons (se_var 2) sa_nil)) (se_var 1) (nomark _)) (sw_or1 (st_not (st_val (se_callB (cd_all rfl) rfl T.n_all bt_all (sa_cons (se_lc (own := [("own", 7)]) rfl scN (so_any (se_var 2)) (blkOk_by (own := [("own", 7)]) (N := n_law_number_due) (sc := (defScope s_law_number_due)) (by decide +kernel)) (by decide) (fun _ _ _ _ _ => (sg_name (i := 7) scN rfl (Or.inl rfl))) (fun _ _ _ _ _ => pts_yes) (fun _ _ _ _ _ => (se_call H_law_whole (hr.mono (by decide)) rfl passL (sa_cons (se_var 7) (sa_cons (se_var 1) sa_nil))))) sa_nil)))))))) (sb_one (ss_ret se_str)) sb_nil)
      (sb_cons (ss_for hpo rfl (so_any (se_var 0)) (sg_tup rfl (sgs_cons (sg_name (i := 3) scN rfl (Or.inl rfl)) (sgs_cons (sg_name (i := 4) scN rfl (Or.inl rfl)) (sgs_cons (sg_name (i := 5) scN rfl (Or.inr rfl)) (sgs_cons (sg_name (i := 6) scN rfl (Or.inl rfl)) sgs_nil))))) (sb_one (ss_if (st_val (se_callB (cd_any rfl) rfl T.n_any bt_any (sa_cons (se_lc (own := [("own", 7)]) rfl scN (so_any (se_var 6)) (blkOk_by (own := [("own", 7)]) (N := n_law_number_due) (sc := (defScope s_law_number_due)) (by decide +kernel)) (by decide) (fun _ _ _ _ _ => (sg_name (i := 7) scN rfl (Or.inl rfl))) (fun _ _ _ _ _ => pts_yes) (fun _ _ _ _ _ => (se_cmp od_ge (se_ix (se_var 2) (se_var 7)) (se_ix (se_var 2) (se_var 5)) (nomark _)))) sa_nil))) (sb_one (ss_ret (se_tup (sa_cons se_str (sa_cons (se_var 3) (sa_cons (se_var 4) sa_nil)))))) sb_nil)))
      (sb_one (ss_ret se_non))))
theorem ok_law_round_due (T : Tx K mg cl) {f : Addr} {fd : FuncData} (F : Fun K "_law_round_due" "_law_round_due" s_law_round_due f fd) (H_law_is_entered : Has P w K mg base cl "_law_is_entered" 1 d_law_is_entered) (H_law_whole : Has P w K mg base cl "_law_whole" 1 d_law_whole) : FnOk P w K mg base (L2.CX P w) 2 f fd ["pairs", "rooms", "value"] (SpD K cl d_law_round_due) := by
  refine fn_ok F sc_law_round_due fun cdv A outer s H E hr => ?_
  have scN := sc_law_round_due.nd
  have tk := takes_of (X := cxOf (L2.CX P w) P w K mg base n_law_round_due "_law_round_due" (defScope s_law_round_due) f cdv A outer s H E) (E := E) rfl rfl rfl rfl
  have hx := passes_call (E := E) tk (fun _ _ _ _ h => h)
  have hpo : PassesOwn (model P w) (cxOf (L2.CX P w) P w K mg base n_law_round_due "_law_round_due" (defScope s_law_round_due) f cdv A outer s H E).A (cxOf (L2.CX P w) P w K mg base n_law_round_due "_law_round_due" (defScope s_law_round_due) f cdv A outer s H E).env (cxOf (L2.CX P w) P w K mg base n_law_round_due "_law_round_due" (defScope s_law_round_due) f cdv A outer s H E).xe := passes_of (X := cxOf (L2.CX P w) P w K mg base n_law_round_due "_law_round_due" (defScope s_law_round_due) f cdv A outer s H E) rfl
  exact (sb_cons (ss_if (PW.pt (sw_or (st_not (st_val (se_isi rfl T.n_isinstance bt_isinstance (se_var 2) rfl T.n_tuple bt_tuple))) (sw_or (st_cmp od_lt (se_callB cd_len rfl T.n_len bt_len (sa_cons (se_var 2) sa_nil)) se_int (nomark _)) (sw_or1 (st_not (st_val (se_callB (cd_all rfl) rfl T.n_all bt_all (sa_cons (se_lc (own := [("own", 5)]) rfl scN (so_any (se_var 2)) (blkOk_by (own := [("own", 5)]) (N := n_law_round_due) (sc := (defScope s_law_round_due)) (by decide +kernel)) (by decide) (fun _ _ _ _ _ => (sg_name (i := 5) scN rfl (Or.inl rfl))) (fun _ _ _ _ _ => pts_yes) (fun _ _ _ _ _ => (se_call H_law_whole (hr.mono (by decide)) rfl passL (sa_cons (se_var 5) (sa_cons (se_var 1) sa_nil))))) sa_nil)))))))) (sb_one (ss_ret se_str)) sb_nil)
      (sb_cons (ss_if (st_val (se_callB (cd_any rfl) rfl T.n_any bt_any (sa_cons (se_lc (own := [("k", 3), ("room", 4)]) rfl scN (so_enumA rfl T.n_enumerate (sa_cons (se_var 2) sa_nil)) (blkOk_by (own := [("k", 3), ("room", 4)]) (N := n_law_round_due) (sc := (defScope s_law_round_due)) (by decide +kernel)) (by decide) (fun _ _ _ _ _ => (sg_tup rfl (sgs_cons (sg_name (i := 3) scN rfl (Or.inl rfl)) (sgs_cons (sg_name (i := 4) scN rfl (Or.inl rfl)) sgs_nil)))) (fun _ _ _ _ _ => pts_yes) (fun _ _ _ _ _ => (se_cmp (od_in hr.units) (se_var 4) (se_sl (se_var 2) so_none (so_some (se_var 3))) rfl))) sa_nil))) (sb_one (ss_ret se_str)) sb_nil)
      (sb_cons (ss_for hpo rfl (so_enumA rfl T.n_enumerate (sa_cons (se_var 2) sa_nil)) (sg_tup rfl (sgs_cons (sg_name (i := 3) scN rfl (Or.inl rfl)) (sgs_cons (sg_name (i := 4) scN rfl (Or.inl rfl)) sgs_nil))) (sb_one (ss_if (st_not (st_val (se_call H_law_is_entered (hr.mono (by decide)) rfl hx (sa_cons (se_var 0) (sa_cons (se_ix (se_var 2) (se_bin od_sub (se_var 3) se_int)) (sa_cons (se_var 4) sa_nil)))))) (sb_one (ss_ret (se_tup (sa_cons se_str (sa_cons (se_var 3) sa_nil))))) sb_nil)))
      (sb_one (ss_ret se_non)))))
theorem ok_law_values (T : Tx K mg cl) {f : Addr} {fd : FuncData} (F : Fun K "_law_values" "_law_values" s_law_values f fd) (H_law_draw : Has P w K mg base cl "_law_draw" 1 d_law_draw) (H_law_pick : Has P w K mg base cl "_law_pick" 2 d_law_pick) : FnOk P w K mg base (L2.CX P w) 3 f fd ["bag", "rooms", "row"] (SpD K cl d_law_values) := by
  refine fn_ok F sc_law_values fun cdv A outer s H E hr => ?_
  have scN := sc_law_values.nd
  have tk := takes_of (X := cxOf (L2.CX P w) P w K mg base n_law_values "_law_values" (defScope s_law_values) f cdv A outer s H E) (E := E) rfl rfl rfl rfl
  have hx := passes_call (E := E) tk (fun _ _ _ _ h => h)
  have hpo : PassesOwn (model P w) (cxOf (L2.CX P w) P w K mg base n_law_values "_law_values" (defScope s_law_values) f cdv A outer s H E).A (cxOf (L2.CX P w) P w K mg base n_law_values "_law_values" (defScope s_law_values) f cdv A outer s H E).env (cxOf (L2.CX P w) P w K mg base n_law_values "_law_values" (defScope s_law_values) f cdv A outer s H E).xe := passes_of (X := cxOf (L2.CX P w) P w K mg base n_law_values "_law_values" (defScope s_law_values) f cdv A outer s H E) rfl
  exact (sb_cons (ss_par (i := 3) (j := 4) rfl scN rfl rfl (by decide) rfl rfl (sa_cons (se_call H_law_draw (hr.mono (by decide)) rfl hx (sa_cons (se_var 0) (sa_cons (se_callB cd_len rfl T.n_len bt_len (sa_cons (se_var 2) sa_nil)) sa_nil))) (sa_cons (se_call H_law_pick (hr.mono (by decide)) rfl hx (sa_cons (se_var 0) (sa_cons (se_lst (sa_cons (se_neg se_int) (sa_cons (se_var 1) (sa_cons se_bl (sa_cons se_non (sa_cons se_str (sa_cons (se_tup (sa_cons se_int sa_nil)) sa_nil))))))) sa_nil))) sa_nil)) (by rfl))
      (sb_cons (ss_set (i := 5) scN rfl (Or.inl rfl) (se_lst (sa_cons (se_var 2) (sa_cons (se_revT (se_var 2)) (sa_cons (se_sl (se_var 2) (so_some se_int) so_none) (sa_cons (se_bin od_add (se_sl (se_var 2) (so_some se_int) so_none) (se_sl (se_var 2) so_none (so_some se_int))) (sa_cons (se_bin od_add (se_var 2) (se_sl (se_var 2) so_none (so_some se_int))) (sa_cons (se_bin od_add (se_var 2) (se_tup (sa_cons (se_bin od_sub (se_var 1) se_int) sa_nil))) (sa_cons (se_callTy cd_list rfl T.n_list bt_list (sa_cons (se_var 2) sa_nil)) (sa_cons se_non (sa_cons (se_tup sa_nil) (sa_cons se_int sa_nil))))))))))))
      (sb_cons (ss_set (i := 5) scN rfl (Or.inl rfl) (se_bin od_add (se_var 5) (se_lst (sa_cons (se_bin od_add (se_bin od_add (se_sl (se_var 2) so_none (so_some (se_var 3))) (se_tup (sa_cons (se_var 4) sa_nil))) (se_sl (se_var 2) (so_some (se_bin od_add (se_var 3) se_int)) so_none)) (sa_cons (se_bin od_add (se_bin od_add (se_sl (se_var 2) so_none (so_some (se_var 3))) (se_tup (sa_cons (se_call H_law_draw (hr.mono (by decide)) rfl hx (sa_cons (se_var 0) (sa_cons (se_var 1) sa_nil))) sa_nil))) (se_sl (se_var 2) (so_some (se_bin od_add (se_var 3) se_int)) so_none)) sa_nil)))))
      (sb_cons (ss_expr (se_mth PySem.F.slot_list_append PySem.F.type_list_append md_append (se_var 5) (sa_cons (se_bin od_add (se_bin od_add (se_sl (se_var 2) so_none (so_some (se_var 3))) (se_tup (sa_cons (se_bin od_mod (se_bin od_add (se_ix (se_var 2) (se_var 3)) se_int) (se_var 1)) sa_nil))) (se_sl (se_var 2) (so_some (se_bin od_add (se_var 3) se_int)) so_none)) sa_nil)))
      (sb_cons (ss_for hpo rfl (so_range1 rfl T.n_range (sa_cons se_int sa_nil)) (sg_name (i := 6) scN rfl (Or.inl rfl)) (sb_one (ss_expr (se_mth PySem.F.slot_list_append PySem.F.type_list_append md_append (se_var 5) (sa_cons (se_callTy cd_tuple rfl T.n_tuple bt_tuple (sa_cons (se_lc (own := [("k", 7)]) rfl scN (so_range1 rfl T.n_range (sa_cons (se_ix (se_lst (sa_cons (se_var 1) (sa_cons se_int (sa_cons se_int (sa_cons (se_var 1) sa_nil))))) (se_var 6)) sa_nil)) (blkOk_by (own := [("k", 7)]) (N := n_law_values) (sc := (defScope s_law_values)) (by decide +kernel)) (by decide) (fun _ _ _ _ _ => (sg_name (i := 7) scN rfl (Or.inl rfl))) (fun _ _ _ _ _ => pts_yes) (fun _ _ _ _ _ => (se_call H_law_draw (hr.mono (by decide)) rfl passL (sa_cons (se_var 0) (sa_cons (se_var 1) sa_nil))))) sa_nil)) sa_nil)))))
      (sb_one (ss_ret (se_var 5))))))))
theorem ok_law_is_right (T : Tx K mg cl) {f : Addr} {fd : FuncData} (F : Fun K "_law_is_right" "_law_is_right" s_law_is_right f fd) (H_law_number_due : Has P w K mg base cl "_law_number_due" 2 d_law_number_due) (H_law_own_pairs : Has P w K mg base cl "_law_own_pairs" 2 d_law_own_pairs) (H_law_round_due : Has P w K mg base cl "_law_round_due" 2 d_law_round_due) (H_law_sorted : Has P w K mg base cl "_law_sorted" 2 d_law_sorted) (H_law_values : Has P w K mg base cl "_law_values" 3 d_law_values) (H_numbers : Has P w K mg base cl "numbers" 5 d_numbers) (H_numbers_error : Has P w K mg base cl "numbers_error" 3 d_numbers_error) (H_room_round : Has P w K mg base cl "room_round" 5 d_room_round) (H_round_error : Has P w K mg base cl "round_error" 4 d_round_error) (HK_numbers_error : HasK P w K mg base cl "numbers_error" 3 ["house", "value"] [0, 1] d_numbers_error) (HK_round_error : HasK P w K mg base cl "round_error" 4 ["house", "value"] [0, 1] d_round_error) (HK_numbers : HasK P w K mg base cl "numbers" 5 ["house"] [0] d_numbers) (HK_room_round : HasK P w K mg base cl "room_round" 5 ["house"] [0] d_room_round) : RunG P w K mg base cl 6 f fd ["bag", "house"] d_law_is_right := by
  refine fn_okG F sc_law_is_right fun cdv A outer s H E hr hgd => ?_
  have scN := sc_law_is_right.nd
  have tk := takes_of (X := cxOf (L2.CX P w) P w K mg base n_law_is_right "_law_is_right" (defScope s_law_is_right) f cdv A outer s H E) (E := E) rfl rfl rfl rfl
  have hx := passes_call (E := E) tk (fun _ _ _ _ h => h)
  have hpo : PassesOwn (model P w) (cxOf (L2.CX P w) P w K mg base n_law_is_right "_law_is_right" (defScope s_law_is_right) f cdv A outer s H E).A (cxOf (L2.CX P w) P w K mg base n_law_is_right "_law_is_right" (defScope s_law_is_right) f cdv A outer s H E).env (cxOf (L2.CX P w) P w K mg base n_law_is_right "_law_is_right" (defScope s_law_is_right) f cdv A outer s H E).xe := passes_of (X := cxOf (L2.CX P w) P w K mg base n_law_is_right "_law_is_right" (defScope s_law_is_right) f cdv A outer s H E) rfl
  exact (sb_cons (ss_par (i := 2) (j := 3) rfl scN rfl rfl (by decide) rfl rfl (sa_cons (se_callB cd_len rfl T.n_len bt_len (sa_cons (se_ix (se_var 1) se_int) sa_nil)) (sa_cons (se_callB (cd_repr hgd hr.units) rfl T.n_repr bt_repr (sa_cons (se_var 1) sa_nil)) sa_nil)) (by rfl))
      (sb_cons (ss_set (i := 4) scN rfl (Or.inl rfl) (se_call H_law_own_pairs (hr.mono (by decide)) rfl hx (sa_cons (se_ix (se_var 1) se_int) sa_nil)))
      (sb_cons (ss_asgL rfl (se_call H_law_sorted (hr.mono (by decide)) rfl hx (sa_cons (se_var 4) (sa_cons (se_var 2) sa_nil))) (sgs_cons (sg_name (i := 5) scN rfl (Or.inl rfl)) (sgs_cons (sg_name (i := 6) scN rfl (Or.inl rfl)) sgs_nil)))
      (sb_cons (ss_set (i := 7) scN rfl (Or.inl rfl) (se_lst (sa_cons (se_call H_numbers (hr.mono (by decide)) rfl hx (sa_cons (se_var 1) sa_nil)) (sa_cons (se_call H_room_round (hr.mono (by decide)) rfl hx (sa_cons (se_var 1) sa_nil)) sa_nil))))
      (sb_cons (ss_if (st_cmp (od_ne hr.units) (se_lst (sa_cons (se_cmp od_isN (se_ix (se_var 7) se_int) se_non (nomark _)) (sa_cons (se_cmp od_isN (se_ix (se_var 7) se_int) se_non (nomark _)) sa_nil))) (se_lst (sa_cons (se_cmp od_isN (se_var 5) se_non (nomark _)) (sa_cons (se_cmp od_isN (se_var 6) se_non (nomark _)) sa_nil))) (nomark _)) (sb_one (ss_ret se_bl)) sb_nil)
      (sb_cons (ss_if (PW.pt (sw_and (st_cmp od_notN (se_var 5) se_non (nomark _)) (sw_and1 (st_cmp od_notN (se_call H_law_number_due (hr.mono (by decide)) rfl hx (sa_cons (se_var 4) (sa_cons (se_var 2) (sa_cons (se_ix (se_var 7) se_int) sa_nil)))) se_non (nomark _))))) (sb_one (ss_ret se_bl)) sb_nil)
      (sb_cons (ss_if (PW.pt (sw_and (st_cmp od_notN (se_var 6) se_non (nomark _)) (sw_and1 (st_cmp od_notN (se_call H_law_round_due (hr.mono (by decide)) rfl hx (sa_cons (se_var 4) (sa_cons (se_var 2) (sa_cons (se_ix (se_var 7) se_int) sa_nil)))) se_non (nomark _))))) (sb_one (ss_ret se_bl)) sb_nil)
      (sb_cons (ss_set (i := 8) scN rfl (Or.inl rfl) (se_if (st_cmp od_isN (se_var 5) se_non (nomark _)) (se_callTy cd_tuple rfl T.n_tuple bt_tuple (sa_cons (se_listRg rfl rfl T.n_range rfl T.n_list (se_var 2)) sa_nil)) (se_var 5)))
      (sb_cons (ss_for hpo rfl (so_enumA rfl T.n_enumerate (sa_cons (se_bin od_add (se_call H_law_values (hr.mono (by decide)) rfl hx (sa_cons (se_var 0) (sa_cons (se_var 2) (sa_cons (se_var 8) sa_nil)))) (se_lst (sa_cons (se_ix (se_var 7) se_int) sa_nil))) sa_nil)) (sg_tup rfl (sgs_cons (sg_name (i := 9) scN rfl (Or.inl rfl)) (sgs_cons (sg_name (i := 10) scN rfl (Or.inl rfl)) sgs_nil))) (sb_cons (ss_set (i := 11) scN rfl (Or.inl rfl) (se_if (st_cmp (od_eq hr.units) (se_bin od_mod (se_var 9) se_int) se_int (nomark _)) (se_call H_numbers_error (hr.mono (by decide)) rfl hx (sa_cons (se_var 1) (sa_cons (se_var 10) sa_nil))) (se_callK HK_numbers_error (hr.mono (by decide)) rfl hx (sk_cons (se_var 1) (sk_cons (se_var 10) sk_nil)))))
      (sb_one (ss_if (st_cmp (od_ne hr.units) (se_callB (cd_repr hgd hr.units) rfl T.n_repr bt_repr (sa_cons (se_var 11) sa_nil)) (se_callB (cd_repr hgd hr.units) rfl T.n_repr bt_repr (sa_cons (se_call H_law_number_due (hr.mono (by decide)) rfl hx (sa_cons (se_var 4) (sa_cons (se_var 2) (sa_cons (se_var 10) sa_nil)))) sa_nil)) (nomark _)) (sb_one (ss_ret se_bl)) sb_nil))))
      (sb_cons (ss_set (i := 8) scN rfl (Or.inl rfl) (se_if (st_cmp od_isN (se_var 6) se_non (nomark _)) (se_callTy cd_tuple rfl T.n_tuple bt_tuple (sa_cons (se_listRg rfl rfl T.n_range rfl T.n_list (se_callB (cd_min rfl) rfl T.n_min bt_min (sa_cons (se_var 2) (sa_cons se_int sa_nil)))) sa_nil)) (se_var 6)))
      (sb_cons (ss_for hpo rfl (so_enumA rfl T.n_enumerate (sa_cons (se_bin od_add (se_call H_law_values (hr.mono (by decide)) rfl hx (sa_cons (se_var 0) (sa_cons (se_var 2) (sa_cons (se_var 8) sa_nil)))) (se_lst (sa_cons (se_ix (se_var 7) se_int) sa_nil))) sa_nil)) (sg_tup rfl (sgs_cons (sg_name (i := 9) scN rfl (Or.inl rfl)) (sgs_cons (sg_name (i := 10) scN rfl (Or.inl rfl)) sgs_nil))) (sb_cons (ss_set (i := 11) scN rfl (Or.inl rfl) (se_if (st_cmp (od_eq hr.units) (se_bin od_mod (se_var 9) se_int) se_int (nomark _)) (se_call H_round_error (hr.mono (by decide)) rfl hx (sa_cons (se_var 1) (sa_cons (se_var 10) sa_nil))) (se_callK HK_round_error (hr.mono (by decide)) rfl hx (sk_cons (se_var 1) (sk_cons (se_var 10) sk_nil)))))
      (sb_one (ss_if (st_cmp (od_ne hr.units) (se_callB (cd_repr hgd hr.units) rfl T.n_repr bt_repr (sa_cons (se_var 11) sa_nil)) (se_callB (cd_repr hgd hr.units) rfl T.n_repr bt_repr (sa_cons (se_call H_law_round_due (hr.mono (by decide)) rfl hx (sa_cons (se_var 4) (sa_cons (se_var 2) (sa_cons (se_var 10) sa_nil)))) sa_nil)) (nomark _)) (sb_one (ss_ret se_bl)) sb_nil))))
      (sb_one (ss_ret (se_and (se_cmp (od_eq hr.units) (se_callB (cd_repr hgd hr.units) rfl T.n_repr bt_repr (sa_cons (se_lst (sa_cons (se_callK HK_numbers (hr.mono (by decide)) rfl hx (sk_cons (se_var 1) sk_nil)) (sa_cons (se_callK HK_room_round (hr.mono (by decide)) rfl hx (sk_cons (se_var 1) sk_nil)) sa_nil))) sa_nil)) (se_callB (cd_repr hgd hr.units) rfl T.n_repr bt_repr (sa_cons (se_var 7) sa_nil)) (nomark _)) (se_one (se_cmp (od_eq hr.units) (se_callB (cd_repr hgd hr.units) rfl T.n_repr bt_repr (sa_cons (se_var 1) sa_nil)) (se_var 3) (nomark _)))))))))))))))))
theorem ok_law (T : Tx K mg cl) {f : Addr} {fd : FuncData} (F : Fun K "law" "law" s_law f fd) (H_law_crossed : Has P w K mg base cl "_law_crossed" 2 d_law_crossed) (H_law_draw : Has P w K mg base cl "_law_draw" 1 d_law_draw) (HG_law_is_right : HasG P w K mg base cl "_law_is_right" 6 d_law_is_right) (H_law_own_bag : Has P w K mg base cl "_law_own_bag" 1 d_law_own_bag) (H_law_own_house : Has P w K mg base cl "_law_own_house" 4 d_law_own_house) (HG_law_own_mixed : HasG P w K mg base cl "_law_own_mixed" 4 d_law_own_mixed) (H_law_pick : Has P w K mg base cl "_law_pick" 2 d_law_pick) : RunG P w K mg base cl 7 f fd ["script"] d_law := by
  refine fn_okG F sc_law fun cdv A outer s H E hr hgd => ?_
  have scN := sc_law.nd
  have tk := takes_of (X := cxOf (L2.CX P w) P w K mg base n_law "law" (defScope s_law) f cdv A outer s H E) (E := E) rfl rfl rfl rfl
  have hx := passes_call (E := E) tk (fun _ _ _ _ h => h)
  have hpo : PassesOwn (model P w) (cxOf (L2.CX P w) P w K mg base n_law "law" (defScope s_law) f cdv A outer s H E).A (cxOf (L2.CX P w) P w K mg base n_law "law" (defScope s_law) f cdv A outer s H E).env (cxOf (L2.CX P w) P w K mg base n_law "law" (defScope s_law) f cdv A outer s H E).xe := passes_of (X := cxOf (L2.CX P w) P w K mg base n_law "law" (defScope s_law) f cdv A outer s H E) rfl
  exact (sb_cons (ss_set (i := 1) scN rfl (Or.inl rfl) (se_call H_law_own_bag (hr.mono (by decide)) rfl hx (sa_cons (se_var 0) sa_nil)))
      (sb_cons (ss_for hpo rfl (so_range1 rfl T.n_range (sa_cons se_int sa_nil)) (sg_name (i := 2) scN rfl (Or.inl rfl)) (sb_cons (ss_set (i := 3) scN rfl (Or.inl rfl) (se_tup (sa_cons (se_call H_law_draw (hr.mono (by decide)) rfl hx (sa_cons (se_var 1) (sa_cons se_int sa_nil))) (sa_cons (se_call H_law_draw (hr.mono (by decide)) rfl hx (sa_cons (se_var 1) (sa_cons se_int sa_nil))) sa_nil))))
      (sb_cons (ss_par (i := 4) (j := 5) rfl scN rfl rfl (by decide) rfl rfl (sa_cons (se_bin od_add se_int (se_call H_law_draw (hr.mono (by decide)) rfl hx (sa_cons (se_var 1) (sa_cons (se_ix (se_lst (sa_cons se_int (sa_cons se_int (sa_cons se_int (sa_cons se_int sa_nil))))) (se_var 2)) sa_nil)))) (sa_cons (se_bin od_add se_int (se_call H_law_draw (hr.mono (by decide)) rfl hx (sa_cons (se_var 1) (sa_cons (se_ix (se_lst (sa_cons se_int (sa_cons se_int (sa_cons se_int (sa_cons se_int sa_nil))))) (se_var 2)) sa_nil)))) sa_nil)) (by rfl))
      (sb_cons (ss_set (i := 6) scN rfl (Or.inl rfl) (se_if (PW.pt (sw_and (st_cmp (od_eq hr.units) (se_var 2) se_int (nomark _)) (sw_and1 (st_cmp (od_eq hr.units) (se_call H_law_draw (hr.mono (by decide)) rfl hx (sa_cons (se_var 1) (sa_cons se_int sa_nil))) se_int (nomark _))))) se_int (se_call H_law_pick (hr.mono (by decide)) rfl hx (sa_cons (se_var 1) (sa_cons (se_lst (sa_cons se_int (sa_cons se_int (sa_cons se_int (sa_cons se_int sa_nil))))) sa_nil)))))
      (sb_cons (ss_set (i := 7) scN rfl (Or.inl rfl) (se_call H_law_own_house (hr.mono (by decide)) rfl hx (sa_cons (se_var 1) (sa_cons (se_var 4) (sa_cons (se_var 5) (sa_cons (se_var 6) (sa_cons (se_var 3) sa_nil)))))))
      (sb_cons (ss_if (PW.pt (sw_and (st_cmp (od_eq hr.units) (se_var 2) se_int (nomark _)) (sw_and1 (st_cmp (od_eq hr.units) (se_call H_law_draw (hr.mono (by decide)) rfl hx (sa_cons (se_var 1) (sa_cons se_int sa_nil))) se_int (nomark _))))) (sb_one (ss_set (i := 7) scN rfl (Or.inl rfl) (se_call H_law_crossed (hr.mono (by decide)) rfl hx (sa_cons (se_var 1) (sa_cons (se_bin od_add se_int (se_call H_law_draw (hr.mono (by decide)) rfl hx (sa_cons (se_var 1) (sa_cons se_int sa_nil)))) (sa_cons (se_var 3) sa_nil)))))) sb_nil)
      (sb_one (ss_if (st_not (st_val (se_callG HG_law_is_right (hr.mono (by decide)) hgd rfl hx (sa_cons (se_var 1) (sa_cons (se_callG HG_law_own_mixed (hr.mono (by decide)) hgd rfl hx (sa_cons (se_var 1) (sa_cons (se_callB cd_len rfl T.n_len bt_len (sa_cons (se_ix (se_var 7) se_int) sa_nil)) (sa_cons (se_ix (se_var 7) se_int) sa_nil)))) sa_nil))))) (sb_one (ss_ret se_bl)) sb_nil))))))))
      (sb_one (ss_ret se_bl))))
end
end Dn
set_option Elab.async false
set_option linter.all false
set_option maxRecDepth 100000
set_option maxHeartbeats 0
/-! Hd_k92: the head, printed by head.py. -/
namespace Dn
open PySem PySem.Spec PyProof.Rows L2
def fnD (x : Str) (st : Stmt) : He.FnD := ⟨(x, none), x, x, defArgs st, defBody st, defScope st⟩
def fnL_0 : List He.FnD := [fnD "is_integer" s_is_integer, fnD "is_within" s_is_within, fnD "held" s_held, fnD "wish" s_wish, fnD "is_try" s_is_try, fnD "entries" s_entries, fnD "places_in" s_places_in, fnD "rooms_held" s_rooms_held, fnD "is_entered" s_is_entered, fnD "rooms_ahead" s_rooms_ahead, fnD "numbers" s_numbers, fnD "numbers_error" s_numbers_error, fnD "rooms_left" s_rooms_left, fnD "room_round" s_room_round, fnD "is_form_of_round" s_is_form_of_round, fnD "round_error" s_round_error, fnD "notify_one" s_notify_one, fnD "fair" s_fair, fnD "_law_own_bag" s_law_own_bag, fnD "_law_draw" s_law_draw, fnD "_law_pick" s_law_pick, fnD "_law_own_way" s_law_own_way, fnD "_law_held" s_law_held, fnD "_law_own_house" s_law_own_house, fnD "_law_crossed" s_law_crossed, fnD "_law_door" s_law_door, fnD "_law_own_mixed" s_law_own_mixed, fnD "_law_own_pairs" s_law_own_pairs, fnD "_law_is_entered" s_law_is_entered, fnD "_law_sorted" s_law_sorted]
def fnL_1 : List He.FnD := [fnD "_law_whole" s_law_whole, fnD "_law_number_due" s_law_number_due, fnD "_law_round_due" s_law_round_due, fnD "_law_values" s_law_values, fnD "_law_is_right" s_law_is_right, fnD "law" s_law]
def fnL : List He.FnD := fnL_0 ++ fnL_1

def faL_0 : List He.Fa := [.free "abs", .free "all", .free "any", .free "bool", .free "enumerate", .free "int", .free "isinstance", .free "len", .free "list", .free "max", .free "min", .free "range", .free "repr", .free "reversed", .free "set", .free "tuple", .glo "is_integer", .keep "is_integer", .glo "is_within", .keep "is_within", .glo "held", .keep "held", .glo "wish", .keep "wish", .glo "is_try", .keep "is_try", .glo "entries", .keep "entries", .glo "places_in", .keep "places_in"]
def faL_1 : List He.Fa := [.glo "rooms_held", .keep "rooms_held", .glo "is_entered", .keep "is_entered", .glo "rooms_ahead", .keep "rooms_ahead", .glo "numbers", .keep "numbers", .glo "numbers_error", .keep "numbers_error", .glo "rooms_left", .keep "rooms_left", .glo "room_round", .keep "room_round", .glo "is_form_of_round", .keep "is_form_of_round", .glo "round_error", .keep "round_error", .glo "notify_one", .keep "notify_one", .glo "fair", .keep "fair", .glo "_law_own_bag", .keep "_law_own_bag", .glo "_law_draw", .keep "_law_draw", .glo "_law_pick", .keep "_law_pick", .glo "_law_own_way", .keep "_law_own_way"]
def faL_2 : List He.Fa := [.glo "_law_held", .keep "_law_held", .glo "_law_own_house", .keep "_law_own_house", .glo "_law_crossed", .keep "_law_crossed", .glo "_law_door", .keep "_law_door", .glo "_law_own_mixed", .keep "_law_own_mixed", .glo "_law_own_pairs", .keep "_law_own_pairs", .glo "_law_is_entered", .keep "_law_is_entered", .glo "_law_sorted", .keep "_law_sorted", .glo "_law_whole", .keep "_law_whole", .glo "_law_number_due", .keep "_law_number_due", .glo "_law_round_due", .keep "_law_round_due", .glo "_law_values", .keep "_law_values", .glo "_law_is_right", .keep "_law_is_right", .glo "law", .keep "law"]
def faL : List He.Fa := faL_0 ++ faL_1 ++ faL_2

def exB (K : PySem.W.Frag) : Bool := true
abbrev Rr : PySem.W.OpenRow := PySem.W.OpenLaw.row PySem.Challenge.rw_manylocks_k92_whole_numbers_or_a_round
abbrev hk : PySem.W.Hook := hookM 5 faL fnL exB
def ob (s : PySem.W.SharedT) : AlM := obsM 5 faL fnL exB (HandSHeadRun.getT s)
theorem ob_eq (s : PySem.W.SharedT) : ob s = hk.obs s.abs := obsM_eq (HandSHeadRun.getT_eq s)
def looseL_0 : List Str := ["is_integer", "is_within", "held", "wish", "is_try", "entries", "places_in", "rooms_held", "is_entered", "rooms_ahead", "numbers", "numbers_error", "rooms_left", "room_round", "is_form_of_round", "round_error", "notify_one", "fair", "_law_own_bag", "_law_draw", "_law_pick", "_law_own_way", "_law_held", "_law_own_house", "_law_crossed", "_law_door", "_law_own_mixed", "_law_own_pairs", "_law_is_entered", "_law_sorted"]
def looseL_1 : List Str := ["_law_whole", "_law_number_due", "_law_round_due", "_law_values", "_law_is_right"]
def looseL : List Str := looseL_0 ++ looseL_1

theorem run (w : World) : HandSHeadRun.RunEq Rr (PySem.W.view Rr.prog [40]) hk ob 4000 looseL w := by
  intro os
  kernel_rfl
theorem facts {P : Program} {w : World} {K : PySem.W.Frag} {h : Heap} {mg : Str → Option Value} {f : Addr} (X : K.In h) (G : h.Ns mainGlobals mg) (hfa : mg ("law" : Str) = some (.ref f)) (c : SaysM faL fnL exB K) :
    ∃ (fd : FuncData) (cl : Str → Value), (∀ (s : Shared) (u : Value), BindsTo s fd ⟨[u], []⟩ [("script", u)]) ∧ ∀ base : Heap, K.In base → base.Ns mainGlobals mg → (∀ p ∈ csOf K, LamX.TabB base mg p.1 p.2) → RunG P w K mg base cl 7 f fd ["script"] d_law := by
  have T : Tx K mg (clG K) := ⟨He.free_ok X G (c.e.fact 0 (f := .free "abs") rfl),
    He.free_ok X G (c.e.fact 1 (f := .free "all") rfl),
    He.free_ok X G (c.e.fact 2 (f := .free "any") rfl),
    He.free_ok X G (c.e.fact 3 (f := .free "bool") rfl),
    He.free_ok X G (c.e.fact 4 (f := .free "enumerate") rfl),
    He.free_ok X G (c.e.fact 5 (f := .free "int") rfl),
    He.free_ok X G (c.e.fact 6 (f := .free "isinstance") rfl),
    He.free_ok X G (c.e.fact 7 (f := .free "len") rfl),
    He.free_ok X G (c.e.fact 8 (f := .free "list") rfl),
    He.free_ok X G (c.e.fact 9 (f := .free "max") rfl),
    He.free_ok X G (c.e.fact 10 (f := .free "min") rfl),
    He.free_ok X G (c.e.fact 11 (f := .free "range") rfl),
    He.free_ok X G (c.e.fact 12 (f := .free "repr") rfl),
    He.free_ok X G (c.e.fact 13 (f := .free "reversed") rfl),
    He.free_ok X G (c.e.fact 14 (f := .free "set") rfl),
    He.free_ok X G (c.e.fact 15 (f := .free "tuple") rfl)⟩
  obtain ⟨_, _, _, _, _, _, _, cdv_is_integer, _, lk_is_integer, cd_is_integer⟩ := c.e.def_ 0 (d := fnD "is_integer" s_is_integer) rfl
  have F_is_integer := fun_mk (st := s_is_integer) lk_is_integer cd_is_integer (He.keep_ok (c.e.fact 17 (f := .keep "is_integer") rfl))
  have g_is_integer : mg "is_integer" = some (.ref (He.ga K "is_integer")) := He.glo_ok X G (c.e.fact 16 (f := .glo "is_integer") rfl)
  have b_is_integer := F_is_integer.binds (ps := ["value"]) fun _ _ _ _ _ _ us hl => match us, hl with | [_], _ => rfl
  obtain ⟨_, _, _, _, _, _, _, cdv_is_within, _, lk_is_within, cd_is_within⟩ := c.e.def_ 1 (d := fnD "is_within" s_is_within) rfl
  have F_is_within := fun_mk (st := s_is_within) lk_is_within cd_is_within (He.keep_ok (c.e.fact 19 (f := .keep "is_within") rfl))
  have g_is_within : mg "is_within" = some (.ref (He.ga K "is_within")) := He.glo_ok X G (c.e.fact 18 (f := .glo "is_within") rfl)
  have b_is_within := F_is_within.binds (ps := ["value", "low", "high"]) fun _ _ _ _ _ _ us hl => match us, hl with | [_, _, _], _ => rfl
  obtain ⟨_, _, _, _, _, _, _, cdv_held, _, lk_held, cd_held⟩ := c.e.def_ 2 (d := fnD "held" s_held) rfl
  have F_held := fun_mk (st := s_held) lk_held cd_held (He.keep_ok (c.e.fact 21 (f := .keep "held") rfl))
  have g_held : mg "held" = some (.ref (He.ga K "held")) := He.glo_ok X G (c.e.fact 20 (f := .glo "held") rfl)
  have b_held := F_held.binds (ps := ["way", "place"]) fun _ _ _ _ _ _ us hl => match us, hl with | [_, _], _ => rfl
  obtain ⟨_, _, _, _, _, _, _, cdv_wish, _, lk_wish, cd_wish⟩ := c.e.def_ 3 (d := fnD "wish" s_wish) rfl
  have F_wish := fun_mk (st := s_wish) lk_wish cd_wish (He.keep_ok (c.e.fact 23 (f := .keep "wish") rfl))
  have g_wish : mg "wish" = some (.ref (He.ga K "wish")) := He.glo_ok X G (c.e.fact 22 (f := .glo "wish") rfl)
  have b_wish := F_wish.binds (ps := ["way", "place"]) fun _ _ _ _ _ _ us hl => match us, hl with | [_, _], _ => rfl
  obtain ⟨_, _, _, _, _, _, _, cdv_is_try, _, lk_is_try, cd_is_try⟩ := c.e.def_ 4 (d := fnD "is_try" s_is_try) rfl
  have F_is_try := fun_mk (st := s_is_try) lk_is_try cd_is_try (He.keep_ok (c.e.fact 25 (f := .keep "is_try") rfl))
  have g_is_try : mg "is_try" = some (.ref (He.ga K "is_try")) := He.glo_ok X G (c.e.fact 24 (f := .glo "is_try") rfl)
  have b_is_try := F_is_try.binds (ps := ["way", "place"]) fun _ _ _ _ _ _ us hl => match us, hl with | [_, _], _ => rfl
  obtain ⟨_, _, _, _, _, _, _, cdv_entries, _, lk_entries, cd_entries⟩ := c.e.def_ 5 (d := fnD "entries" s_entries) rfl
  have F_entries := fun_mk (st := s_entries) lk_entries cd_entries (He.keep_ok (c.e.fact 27 (f := .keep "entries") rfl))
  have g_entries : mg "entries" = some (.ref (He.ga K "entries")) := He.glo_ok X G (c.e.fact 26 (f := .glo "entries") rfl)
  have b_entries := F_entries.binds (ps := ["way"]) fun _ _ _ _ _ _ us hl => match us, hl with | [_], _ => rfl
  obtain ⟨_, _, _, _, _, _, _, cdv_places_in, _, lk_places_in, cd_places_in⟩ := c.e.def_ 6 (d := fnD "places_in" s_places_in) rfl
  have F_places_in := fun_mk (st := s_places_in) lk_places_in cd_places_in (He.keep_ok (c.e.fact 29 (f := .keep "places_in") rfl))
  have g_places_in : mg "places_in" = some (.ref (He.ga K "places_in")) := He.glo_ok X G (c.e.fact 28 (f := .glo "places_in") rfl)
  have b_places_in := F_places_in.binds (ps := ["way"]) fun _ _ _ _ _ _ us hl => match us, hl with | [_], _ => rfl
  obtain ⟨_, _, _, _, _, _, _, cdv_rooms_held, _, lk_rooms_held, cd_rooms_held⟩ := c.e.def_ 7 (d := fnD "rooms_held" s_rooms_held) rfl
  have F_rooms_held := fun_mk (st := s_rooms_held) lk_rooms_held cd_rooms_held (He.keep_ok (c.e.fact 31 (f := .keep "rooms_held") rfl))
  have g_rooms_held : mg "rooms_held" = some (.ref (He.ga K "rooms_held")) := He.glo_ok X G (c.e.fact 30 (f := .glo "rooms_held") rfl)
  have b_rooms_held := F_rooms_held.binds (ps := ["way", "place"]) fun _ _ _ _ _ _ us hl => match us, hl with | [_, _], _ => rfl
  obtain ⟨_, _, _, _, _, _, _, cdv_is_entered, _, lk_is_entered, cd_is_entered⟩ := c.e.def_ 8 (d := fnD "is_entered" s_is_entered) rfl
  have F_is_entered := fun_mk (st := s_is_entered) lk_is_entered cd_is_entered (He.keep_ok (c.e.fact 33 (f := .keep "is_entered") rfl))
  have g_is_entered : mg "is_entered" = some (.ref (He.ga K "is_entered")) := He.glo_ok X G (c.e.fact 32 (f := .glo "is_entered") rfl)
  have b_is_entered := F_is_entered.binds (ps := ["house", "one", "other"]) fun _ _ _ _ _ _ us hl => match us, hl with | [_, _, _], _ => rfl
  obtain ⟨_, _, _, _, _, _, _, cdv_rooms_ahead, _, lk_rooms_ahead, cd_rooms_ahead⟩ := c.e.def_ 9 (d := fnD "rooms_ahead" s_rooms_ahead) rfl
  have F_rooms_ahead := fun_mk (st := s_rooms_ahead) lk_rooms_ahead cd_rooms_ahead (He.keep_ok (c.e.fact 35 (f := .keep "rooms_ahead") rfl))
  have g_rooms_ahead : mg "rooms_ahead" = some (.ref (He.ga K "rooms_ahead")) := He.glo_ok X G (c.e.fact 34 (f := .glo "rooms_ahead") rfl)
  have b_rooms_ahead := F_rooms_ahead.binds (ps := ["house"]) fun _ _ _ _ _ _ us hl => match us, hl with | [_], _ => rfl
  obtain ⟨_, _, _, _, _, _, _, cdv_numbers, _, lk_numbers, cd_numbers⟩ := c.e.def_ 10 (d := fnD "numbers" s_numbers) rfl
  have F_numbers := fun_mk (st := s_numbers) lk_numbers cd_numbers (He.keep_ok (c.e.fact 37 (f := .keep "numbers") rfl))
  have g_numbers : mg "numbers" = some (.ref (He.ga K "numbers")) := He.glo_ok X G (c.e.fact 36 (f := .glo "numbers") rfl)
  have b_numbers := F_numbers.binds (ps := ["house"]) fun _ _ _ _ _ _ us hl => match us, hl with | [_], _ => rfl
  obtain ⟨_, _, _, _, _, _, _, cdv_numbers_error, _, lk_numbers_error, cd_numbers_error⟩ := c.e.def_ 11 (d := fnD "numbers_error" s_numbers_error) rfl
  have F_numbers_error := fun_mk (st := s_numbers_error) lk_numbers_error cd_numbers_error (He.keep_ok (c.e.fact 39 (f := .keep "numbers_error") rfl))
  have g_numbers_error : mg "numbers_error" = some (.ref (He.ga K "numbers_error")) := He.glo_ok X G (c.e.fact 38 (f := .glo "numbers_error") rfl)
  have b_numbers_error := F_numbers_error.binds (ps := ["house", "value"]) fun _ _ _ _ _ _ us hl => match us, hl with | [_, _], _ => rfl
  obtain ⟨_, _, _, _, _, _, _, cdv_rooms_left, _, lk_rooms_left, cd_rooms_left⟩ := c.e.def_ 12 (d := fnD "rooms_left" s_rooms_left) rfl
  have F_rooms_left := fun_mk (st := s_rooms_left) lk_rooms_left cd_rooms_left (He.keep_ok (c.e.fact 41 (f := .keep "rooms_left") rfl))
  have g_rooms_left : mg "rooms_left" = some (.ref (He.ga K "rooms_left")) := He.glo_ok X G (c.e.fact 40 (f := .glo "rooms_left") rfl)
  have b_rooms_left := F_rooms_left.binds (ps := ["ahead"]) fun _ _ _ _ _ _ us hl => match us, hl with | [_], _ => rfl
  obtain ⟨_, _, _, _, _, _, _, cdv_room_round, _, lk_room_round, cd_room_round⟩ := c.e.def_ 13 (d := fnD "room_round" s_room_round) rfl
  have F_room_round := fun_mk (st := s_room_round) lk_room_round cd_room_round (He.keep_ok (c.e.fact 43 (f := .keep "room_round") rfl))
  have g_room_round : mg "room_round" = some (.ref (He.ga K "room_round")) := He.glo_ok X G (c.e.fact 42 (f := .glo "room_round") rfl)
  have b_room_round := F_room_round.binds (ps := ["house"]) fun _ _ _ _ _ _ us hl => match us, hl with | [_], _ => rfl
  obtain ⟨_, _, _, _, _, _, _, cdv_is_form_of_round, _, lk_is_form_of_round, cd_is_form_of_round⟩ := c.e.def_ 14 (d := fnD "is_form_of_round" s_is_form_of_round) rfl
  have F_is_form_of_round := fun_mk (st := s_is_form_of_round) lk_is_form_of_round cd_is_form_of_round (He.keep_ok (c.e.fact 45 (f := .keep "is_form_of_round") rfl))
  have g_is_form_of_round : mg "is_form_of_round" = some (.ref (He.ga K "is_form_of_round")) := He.glo_ok X G (c.e.fact 44 (f := .glo "is_form_of_round") rfl)
  have b_is_form_of_round := F_is_form_of_round.binds (ps := ["house", "value"]) fun _ _ _ _ _ _ us hl => match us, hl with | [_, _], _ => rfl
  obtain ⟨_, _, _, _, _, _, _, cdv_round_error, _, lk_round_error, cd_round_error⟩ := c.e.def_ 15 (d := fnD "round_error" s_round_error) rfl
  have F_round_error := fun_mk (st := s_round_error) lk_round_error cd_round_error (He.keep_ok (c.e.fact 47 (f := .keep "round_error") rfl))
  have g_round_error : mg "round_error" = some (.ref (He.ga K "round_error")) := He.glo_ok X G (c.e.fact 46 (f := .glo "round_error") rfl)
  have b_round_error := F_round_error.binds (ps := ["house", "value"]) fun _ _ _ _ _ _ us hl => match us, hl with | [_, _], _ => rfl
  obtain ⟨_, _, _, _, _, _, _, cdv_notify_one, _, lk_notify_one, cd_notify_one⟩ := c.e.def_ 16 (d := fnD "notify_one" s_notify_one) rfl
  have F_notify_one := fun_mk (st := s_notify_one) lk_notify_one cd_notify_one (He.keep_ok (c.e.fact 49 (f := .keep "notify_one") rfl))
  have g_notify_one : mg "notify_one" = some (.ref (He.ga K "notify_one")) := He.glo_ok X G (c.e.fact 48 (f := .glo "notify_one") rfl)
  have b_notify_one := F_notify_one.binds (ps := []) fun _ _ _ _ _ _ us hl => match us, hl with | [], _ => rfl
  obtain ⟨_, _, _, _, _, _, _, cdv_fair, _, lk_fair, cd_fair⟩ := c.e.def_ 17 (d := fnD "fair" s_fair) rfl
  have F_fair := fun_mk (st := s_fair) lk_fair cd_fair (He.keep_ok (c.e.fact 51 (f := .keep "fair") rfl))
  have g_fair : mg "fair" = some (.ref (He.ga K "fair")) := He.glo_ok X G (c.e.fact 50 (f := .glo "fair") rfl)
  have b_fair := F_fair.binds (ps := []) fun _ _ _ _ _ _ us hl => match us, hl with | [], _ => rfl
  obtain ⟨_, _, _, _, _, _, _, cdv_law_own_bag, _, lk_law_own_bag, cd_law_own_bag⟩ := c.e.def_ 18 (d := fnD "_law_own_bag" s_law_own_bag) rfl
  have F_law_own_bag := fun_mk (st := s_law_own_bag) lk_law_own_bag cd_law_own_bag (He.keep_ok (c.e.fact 53 (f := .keep "_law_own_bag") rfl))
  have g_law_own_bag : mg "_law_own_bag" = some (.ref (He.ga K "_law_own_bag")) := He.glo_ok X G (c.e.fact 52 (f := .glo "_law_own_bag") rfl)
  have b_law_own_bag := F_law_own_bag.binds (ps := ["script"]) fun _ _ _ _ _ _ us hl => match us, hl with | [_], _ => rfl
  obtain ⟨_, _, _, _, _, _, _, cdv_law_draw, _, lk_law_draw, cd_law_draw⟩ := c.e.def_ 19 (d := fnD "_law_draw" s_law_draw) rfl
  have F_law_draw := fun_mk (st := s_law_draw) lk_law_draw cd_law_draw (He.keep_ok (c.e.fact 55 (f := .keep "_law_draw") rfl))
  have g_law_draw : mg "_law_draw" = some (.ref (He.ga K "_law_draw")) := He.glo_ok X G (c.e.fact 54 (f := .glo "_law_draw") rfl)
  have b_law_draw := F_law_draw.binds (ps := ["bag", "below"]) fun _ _ _ _ _ _ us hl => match us, hl with | [_, _], _ => rfl
  obtain ⟨_, _, _, _, _, _, _, cdv_law_pick, _, lk_law_pick, cd_law_pick⟩ := c.e.def_ 20 (d := fnD "_law_pick" s_law_pick) rfl
  have F_law_pick := fun_mk (st := s_law_pick) lk_law_pick cd_law_pick (He.keep_ok (c.e.fact 57 (f := .keep "_law_pick") rfl))
  have g_law_pick : mg "_law_pick" = some (.ref (He.ga K "_law_pick")) := He.glo_ok X G (c.e.fact 56 (f := .glo "_law_pick") rfl)
  have b_law_pick := F_law_pick.binds (ps := ["bag", "some"]) fun _ _ _ _ _ _ us hl => match us, hl with | [_, _], _ => rfl
  obtain ⟨_, _, _, _, _, _, _, cdv_law_own_way, _, lk_law_own_way, cd_law_own_way⟩ := c.e.def_ 21 (d := fnD "_law_own_way" s_law_own_way) rfl
  have F_law_own_way := fun_mk (st := s_law_own_way) lk_law_own_way cd_law_own_way (He.keep_ok (c.e.fact 59 (f := .keep "_law_own_way") rfl))
  have g_law_own_way : mg "_law_own_way" = some (.ref (He.ga K "_law_own_way")) := He.glo_ok X G (c.e.fact 58 (f := .glo "_law_own_way") rfl)
  have b_law_own_way := F_law_own_way.binds (ps := ["bag", "rooms", "most", "kinds"]) fun _ _ _ _ _ _ us hl => match us, hl with | [_, _, _, _], _ => rfl
  obtain ⟨_, _, _, _, _, _, _, cdv_law_held, _, lk_law_held, cd_law_held⟩ := c.e.def_ 22 (d := fnD "_law_held" s_law_held) rfl
  have F_law_held := fun_mk (st := s_law_held) lk_law_held cd_law_held (He.keep_ok (c.e.fact 61 (f := .keep "_law_held") rfl))
  have g_law_held : mg "_law_held" = some (.ref (He.ga K "_law_held")) := He.glo_ok X G (c.e.fact 60 (f := .glo "_law_held") rfl)
  have b_law_held := F_law_held.binds (ps := ["way", "place"]) fun _ _ _ _ _ _ us hl => match us, hl with | [_, _], _ => rfl
  obtain ⟨_, _, _, _, _, _, _, cdv_law_own_house, _, lk_law_own_house, cd_law_own_house⟩ := c.e.def_ 23 (d := fnD "_law_own_house" s_law_own_house) rfl
  have F_law_own_house := fun_mk (st := s_law_own_house) lk_law_own_house cd_law_own_house (He.keep_ok (c.e.fact 63 (f := .keep "_law_own_house") rfl))
  have g_law_own_house : mg "_law_own_house" = some (.ref (He.ga K "_law_own_house")) := He.glo_ok X G (c.e.fact 62 (f := .glo "_law_own_house") rfl)
  have b_law_own_house := F_law_own_house.binds (ps := ["bag", "hands", "many", "most", "kinds"]) fun _ _ _ _ _ _ us hl => match us, hl with | [_, _, _, _, _], _ => rfl
  obtain ⟨_, _, _, _, _, _, _, cdv_law_crossed, _, lk_law_crossed, cd_law_crossed⟩ := c.e.def_ 24 (d := fnD "_law_crossed" s_law_crossed) rfl
  have F_law_crossed := fun_mk (st := s_law_crossed) lk_law_crossed cd_law_crossed (He.keep_ok (c.e.fact 65 (f := .keep "_law_crossed") rfl))
  have g_law_crossed : mg "_law_crossed" = some (.ref (He.ga K "_law_crossed")) := He.glo_ok X G (c.e.fact 64 (f := .glo "_law_crossed") rfl)
  have b_law_crossed := F_law_crossed.binds (ps := ["bag", "hands", "kinds"]) fun _ _ _ _ _ _ us hl => match us, hl with | [_, _, _], _ => rfl
  obtain ⟨_, _, _, _, _, _, _, cdv_law_door, _, lk_law_door, cd_law_door⟩ := c.e.def_ 25 (d := fnD "_law_door" s_law_door) rfl
  have F_law_door := fun_mk (st := s_law_door) lk_law_door cd_law_door (He.keep_ok (c.e.fact 67 (f := .keep "_law_door") rfl))
  have g_law_door : mg "_law_door" = some (.ref (He.ga K "_law_door")) := He.glo_ok X G (c.e.fact 66 (f := .glo "_law_door") rfl)
  have b_law_door := F_law_door.binds (ps := ["bag", "hands"]) fun _ _ _ _ _ _ us hl => match us, hl with | [_, _], _ => rfl
  obtain ⟨_, _, _, _, _, _, _, cdv_law_own_mixed, _, lk_law_own_mixed, cd_law_own_mixed⟩ := c.e.def_ 26 (d := fnD "_law_own_mixed" s_law_own_mixed) rfl
  have F_law_own_mixed := fun_mk (st := s_law_own_mixed) lk_law_own_mixed cd_law_own_mixed (He.keep_ok (c.e.fact 69 (f := .keep "_law_own_mixed") rfl))
  have g_law_own_mixed : mg "_law_own_mixed" = some (.ref (He.ga K "_law_own_mixed")) := He.glo_ok X G (c.e.fact 68 (f := .glo "_law_own_mixed") rfl)
  have b_law_own_mixed := F_law_own_mixed.binds (ps := ["bag", "rooms", "paths"]) fun _ _ _ _ _ _ us hl => match us, hl with | [_, _, _], _ => rfl
  obtain ⟨_, _, _, _, _, _, _, cdv_law_own_pairs, _, lk_law_own_pairs, cd_law_own_pairs⟩ := c.e.def_ 27 (d := fnD "_law_own_pairs" s_law_own_pairs) rfl
  have F_law_own_pairs := fun_mk (st := s_law_own_pairs) lk_law_own_pairs cd_law_own_pairs (He.keep_ok (c.e.fact 71 (f := .keep "_law_own_pairs") rfl))
  have g_law_own_pairs : mg "_law_own_pairs" = some (.ref (He.ga K "_law_own_pairs")) := He.glo_ok X G (c.e.fact 70 (f := .glo "_law_own_pairs") rfl)
  have b_law_own_pairs := F_law_own_pairs.binds (ps := ["paths"]) fun _ _ _ _ _ _ us hl => match us, hl with | [_], _ => rfl
  obtain ⟨_, _, _, _, _, _, _, cdv_law_is_entered, _, lk_law_is_entered, cd_law_is_entered⟩ := c.e.def_ 28 (d := fnD "_law_is_entered" s_law_is_entered) rfl
  have F_law_is_entered := fun_mk (st := s_law_is_entered) lk_law_is_entered cd_law_is_entered (He.keep_ok (c.e.fact 73 (f := .keep "_law_is_entered") rfl))
  have g_law_is_entered : mg "_law_is_entered" = some (.ref (He.ga K "_law_is_entered")) := He.glo_ok X G (c.e.fact 72 (f := .glo "_law_is_entered") rfl)
  have b_law_is_entered := F_law_is_entered.binds (ps := ["pairs", "one", "other"]) fun _ _ _ _ _ _ us hl => match us, hl with | [_, _, _], _ => rfl
  obtain ⟨_, _, _, _, _, _, _, cdv_law_sorted, _, lk_law_sorted, cd_law_sorted⟩ := c.e.def_ 29 (d := fnD "_law_sorted" s_law_sorted) rfl
  have F_law_sorted := fun_mk (st := s_law_sorted) lk_law_sorted cd_law_sorted (He.keep_ok (c.e.fact 75 (f := .keep "_law_sorted") rfl))
  have g_law_sorted : mg "_law_sorted" = some (.ref (He.ga K "_law_sorted")) := He.glo_ok X G (c.e.fact 74 (f := .glo "_law_sorted") rfl)
  have b_law_sorted := F_law_sorted.binds (ps := ["pairs", "rooms"]) fun _ _ _ _ _ _ us hl => match us, hl with | [_, _], _ => rfl
  obtain ⟨_, _, _, _, _, _, _, cdv_law_whole, _, lk_law_whole, cd_law_whole⟩ := c.e.def_ 30 (d := fnD "_law_whole" s_law_whole) rfl
  have F_law_whole := fun_mk (st := s_law_whole) lk_law_whole cd_law_whole (He.keep_ok (c.e.fact 77 (f := .keep "_law_whole") rfl))
  have g_law_whole : mg "_law_whole" = some (.ref (He.ga K "_law_whole")) := He.glo_ok X G (c.e.fact 76 (f := .glo "_law_whole") rfl)
  have b_law_whole := F_law_whole.binds (ps := ["value", "below"]) fun _ _ _ _ _ _ us hl => match us, hl with | [_, _], _ => rfl
  obtain ⟨_, _, _, _, _, _, _, cdv_law_number_due, _, lk_law_number_due, cd_law_number_due⟩ := c.e.def_ 31 (d := fnD "_law_number_due" s_law_number_due) rfl
  have F_law_number_due := fun_mk (st := s_law_number_due) lk_law_number_due cd_law_number_due (He.keep_ok (c.e.fact 79 (f := .keep "_law_number_due") rfl))
  have g_law_number_due : mg "_law_number_due" = some (.ref (He.ga K "_law_number_due")) := He.glo_ok X G (c.e.fact 78 (f := .glo "_law_number_due") rfl)
  have b_law_number_due := F_law_number_due.binds (ps := ["pairs", "rooms", "value"]) fun _ _ _ _ _ _ us hl => match us, hl with | [_, _, _], _ => rfl
  obtain ⟨_, _, _, _, _, _, _, cdv_law_round_due, _, lk_law_round_due, cd_law_round_due⟩ := c.e.def_ 32 (d := fnD "_law_round_due" s_law_round_due) rfl
  have F_law_round_due := fun_mk (st := s_law_round_due) lk_law_round_due cd_law_round_due (He.keep_ok (c.e.fact 81 (f := .keep "_law_round_due") rfl))
  have g_law_round_due : mg "_law_round_due" = some (.ref (He.ga K "_law_round_due")) := He.glo_ok X G (c.e.fact 80 (f := .glo "_law_round_due") rfl)
  have b_law_round_due := F_law_round_due.binds (ps := ["pairs", "rooms", "value"]) fun _ _ _ _ _ _ us hl => match us, hl with | [_, _, _], _ => rfl
  obtain ⟨_, _, _, _, _, _, _, cdv_law_values, _, lk_law_values, cd_law_values⟩ := c.e.def_ 33 (d := fnD "_law_values" s_law_values) rfl
  have F_law_values := fun_mk (st := s_law_values) lk_law_values cd_law_values (He.keep_ok (c.e.fact 83 (f := .keep "_law_values") rfl))
  have g_law_values : mg "_law_values" = some (.ref (He.ga K "_law_values")) := He.glo_ok X G (c.e.fact 82 (f := .glo "_law_values") rfl)
  have b_law_values := F_law_values.binds (ps := ["bag", "rooms", "row"]) fun _ _ _ _ _ _ us hl => match us, hl with | [_, _, _], _ => rfl
  obtain ⟨_, _, _, _, _, _, _, cdv_law_is_right, _, lk_law_is_right, cd_law_is_right⟩ := c.e.def_ 34 (d := fnD "_law_is_right" s_law_is_right) rfl
  have F_law_is_right := fun_mk (st := s_law_is_right) lk_law_is_right cd_law_is_right (He.keep_ok (c.e.fact 85 (f := .keep "_law_is_right") rfl))
  have g_law_is_right : mg "_law_is_right" = some (.ref (He.ga K "_law_is_right")) := He.glo_ok X G (c.e.fact 84 (f := .glo "_law_is_right") rfl)
  have b_law_is_right := F_law_is_right.binds (ps := ["bag", "house"]) fun _ _ _ _ _ _ us hl => match us, hl with | [_, _], _ => rfl
  obtain ⟨_, _, _, kVl, dcl, pml, anl, cdv_law, ctl, lk_law, cd_law⟩ := c.e.def_ 35 (d := fnD "law" s_law) rfl
  have F_law := fun_mk (st := s_law) lk_law cd_law (He.keep_ok (c.e.fact 87 (f := .keep "law") rfl))
  have g_law : mg "law" = some (.ref (He.ga K "law")) := He.glo_ok X G (c.e.fact 86 (f := .glo "law") rfl)
  have e := hfa.symm.trans g_law
  cases e
  refine ⟨PySem.W.fnOf "law" "law" (defArgs s_law) (defBody s_law) (defScope s_law) .none kVl dcl pml anl cdv_law ctl, clG K, fun s v => .of_eq rfl, fun base B1 B2 TBs => ?_⟩
  have O_is_integer := ok_is_integer (P := P) (w := w) (base := base) T F_is_integer
  have H_is_integer : Has P w K mg base (clG K) "is_integer" 1 d_is_integer := ⟨⟨He.ga K "is_integer", _, ["value"], O_is_integer, g_is_integer, F_is_integer.kp, b_is_integer⟩⟩
  have O_is_within := ok_is_within (P := P) (w := w) (base := base) T F_is_within H_is_integer
  have H_is_within : Has P w K mg base (clG K) "is_within" 2 d_is_within := ⟨⟨He.ga K "is_within", _, ["value", "low", "high"], O_is_within, g_is_within, F_is_within.kp, b_is_within⟩⟩
  have O_held := ok_held (P := P) (w := w) (base := base) T F_held
  have H_held : Has P w K mg base (clG K) "held" 1 d_held := ⟨⟨He.ga K "held", _, ["way", "place"], O_held, g_held, F_held.kp, b_held⟩⟩
  have O_wish := ok_wish (P := P) (w := w) (base := base) T F_wish
  have H_wish : Has P w K mg base (clG K) "wish" 1 d_wish := ⟨⟨He.ga K "wish", _, ["way", "place"], O_wish, g_wish, F_wish.kp, b_wish⟩⟩
  have O_is_try := ok_is_try (P := P) (w := w) (base := base) T F_is_try
  have H_is_try : Has P w K mg base (clG K) "is_try" 1 d_is_try := ⟨⟨He.ga K "is_try", _, ["way", "place"], O_is_try, g_is_try, F_is_try.kp, b_is_try⟩⟩
  have O_entries := ok_entries (P := P) (w := w) (base := base) T F_entries
  have H_entries : Has P w K mg base (clG K) "entries" 1 d_entries := ⟨⟨He.ga K "entries", _, ["way"], O_entries, g_entries, F_entries.kp, b_entries⟩⟩
  have O_places_in := ok_places_in (P := P) (w := w) (base := base) T F_places_in H_entries H_is_try
  have H_places_in : Has P w K mg base (clG K) "places_in" 2 d_places_in := ⟨⟨He.ga K "places_in", _, ["way"], O_places_in, g_places_in, F_places_in.kp, b_places_in⟩⟩
  have O_rooms_held := ok_rooms_held (P := P) (w := w) (base := base) T F_rooms_held H_held
  have H_rooms_held : Has P w K mg base (clG K) "rooms_held" 2 d_rooms_held := ⟨⟨He.ga K "rooms_held", _, ["way", "place"], O_rooms_held, g_rooms_held, F_rooms_held.kp, b_rooms_held⟩⟩
  have O_is_entered := ok_is_entered (P := P) (w := w) (base := base) T F_is_entered H_places_in H_rooms_held H_wish
  have H_is_entered : Has P w K mg base (clG K) "is_entered" 3 d_is_entered := ⟨⟨He.ga K "is_entered", _, ["house", "one", "other"], O_is_entered, g_is_entered, F_is_entered.kp, b_is_entered⟩⟩
  have O_rooms_ahead := ok_rooms_ahead (P := P) (w := w) (base := base) T F_rooms_ahead H_is_entered
  have H_rooms_ahead : Has P w K mg base (clG K) "rooms_ahead" 4 d_rooms_ahead := ⟨⟨He.ga K "rooms_ahead", _, ["house"], O_rooms_ahead, g_rooms_ahead, F_rooms_ahead.kp, b_rooms_ahead⟩⟩
  have O_numbers := ok_numbers (P := P) (w := w) (base := base) T F_numbers H_rooms_ahead
  have H_numbers : Has P w K mg base (clG K) "numbers" 5 d_numbers := ⟨⟨He.ga K "numbers", _, ["house"], O_numbers, g_numbers, F_numbers.kp, b_numbers⟩⟩
  have HK_numbers : HasK P w K mg base (clG K) "numbers" 5 ["house"] [0] d_numbers := ⟨⟨He.ga K "numbers", _, ["house"], O_numbers, g_numbers, F_numbers.kp, fun s ws _ hl => match ws, hl with | [_], _ => .of_eq rfl⟩⟩
  have O_numbers_error := ok_numbers_error (P := P) (w := w) (base := base) T F_numbers_error H_is_within H_places_in H_rooms_held H_wish
  have H_numbers_error : Has P w K mg base (clG K) "numbers_error" 3 d_numbers_error := ⟨⟨He.ga K "numbers_error", _, ["house", "value"], O_numbers_error, g_numbers_error, F_numbers_error.kp, b_numbers_error⟩⟩
  have HK_numbers_error : HasK P w K mg base (clG K) "numbers_error" 3 ["house", "value"] [0, 1] d_numbers_error := ⟨⟨He.ga K "numbers_error", _, ["house", "value"], O_numbers_error, g_numbers_error, F_numbers_error.kp, fun s ws _ hl => match ws, hl with | [_, _], _ => .of_eq rfl⟩⟩
  have O_rooms_left := ok_rooms_left (P := P) (w := w) (base := base) T F_rooms_left
  have H_rooms_left : Has P w K mg base (clG K) "rooms_left" 1 d_rooms_left := ⟨⟨He.ga K "rooms_left", _, ["ahead"], O_rooms_left, g_rooms_left, F_rooms_left.kp, b_rooms_left⟩⟩
  have O_room_round := ok_room_round (P := P) (w := w) (base := base) T F_room_round H_rooms_ahead H_rooms_left
  have H_room_round : Has P w K mg base (clG K) "room_round" 5 d_room_round := ⟨⟨He.ga K "room_round", _, ["house"], O_room_round, g_room_round, F_room_round.kp, b_room_round⟩⟩
  have HK_room_round : HasK P w K mg base (clG K) "room_round" 5 ["house"] [0] d_room_round := ⟨⟨He.ga K "room_round", _, ["house"], O_room_round, g_room_round, F_room_round.kp, fun s ws _ hl => match ws, hl with | [_], _ => .of_eq rfl⟩⟩
  have O_is_form_of_round := ok_is_form_of_round (P := P) (w := w) (base := base) T F_is_form_of_round H_is_within
  have H_is_form_of_round : Has P w K mg base (clG K) "is_form_of_round" 3 d_is_form_of_round := ⟨⟨He.ga K "is_form_of_round", _, ["house", "value"], O_is_form_of_round, g_is_form_of_round, F_is_form_of_round.kp, b_is_form_of_round⟩⟩
  have O_round_error := ok_round_error (P := P) (w := w) (base := base) T F_round_error H_is_entered H_is_form_of_round
  have H_round_error : Has P w K mg base (clG K) "round_error" 4 d_round_error := ⟨⟨He.ga K "round_error", _, ["house", "value"], O_round_error, g_round_error, F_round_error.kp, b_round_error⟩⟩
  have HK_round_error : HasK P w K mg base (clG K) "round_error" 4 ["house", "value"] [0, 1] d_round_error := ⟨⟨He.ga K "round_error", _, ["house", "value"], O_round_error, g_round_error, F_round_error.kp, fun s ws _ hl => match ws, hl with | [_, _], _ => .of_eq rfl⟩⟩
  have O_notify_one := ok_notify_one (P := P) (w := w) (base := base) T F_notify_one
  have H_notify_one : Has P w K mg base (clG K) "notify_one" 1 d_notify_one := ⟨⟨He.ga K "notify_one", _, [], O_notify_one, g_notify_one, F_notify_one.kp, b_notify_one⟩⟩
  have HK_notify_one : HasK P w K mg base (clG K) "notify_one" 1 [] [] d_notify_one := ⟨⟨He.ga K "notify_one", _, [], O_notify_one, g_notify_one, F_notify_one.kp, fun s ws _ hl => match ws, hl with | [], _ => .of_eq rfl⟩⟩
  have O_fair := ok_fair (P := P) (w := w) (base := base) T F_fair
  have H_fair : Has P w K mg base (clG K) "fair" 1 d_fair := ⟨⟨He.ga K "fair", _, [], O_fair, g_fair, F_fair.kp, b_fair⟩⟩
  have HK_fair : HasK P w K mg base (clG K) "fair" 1 [] [] d_fair := ⟨⟨He.ga K "fair", _, [], O_fair, g_fair, F_fair.kp, fun s ws _ hl => match ws, hl with | [], _ => .of_eq rfl⟩⟩
  have O_law_own_bag := ok_law_own_bag (P := P) (w := w) (base := base) T F_law_own_bag
  have H_law_own_bag : Has P w K mg base (clG K) "_law_own_bag" 1 d_law_own_bag := ⟨⟨He.ga K "_law_own_bag", _, ["script"], O_law_own_bag, g_law_own_bag, F_law_own_bag.kp, b_law_own_bag⟩⟩
  have O_law_draw := ok_law_draw (P := P) (w := w) (base := base) T F_law_draw
  have H_law_draw : Has P w K mg base (clG K) "_law_draw" 1 d_law_draw := ⟨⟨He.ga K "_law_draw", _, ["bag", "below"], O_law_draw, g_law_draw, F_law_draw.kp, b_law_draw⟩⟩
  have O_law_pick := ok_law_pick (P := P) (w := w) (base := base) T F_law_pick H_law_draw
  have H_law_pick : Has P w K mg base (clG K) "_law_pick" 2 d_law_pick := ⟨⟨He.ga K "_law_pick", _, ["bag", "some"], O_law_pick, g_law_pick, F_law_pick.kp, b_law_pick⟩⟩
  have O_law_own_way := ok_law_own_way (P := P) (w := w) (base := base) T F_law_own_way H_law_draw H_law_pick
  have H_law_own_way : Has P w K mg base (clG K) "_law_own_way" 3 d_law_own_way := ⟨⟨He.ga K "_law_own_way", _, ["bag", "rooms", "most", "kinds"], O_law_own_way, g_law_own_way, F_law_own_way.kp, b_law_own_way⟩⟩
  have O_law_held := ok_law_held (P := P) (w := w) (base := base) T F_law_held
  have H_law_held : Has P w K mg base (clG K) "_law_held" 1 d_law_held := ⟨⟨He.ga K "_law_held", _, ["way", "place"], O_law_held, g_law_held, F_law_held.kp, b_law_held⟩⟩
  have O_law_own_house := ok_law_own_house (P := P) (w := w) (base := base) T F_law_own_house H_law_own_way
  have H_law_own_house : Has P w K mg base (clG K) "_law_own_house" 4 d_law_own_house := ⟨⟨He.ga K "_law_own_house", _, ["bag", "hands", "many", "most", "kinds"], O_law_own_house, g_law_own_house, F_law_own_house.kp, b_law_own_house⟩⟩
  have O_law_crossed := ok_law_crossed (P := P) (w := w) (base := base) T F_law_crossed H_law_draw
  have H_law_crossed : Has P w K mg base (clG K) "_law_crossed" 2 d_law_crossed := ⟨⟨He.ga K "_law_crossed", _, ["bag", "hands", "kinds"], O_law_crossed, g_law_crossed, F_law_crossed.kp, b_law_crossed⟩⟩
  have O_law_door := ok_law_door (P := P) (w := w) (base := base) T F_law_door H_law_draw H_law_pick
  have H_law_door : Has P w K mg base (clG K) "_law_door" 3 d_law_door := ⟨⟨He.ga K "_law_door", _, ["bag", "hands"], O_law_door, g_law_door, F_law_door.kp, b_law_door⟩⟩
  have O_law_own_mixed := ok_law_own_mixed (P := P) (w := w) (base := base) T F_law_own_mixed H_law_door H_law_draw H_law_pick HK_fair HK_notify_one
  have HG_law_own_mixed : HasG P w K mg base (clG K) "_law_own_mixed" 4 d_law_own_mixed := ⟨⟨He.ga K "_law_own_mixed", _, ["bag", "rooms", "paths"], O_law_own_mixed, g_law_own_mixed, F_law_own_mixed.kp, b_law_own_mixed, fun ds S h => dFn_bad ds S h⟩⟩
  have O_law_own_pairs := ok_law_own_pairs (P := P) (w := w) (base := base) T F_law_own_pairs H_law_held
  have H_law_own_pairs : Has P w K mg base (clG K) "_law_own_pairs" 2 d_law_own_pairs := ⟨⟨He.ga K "_law_own_pairs", _, ["paths"], O_law_own_pairs, g_law_own_pairs, F_law_own_pairs.kp, b_law_own_pairs⟩⟩
  have O_law_is_entered := ok_law_is_entered (P := P) (w := w) (base := base) T F_law_is_entered
  have H_law_is_entered : Has P w K mg base (clG K) "_law_is_entered" 1 d_law_is_entered := ⟨⟨He.ga K "_law_is_entered", _, ["pairs", "one", "other"], O_law_is_entered, g_law_is_entered, F_law_is_entered.kp, b_law_is_entered⟩⟩
  have O_law_sorted := ok_law_sorted (P := P) (w := w) (base := base) T F_law_sorted H_law_is_entered
  have H_law_sorted : Has P w K mg base (clG K) "_law_sorted" 2 d_law_sorted := ⟨⟨He.ga K "_law_sorted", _, ["pairs", "rooms"], O_law_sorted, g_law_sorted, F_law_sorted.kp, b_law_sorted⟩⟩
  have O_law_whole := ok_law_whole (P := P) (w := w) (base := base) T F_law_whole
  have H_law_whole : Has P w K mg base (clG K) "_law_whole" 1 d_law_whole := ⟨⟨He.ga K "_law_whole", _, ["value", "below"], O_law_whole, g_law_whole, F_law_whole.kp, b_law_whole⟩⟩
  have O_law_number_due := ok_law_number_due (P := P) (w := w) (base := base) T F_law_number_due H_law_whole
  have H_law_number_due : Has P w K mg base (clG K) "_law_number_due" 2 d_law_number_due := ⟨⟨He.ga K "_law_number_due", _, ["pairs", "rooms", "value"], O_law_number_due, g_law_number_due, F_law_number_due.kp, b_law_number_due⟩⟩
  have O_law_round_due := ok_law_round_due (P := P) (w := w) (base := base) T F_law_round_due H_law_is_entered H_law_whole
  have H_law_round_due : Has P w K mg base (clG K) "_law_round_due" 2 d_law_round_due := ⟨⟨He.ga K "_law_round_due", _, ["pairs", "rooms", "value"], O_law_round_due, g_law_round_due, F_law_round_due.kp, b_law_round_due⟩⟩
  have O_law_values := ok_law_values (P := P) (w := w) (base := base) T F_law_values H_law_draw H_law_pick
  have H_law_values : Has P w K mg base (clG K) "_law_values" 3 d_law_values := ⟨⟨He.ga K "_law_values", _, ["bag", "rooms", "row"], O_law_values, g_law_values, F_law_values.kp, b_law_values⟩⟩
  have O_law_is_right := ok_law_is_right (P := P) (w := w) (base := base) T F_law_is_right H_law_number_due H_law_own_pairs H_law_round_due H_law_sorted H_law_values H_numbers H_numbers_error H_room_round H_round_error HK_numbers_error HK_round_error HK_numbers HK_room_round
  have HG_law_is_right : HasG P w K mg base (clG K) "_law_is_right" 6 d_law_is_right := ⟨⟨He.ga K "_law_is_right", _, ["bag", "house"], O_law_is_right, g_law_is_right, F_law_is_right.kp, b_law_is_right, fun ds S h => dFn_bad ds S h⟩⟩
  exact ok_law T F_law H_law_crossed H_law_draw HG_law_is_right H_law_own_bag H_law_own_house HG_law_own_mixed H_law_pick
end Dn
set_option Elab.async false
set_option linter.all false
set_option maxRecDepth 100000
set_option maxHeartbeats 1000000
/-! Lk0: plain readings of the denotations: results that end well. -/
noncomputable section
namespace Dn
open PySem L2

def Ok {α : Type} (r : Res α) (P : α → Sto → Prop) : Prop := match r with
  | .ok a S => P a S
  | _ => False
section
variable {α β : Type} {r : Res α} {P Q : α → Sto → Prop}
@[simp] theorem Ok_ok {a : α} {S : Sto} : Ok (.ok a S) P = P a S := rfl
@[simp] theorem Ok_bad : Ok (.bad : Res α) P = False := rfl
@[simp] theorem Ok_exc {c : Str} {S : Sto} : Ok (.exc c S : Res α) P = False := rfl
@[simp] theorem Ok_bnd {f : α → Sto → Res β} {P : β → Sto → Prop} : Ok (r.bnd f) P = Ok r fun a S => Ok (f a S) P := by cases r <;> rfl
theorem Ok.imp (h : Ok r P) (i : ∀ a S, P a S → Q a S) : Ok r Q := by
  cases r with
  | ok a S => exact i a S h
  | exc c S => exact h
  | bad => exact h
theorem Ok.ex (h : Ok r P) : ∃ a S, r = .ok a S ∧ P a S := by
  cases r with
  | ok a S => exact ⟨a, S, rfl, h⟩
  | exc c S => exact h.elim
  | bad => exact h.elim
end
structure Po where
  nx : En → Sto → Prop
  rt : D → Sto → Prop
  bk : En → Sto → Prop
  ct : En → Sto → Prop
def OkS (o : Out) (Q : Po) : Prop := match o with
  | .nx δ S => Q.nx δ S
  | .rt d S => Q.rt d S
  | .bk δ S => Q.bk δ S
  | .ct δ S => Q.ct δ S
  | _ => False
def noE : En → Sto → Prop := fun _ _ => False
section
variable {δ : En} {S : Sto} {P : D → Sto → Prop} {Q : Po} {a b c : DE} {ta tb : DT} {as : DA}
theorem OkS.imp {o : Out} {Q' : Po} (h : OkS o Q) (h1 : ∀ δ S, Q.nx δ S → Q'.nx δ S) (h2 : ∀ d S, Q.rt d S → Q'.rt d S) (h3 : ∀ δ S, Q.bk δ S → Q'.bk δ S) (h4 : ∀ δ S, Q.ct δ S → Q'.ct δ S) : OkS o Q' := by
  cases o with
  | nx δ S => exact h1 δ S h
  | rt δ S => exact h2 δ S h
  | bk δ S => exact h3 δ S h
  | ct δ S => exact h4 δ S h
  | exc c S => exact h
  | bad => exact h
@[simp] theorem OkS_then {α : Type} {r : Res α} {k : α → Sto → Out} : OkS (thenS r k) Q = Ok r fun a S => OkS (k a S) Q := by cases r <;> rfl
@[simp] theorem OkS_andThen {o : Out} {k : DS} : OkS (andThen o k) Q = OkS o ⟨fun δ S => OkS (k δ S) Q, Q.rt, Q.bk, Q.ct⟩ := by cases o <;> rfl
@[simp] theorem Ok_endF {o : Out} : Ok (endF o) P = OkS o ⟨fun _ S => P .non S, P, noE, noE⟩ := by cases o <;> rfl
@[simp] theorem OkS_nx : OkS (.nx δ S) Q = Q.nx δ S := rfl
@[simp] theorem OkS_rt {d : D} : OkS (.rt d S) Q = Q.rt d S := rfl
@[simp] theorem OkS_bk : OkS (.bk δ S) Q = Q.bk δ S := rfl
@[simp] theorem OkS_ct : OkS (.ct δ S) Q = Q.ct δ S := rfl
@[simp] theorem OkS_bad : OkS .bad Q = False := rfl
@[simp] theorem o_fn {n N : Nat} {body : DS} {ds : List D} : Ok (dFn n N body ds S) P = (ds.length = n ∧ OkS (body (startD N ds) S) ⟨fun _ S => P .non S, P, noE, noE⟩) := by
  unfold dFn
  split
  · rename_i h
    simp [h]
  · rename_i h
    simp [h]
@[simp] theorem o_seq {x y : DS} : OkS (dSeq x y δ S) Q = OkS (x δ S) ⟨fun δ S => OkS (y δ S) Q, Q.rt, Q.bk, Q.ct⟩ := OkS_andThen
@[simp] theorem o_skip : OkS (dSkip δ S) Q = Q.nx δ S := rfl
@[simp] theorem o_brk : OkS (dBrk δ S) Q = Q.bk δ S := rfl
@[simp] theorem o_cont : OkS (dCont δ S) Q = Q.ct δ S := rfl
@[simp] theorem o_retN : OkS (dRetN δ S) Q = Q.rt .non S := rfl
@[simp] theorem o_ret : OkS (dRet a δ S) Q = Ok (a δ S) fun d S => Q.rt d S := OkS_then
@[simp] theorem o_drop : OkS (dDrop a δ S) Q = Ok (a δ S) fun _ S => Q.nx δ S := OkS_then
@[simp] theorem o_set {i : Nat} : OkS (dSet i a δ S) Q = Ok (a δ S) fun d S => Q.nx (δ.set i (some d)) S := OkS_then
@[simp] theorem o_ifS {x y : DS} : OkS (dIfS ta x y δ S) Q = Ok (ta δ S) fun k S1 => if k = true then OkS (x δ S1) Q else OkS (y δ S1) Q := by
  unfold dIfS
  rw [OkS_then]
  congr
  funext k S1
  cases k <;> rfl
@[simp] theorem o_asg {g : Tg} : OkS (dAsg g a δ S) Q = Ok (a δ S) fun d S => ∃ δ', g.set d δ = some δ' ∧ Q.nx δ' S := by
  unfold dAsg
  rw [OkS_then]
  congr
  funext d S
  cases g.set d δ <;> simp
@[simp] theorem o_par {is : List Nat} : OkS (dPar is as δ S) Q = Ok (as δ S) fun ds S => ∃ δ', Tg.setAll (is.map .nm) ds δ = some δ' ∧ Q.nx δ' S := by
  unfold dPar
  rw [OkS_then]
  congr
  funext d S
  cases Tg.setAll (is.map .nm) d δ <;> simp
@[simp] theorem o_var {i : Nat} : Ok (dVar i δ S) P = ∃ d, δ[i]? = some (some d) ∧ P d S := by
  unfold dVar
  cases δ[i]? with
  | none => simp
  | some o => cases o <;> simp
@[simp] theorem o_c {d : D} : Ok (dC d δ S) P = P d S := rfl
@[simp] theorem o_bin {op : D → D → Sto → Res D} : Ok (dBin op a b δ S) P = Ok (a δ S) fun x S => Ok (b δ S) fun y S => Ok (op x y S) P := by
  unfold dBin
  rw [Ok_bnd]
  congr
  funext x S
  rw [Ok_bnd]
theorem o_asB {r : Res D} {P : Bool → Sto → Prop} : Ok (asB r) P = Ok r fun d S => ∃ k, d = .bl k ∧ P k S := by
  unfold asB
  rw [Ok_bnd]
  congr
  funext d S
  cases d <;> simp
@[simp] theorem o_B {P : Bool → Sto → Prop} : Ok (dB a δ S) P = Ok (a δ S) fun d S => ∃ k, d = .bl k ∧ P k S := o_asB
@[simp] theorem o_and {P : Bool → Sto → Prop} : Ok (dAnd ta tb δ S) P = Ok (ta δ S) fun x S1 => if x = true then Ok (tb δ S1) P else P false S1 := by
  unfold dAnd
  rw [Ok_bnd]
  congr
  funext x S
  cases x <;> rfl
@[simp] theorem o_or {P : Bool → Sto → Prop} : Ok (dOr ta tb δ S) P = Ok (ta δ S) fun x S1 => if x = true then P true S1 else Ok (tb δ S1) P := by
  unfold dOr
  rw [Ok_bnd]
  congr
  funext x S
  cases x <;> rfl
@[simp] theorem o_not {P : Bool → Sto → Prop} : Ok (dNot ta δ S) P = Ok (ta δ S) fun x S1 => P (!x) S1 := by
  unfold dNot
  rw [Ok_bnd]
  rfl
@[simp] theorem o_andV : Ok (dAndV a b δ S) P = Ok (a δ S) fun d S1 => ∃ x, d = .bl x ∧ if x = true then Ok (b δ S1) P else P (.bl false) S1 := by
  unfold dAndV
  rw [Ok_bnd, o_asB]
  congr
  funext d S
  congr
  funext x
  cases x <;> simp
@[simp] theorem o_orV : Ok (dOrV a b δ S) P = Ok (a δ S) fun d S1 => ∃ x, d = .bl x ∧ if x = true then P (.bl true) S1 else Ok (b δ S1) P := by
  unfold dOrV
  rw [Ok_bnd, o_asB]
  congr
  funext d S
  congr
  funext x
  cases x <;> simp
@[simp] theorem o_notV : Ok (dNotV a δ S) P = Ok (a δ S) fun d S1 => ∃ x, d = .bl x ∧ P (.bl (!x)) S1 := by
  unfold dNotV
  rw [Ok_bnd, o_asB]
  rfl
@[simp] theorem o_if : Ok (dIf ta a b δ S) P = Ok (ta δ S) fun x S1 => if x = true then Ok (a δ S1) P else Ok (b δ S1) P := by
  unfold dIf
  rw [Ok_bnd]
  congr
  funext x S
  cases x <;> rfl
@[simp] theorem o_chain {op op' : D → D → Sto → Res D} : Ok (dChain op op' a b c δ S) P = Ok (a δ S) fun x S1 => Ok (b δ S1) fun y S2 => Ok (op x y S2) fun d S3 => ∃ k, d = .bl k ∧ if k = true then Ok (c δ S3) fun z S4 => Ok (op' y z S4) P else P (.bl false) S3 := by
  unfold dChain
  rw [Ok_bnd]
  congr
  funext x S
  rw [Ok_bnd]
  congr
  funext y S
  rw [Ok_bnd, o_asB]
  congr
  funext d S
  congr
  funext k
  cases k <;> simp
@[simp] theorem o_nil {P : List D → Sto → Prop} : Ok (dNil δ S) P = P [] S := rfl
@[simp] theorem o_cons {P : List D → Sto → Prop} : Ok (dCons a as δ S) P = Ok (a δ S) fun x S1 => Ok (as δ S1) fun xs S2 => P (x :: xs) S2 := by
  unfold dCons
  rw [Ok_bnd]
  congr
  funext x S
  rw [Ok_bnd]
  rfl
@[simp] theorem o_mkT {xs : List D} : Ok (mkTup xs S) P = (xs.length ≤ lim ∧ P (.tup xs) S) := by
  unfold mkTup
  split <;> simp [*]
@[simp] theorem o_mkL {xs : List D} : Ok (mkLst xs S) P = (xs.length ≤ lim ∧ P (.cell S.length) (S ++ [.lst xs])) := by
  unfold mkLst
  split <;> simp [*]
@[simp] theorem o_tup : Ok (dTup as δ S) P = Ok (as δ S) fun xs S => xs.length ≤ lim ∧ P (.tup xs) S := by
  unfold dTup
  rw [Ok_bnd]
  congr
  funext xs S
  exact o_mkT
@[simp] theorem o_lst : Ok (dLst as δ S) P = Ok (as δ S) fun xs S => xs.length ≤ lim ∧ P (.cell S.length) (S ++ [.lst xs]) := by
  unfold dLst
  rw [Ok_bnd]
  congr
  funext xs S
  exact o_mkL
@[simp] theorem o_call {f : DF} : Ok (dCall f as δ S) P = Ok (as δ S) fun ds S => Ok (f ds S) P := Ok_bnd
@[simp] theorem o_callK {f : DF} {is : List Nat} : Ok (dCallK f is as δ S) P = Ok (as δ S) fun ds S => ds.length = is.length ∧ Ok (f (permD is ds) S) P := by
  unfold dCallK
  rw [Ok_bnd]
  congr
  funext xs S
  split <;> simp [*]
@[simp] theorem o_noPart {P : Option Int → Sto → Prop} : Ok (dNoPart δ S) P = P none S := rfl
@[simp] theorem o_part {P : Option Int → Sto → Prop} : Ok (dPart a δ S) P = Ok (a δ S) fun d S => ∃ i, d = .int i ∧ P (some i) S := by
  unfold dPart
  rw [Ok_bnd]
  congr
  funext d S
  cases d <;> simp
@[simp] theorem o_sl {lo hi : DO} : Ok (dSl a lo hi δ S) P = Ok (a δ S) fun x S1 => Ok (lo δ S1) fun l S2 => Ok (hi δ S2) fun h S3 => Ok (opSl x l h S3) P := by
  unfold dSl
  rw [Ok_bnd]
  congr
  funext x S
  rw [Ok_bnd]
  congr
  funext l S
  rw [Ok_bnd]
@[simp] theorem o_slT {xs : List D} {lo hi : Option Int} : Ok (opSl (.tup xs) lo hi S) P = P (.tup (cutD xs lo hi)) S := rfl
@[simp] theorem o_neg : Ok (dNeg a δ S) P = Ok (a δ S) fun d S => ∃ i, d = .int i ∧ P (.int (-i)) S := by
  unfold dNeg
  rw [Ok_bnd]
  congr
  funext d S
  cases d <;> simp
@[simp] theorem o_dic0 : Ok (dDic0 δ S) P = P (.cell S.length) (S ++ [.dic []]) := rfl
@[simp] theorem o_ixC {ys : List Str} : Ok (dIxC ys a δ S) P = Ok (a δ S) fun d S => ∃ z j, d = .str z ∧ ixStr ys z = some j ∧ P (.int (j : Nat)) S := by
  unfold dIxC
  rw [Ok_bnd]
  congr
  funext d S
  cases d with
  | str z => cases h : ixStr ys z <;> simp [h]
  | _ => simp
@[simp] theorem o_mth {f : D → List D → Sto → Res D} : Ok (dMth f a as δ S) P = Ok (a δ S) fun x S1 => isL S1 x = true ∧ Ok (as δ S1) fun xs S2 => Ok (f x xs S2) P := by
  unfold dMth
  rw [Ok_bnd]
  congr
  funext x S
  split <;> simp [*]
@[simp] theorem o_yes {P : Bool → Sto → Prop} : Ok (dYes δ S) P = P true S := rfl
@[simp] theorem o_srcT {P : Src → Sto → Prop} : Ok (srcT a δ S) P = Ok (a δ S) fun d S => isT d = true ∧ P (.seq d) S := by
  unfold srcT
  rw [Ok_bnd]
  congr
  funext d S
  split <;> simp [*]
@[simp] theorem o_srcL {P : Src → Sto → Prop} : Ok (srcL a δ S) P = Ok (a δ S) fun d S => isL S d = true ∧ P (.seq d) S := by
  unfold srcL
  rw [Ok_bnd]
  congr
  funext d S
  split <;> simp [*]
@[simp] theorem o_enT {P : Src → Sto → Prop} : Ok (enT as δ S) P = Ok (as δ S) fun ds S => ∃ d, ds = [d] ∧ isT d = true ∧ P (.en d) S := by
  unfold enT
  rw [Ok_bnd]
  congr
  funext d S
  rcases d with _ | ⟨d, _ | ⟨e, r⟩⟩
  · simp
  · simp only []
    split <;> simp [*]
  · simp
@[simp] theorem o_enL {P : Src → Sto → Prop} : Ok (enL as δ S) P = Ok (as δ S) fun ds S => ∃ d, ds = [d] ∧ isL S d = true ∧ P (.en d) S := by
  unfold enL
  rw [Ok_bnd]
  congr
  funext d S
  rcases d with _ | ⟨d, _ | ⟨e, r⟩⟩
  · simp
  · simp only []
    split <;> simp [*]
  · simp
@[simp] theorem o_rng1 {P : Src → Sto → Prop} : Ok (rng1 as δ S) P = Ok (as δ S) fun ds S => ∃ j, ds = [.int j] ∧ inRng j = true ∧ P (.rng 0 j) S := by
  unfold rng1
  rw [Ok_bnd]
  congr
  funext d S
  split
  · rename_i j
    split <;> simp [*]
  · rename_i h
    simp
    intro j e
    exact absurd e (h j)
@[simp] theorem o_rng2 {P : Src → Sto → Prop} : Ok (rng2 as δ S) P = Ok (as δ S) fun ds S => ∃ i j, ds = [.int i, .int j] ∧ inRng i = true ∧ inRng j = true ∧ P (.rng i j) S := by
  unfold rng2
  rw [Ok_bnd]
  congr
  funext d S
  apply propext
  constructor
  · intro h
    split at h
    · rename_i i j
      split at h
      · rename_i h2
        rw [Bool.and_eq_true] at h2
        exact ⟨i, j, rfl, h2.1, h2.2, h⟩
      · exact h.elim
    · exact h.elim
  · rintro ⟨i, j, rfl, h1, h2, h⟩
    simp only [h1, h2, Bool.and_self, if_true]
    exact h
/-! ### operators on known values -/
@[simp] theorem p_add {i j : Int} : opAdd (.int i) (.int j) S = .ok (.int (i + j)) S := rfl
@[simp] theorem p_addT {xs ys : List D} : opAdd (.tup xs) (.tup ys) S = mkTup (xs ++ ys) S := rfl
theorem p_addL {m n : Nat} {xs ys : List D} (h1 : S[m]? = some (.lst xs)) (h2 : S[n]? = some (.lst ys)) : opAdd (.cell m) (.cell n) S = mkLst (xs ++ ys) S := by
  unfold opAdd
  simp only [h1, h2]
@[simp] theorem p_sub {i j : Int} : opSub (.int i) (.int j) S = .ok (.int (i - j)) S := rfl
@[simp] theorem p_lt {i j : Int} : opLt (.int i) (.int j) S = .ok (.bl (decide (i < j))) S := rfl
@[simp] theorem p_le {i j : Int} : opLe (.int i) (.int j) S = .ok (.bl (decide (i ≤ j))) S := rfl
@[simp] theorem p_gt {i j : Int} : opGt (.int i) (.int j) S = .ok (.bl (decide (j < i))) S := rfl
@[simp] theorem p_ge {i j : Int} : opGe (.int i) (.int j) S = .ok (.bl (decide (j ≤ i))) S := rfl
@[simp] theorem p_isN {x : D} : opIsN false x .non S = .ok (.bl (isNon x)) S := rfl
@[simp] theorem p_notN {x : D} : opIsN true x .non S = .ok (.bl (!isNon x)) S := rfl
@[simp] theorem isNon_non : isNon .non = true := rfl
@[simp] theorem isNon_int {i : Int} : isNon (.int i) = false := rfl
@[simp] theorem isNon_str {i : Str} : isNon (.str i) = false := rfl
@[simp] theorem isNon_tup {i : List D} : isNon (.tup i) = false := rfl
@[simp] theorem p_eqI {i j : Int} : opEq (.int i) (.int j) S = .ok (.bl (decide (i = j))) S := rfl
@[simp] theorem p_neI {i j : Int} : opNe (.int i) (.int j) S = .ok (.bl (!decide (i = j))) S := rfl
@[simp] theorem p_eqS {i j : Str} : opEq (.str i) (.str j) S = .ok (.bl (decide (i = j))) S := rfl
@[simp] theorem p_neS {i j : Str} : opNe (.str i) (.str j) S = .ok (.bl (!decide (i = j))) S := rfl
theorem p_mod {i j : Int} (h : j ≠ 0) : opMod (.int i) (.int j) S = .ok (.int (i.fmod j)) S := by
  unfold opMod opI
  simp [h]
theorem p_fdiv {i j : Int} (h : j ≠ 0) (h2 : j.natAbs < 1073741824) : opFdiv (.int i) (.int j) S = .ok (.int (i.fdiv j)) S := by
  unfold opFdiv opI
  have h3 : decide (j ≠ 0 ∧ j.natAbs < N30) = true := decide_eq_true (by rw [N30_eq]; exact ⟨h, h2⟩)
  simp only [h3, if_true]
theorem p_mul {i j : Int} (h : (-(2 ^ 64) < i ∧ i < 2 ^ 64) ∨ (-(2 ^ 64) < j ∧ j < 2 ^ 64)) : opMul (.int i) (.int j) S = .ok (.int (i * j)) S := by
  unfold opMul
  have h3 : decide ((-M64 < i ∧ i < M64) ∨ (-M64 < j ∧ j < M64)) = true := decide_eq_true (by rw [M64_eq]; exact h)
  simp only [h3, if_true]
theorem p_pow {i j : Int} (h : 0 ≤ j ∧ j ≤ 1000000 ∧ i.natAbs < 2 ^ 64) : opPow (.int i) (.int j) S = .ok (.int (i ^ j.toNat)) S := by
  unfold opPow opI
  have h3 : decide (0 ≤ j ∧ j ≤ M6 ∧ i.natAbs < N64) = true := decide_eq_true (by rw [M6_eq, N64_eq]; exact h)
  simp only [h3, if_true]
/-- subscripts -/
theorem p_ix {x d : D} {xs : List D} {n : Nat} {i : Int} (h : items S x = some xs) (h2 : xs[n]? = some d) (hi : i = (n : Nat)) : opIx x (.int i) S = .ok d S := by
  subst hi
  unfold opIx
  have hn : n < xs.length := (List.getElem?_eq_some_iff.mp h2).1
  have e : atI xs (n : Int) = some d := by
    unfold atI ixN
    rw [if_pos (by omega), if_pos (by omega)]
    simpa using h2
  simp only [h, e]
@[simp] theorem p_ixT0 {a : D} {r : List D} : opIx (.tup (a :: r)) (.int 0) S = .ok a S := p_ix (n := 0) rfl rfl rfl
@[simp] theorem p_ixT1 {a b : D} {r : List D} : opIx (.tup (a :: b :: r)) (.int 1) S = .ok b S := p_ix (n := 1) rfl rfl rfl
@[simp] theorem p_ixT2 {a b c : D} {r : List D} : opIx (.tup (a :: b :: c :: r)) (.int 2) S = .ok c S := p_ix (n := 2) rfl rfl rfl
@[simp] theorem p_ixT3 {a b c d : D} {r : List D} : opIx (.tup (a :: b :: c :: d :: r)) (.int 3) S = .ok d S := p_ix (n := 3) rfl rfl rfl
theorem p_ixT {xs : List D} {d : D} {n : Nat} (h2 : xs[n]? = some d) : opIx (.tup xs) (.int (n : Nat)) S = .ok d S := p_ix rfl h2 rfl
theorem p_ixL {c : Nat} {xs : List D} {d : D} {n : Nat} (h : S[c]? = some (.lst xs)) (h2 : xs[n]? = some d) : opIx (.cell c) (.int (n : Nat)) S = .ok d S := p_ix (by simp only [items, h]) h2 rfl
theorem p_ixLast {c : Nat} {xs : List D} {d : D} (h : S[c]? = some (.lst (xs ++ [d]))) : opIx (.cell c) (.int (-1)) S = .ok d S := by
  unfold opIx
  have e : atI (xs ++ [d]) (-1) = some d := by
    unfold atI ixN
    rw [if_neg (by omega), if_pos (by simp; omega)]
    have e2 : (-1 + ((xs ++ [d]).length : Int)).toNat = xs.length := by simp; omega
    simp only [Option.bind_some, e2]
    simp
  simp only [items, h, e]
/-! ### built-ins on known values -/
@[simp] theorem b_lenT {xs : List D} : bLen [.tup xs] S = .ok (.int xs.length) S := rfl
theorem b_lenL {c : Nat} {xs : List D} (h : S[c]? = some (.lst xs)) : bLen [.cell c] S = .ok (.int xs.length) S := by
  unfold bLen
  simp only [items, h]
@[simp] theorem b_lenRo {xs : List D} : bLen [.ro xs] S = .ok (.int xs.length) S := rfl
@[simp] theorem b_tupT {xs : List D} : bTuple [.tup xs] S = .ok (.tup xs) S := rfl
theorem b_tupL {c : Nat} {xs : List D} (h : S[c]? = some (.lst xs)) : bTuple [.cell c] S = .ok (.tup xs) S := by
  unfold bTuple
  simp only [items, h]
@[simp] theorem b_lstT {xs : List D} : bList [.tup xs] S = .ok (.cell S.length) (S ++ [.lst xs]) := rfl
theorem b_lstL {c : Nat} {xs : List D} (h : S[c]? = some (.lst xs)) : bList [.cell c] S = .ok (.cell S.length) (S ++ [.lst xs]) := by
  unfold bList
  simp only [items, h]
@[simp] theorem b_intI {i : Int} : bInt [.int i] S = .ok (.int i) S := rfl
@[simp] theorem b_intB {k : Bool} : bInt [.bl k] S = .ok (.int (if k then 1 else 0)) S := rfl
@[simp] theorem b_absI {i : Int} : bAbs [.int i] S = .ok (.int (if i < 0 then -i else i)) S := rfl
@[simp] theorem b_max2 {i j : Int} : bMax [.int i, .int j] S = .ok (.int (if j > i then j else i)) S := rfl
theorem intsOf_map : ∀ l : List Int, intsOf (l.map D.int) = some l
  | [] => rfl
  | i :: l => by simp [intsOf, intsOf_map l]
theorem blsOf_map : ∀ l : List Bool, blsOf (l.map D.bl) = some l
  | [] => rfl
  | i :: l => by simp [blsOf, blsOf_map l]
theorem b_maxL {c : Nat} {n : Int} {l : List Int} (h : S[c]? = some (.lst ((n :: l).map D.int))) : bMax [.cell c] S = .ok (.int (maxI (n :: l))) S := by
  unfold bMax
  simp only [isL, items, h, if_true, Option.bind_some, intsOf_map]
theorem b_allL {c : Nat} {l : List Bool} (h : S[c]? = some (.lst (l.map D.bl))) : bAll [.cell c] S = .ok (.bl (l.all id)) S := by
  unfold bAll
  simp only [isL, items, h, if_true, Option.bind_some, blsOf_map]
@[simp] theorem isT_tup {xs : List D} : isT (.tup xs) = true := rfl
theorem isL_cell {c : Nat} {xs : List D} (h : S[c]? = some (.lst xs)) : isL S (.cell c) = true := by
  simp only [isL, h]
@[simp] theorem it_tup {xs : List D} : items S (.tup xs) = some xs := rfl
@[simp] theorem it_ro {xs : List D} : items S (.ro xs) = some xs := rfl
theorem it_cell {c : Nat} {xs : List D} (h : S[c]? = some (.lst xs)) : items S (.cell c) = some xs := by
  simp only [items, h]
theorem m_app {c : Nat} {xs : List D} {d : D} (h : S[c]? = some (.lst xs)) (hl : xs.length < lim) : mAppend (.cell c) [d] S = .ok .non (S.set c (.lst (xs ++ [d]))) := by
  unfold mAppend
  simp only [h, hl, if_true]
theorem m_pop {c : Nat} {xs : List D} {d : D} (h : S[c]? = some (.lst (xs ++ [d]))) : mPop (.cell c) [] S = .ok d (S.set c (.lst xs)) := by
  unfold mPop
  simp [h]
/-! ### isinstance -/
def isI : D → Bool
  | .int _ => true
  | _ => false
def isB : D → Bool
  | .bl _ => true
  | _ => false
theorem ty_cell (S : Sto) (n : Nat) : tyD S (.cell n) = "dict" ∨ tyD S (.cell n) = "list" := by
  cases h : S[n]? with
  | none => exact .inr (by simp only [tyD, h])
  | some c => cases c with
    | dic kvs => exact .inl (by simp only [tyD, h])
    | dik kvs => exact .inl (by simp only [tyD, h])
    | lst kvs => exact .inr (by simp only [tyD, h])
def isRg : D → Bool
  | .rng _ _ => true
  | _ => false
@[simp] theorem isRg_non : isRg .non = false := rfl
@[simp] theorem isRg_bl {b : Bool} : isRg (.bl b) = false := rfl
@[simp] theorem isRg_int {b : Int} : isRg (.int b) = false := rfl
@[simp] theorem isRg_str {b : Str} : isRg (.str b) = false := rfl
@[simp] theorem isRg_tup {b : List D} : isRg (.tup b) = false := rfl
@[simp] theorem isRg_ro {b : List D} : isRg (.ro b) = false := rfl
@[simp] theorem isRg_cell {b : Nat} : isRg (.cell b) = false := rfl
theorem k_int {d : D} (hd : isRg d = false) : kitB (tyD S d) "int" = some (isI d || isB d) := by
  cases d with
  | cell n => rcases ty_cell S n with e | e <;> rw [e] <;> rfl
  | rng => cases hd
  | _ => rfl
theorem k_int_rg {d : D} (hd : isRg d = true) : kitB (tyD S d) "int" = none := by
  cases d with
  | rng => exact kitB_none (by decide)
  | _ => cases hd
theorem k_bool {d : D} (hd : isRg d = false) : kitB (tyD S d) "bool" = some (isB d) := by
  cases d with
  | cell n => rcases ty_cell S n with e | e <;> rw [e] <;> rfl
  | rng => cases hd
  | _ => rfl
theorem k_bool_rg {d : D} (hd : isRg d = true) : kitB (tyD S d) "bool" = none := by
  cases d with
  | rng => exact kitB_none (by decide)
  | _ => cases hd
theorem k_tuple {d : D} (hd : isRg d = false) : kitB (tyD S d) "tuple" = some (isT d) := by
  cases d with
  | cell n => rcases ty_cell S n with e | e <;> rw [e] <;> rfl
  | rng => cases hd
  | _ => rfl
theorem k_tuple_rg {d : D} (hd : isRg d = true) : kitB (tyD S d) "tuple" = none := by
  cases d with
  | rng => exact kitB_none (by decide)
  | _ => cases hd
@[simp] theorem o_isiI : Ok (dIsI "int" a δ S) P = Ok (a δ S) fun d S => isRg d = false ∧ P (.bl (isI d || isB d)) S := by
  unfold dIsI
  rw [Ok_bnd]
  congr
  funext d S
  cases hd : isRg d with
  | false =>
    rw [k_int hd]
    simp
  | true =>
    rw [k_int_rg hd]
    simp
@[simp] theorem o_isiB : Ok (dIsI "bool" a δ S) P = Ok (a δ S) fun d S => isRg d = false ∧ P (.bl (isB d)) S := by
  unfold dIsI
  rw [Ok_bnd]
  congr
  funext d S
  cases hd : isRg d with
  | false =>
    rw [k_bool hd]
    simp
  | true =>
    rw [k_bool_rg hd]
    simp
@[simp] theorem o_isiT : Ok (dIsI "tuple" a δ S) P = Ok (a δ S) fun d S => isRg d = false ∧ P (.bl (isT d)) S := by
  unfold dIsI
  rw [Ok_bnd]
  congr
  funext d S
  cases hd : isRg d with
  | false =>
    rw [k_tuple hd]
    simp
  | true =>
    rw [k_tuple_rg hd]
    simp
end
/-! ### what stays -/
/-- all cells but those of K stay -/
structure Kp (K : List Nat) (S S' : Sto) : Prop where
  le : S.length ≤ S'.length
  get : ∀ n c, n ∉ K → S[n]? = some c → S'[n]? = some c
theorem Kp.refl (K : List Nat) (S : Sto) : Kp K S S := ⟨Nat.le_refl _, fun _ _ _ h => h⟩
theorem Kp.trans {K : List Nat} {S S1 S2 : Sto} (a : Kp K S S1) (b : Kp K S1 S2) : Kp K S S2 := ⟨Nat.le_trans a.le b.le, fun n c hn h => b.get n c hn (a.get n c hn h)⟩
theorem Kp.of {K : List Nat} {S S1 : Sto} (a : Kp [] S S1) : Kp K S S1 := ⟨a.le, fun n c _ h => a.get n c (by simp) h⟩
theorem Kp.app (K : List Nat) (S T : Sto) : Kp K S (S ++ T) := ⟨by simp, fun n c _ h => by
  rw [List.getElem?_append_left (List.getElem?_eq_some_iff.mp h).1]
  exact h⟩
theorem Kp.push {K : List Nat} {S S1 : Sto} (a : Kp K S S1) (T : Sto) : Kp K S (S1 ++ T) := a.trans (Kp.app K S1 T)
/-- a fresh cell, one of K, is changed -/
theorem Kp.set {K : List Nat} {S S1 : Sto} (a : Kp K S S1) {n : Nat} (hn : S.length ≤ n ∨ n ∈ K) (c : C) : Kp K S (S1.set n c) := ⟨by simpa using a.le, fun m c' hm h => by
  have hl := (List.getElem?_eq_some_iff.mp h).1
  have hne : n ≠ m := by
    rcases hn with hn | hn
    · omega
    · exact fun z => hm (z ▸ hn)
  rw [List.getElem?_set_ne hne]
  exact a.get m c' hm h⟩
theorem get_push (S : Sto) (c : C) : (S ++ [c])[S.length]? = some c := by simp
theorem get_set {S : Sto} {n : Nat} {c c' : C} (h : S[n]? = some c) : (S.set n c')[n]? = some c' := List.getElem?_set_self (List.getElem?_eq_some_iff.mp h).1
theorem lt_of_get {S : Sto} {n : Nat} {c : C} (h : S[n]? = some c) : n < S.length := (List.getElem?_eq_some_iff.mp h).1
/-! ### loops -/
section
variable {δ : En} {S : Sto} {Q : Po} {src : DSrc} {g : Tg} {body : DS}
theorem okl {s : Src} {N : Nat} {item : Nat → D} (I : Nat → En → Sto → Prop) (hlen : ∀ i δ S, I i δ S → s.len S = some N) (hit : ∀ i δ S, i < N → I i δ S → s.item S i = some (item i))
    (step : ∀ i δ S, i < N → I i δ S → ∃ δ', g.set (item i) δ = some δ' ∧ OkS (body δ' S) ⟨I (i + 1), Q.rt, Q.nx, I (i + 1)⟩) (done : ∀ δ S, I N δ S → Q.nx δ S) :
    ∀ (f i : Nat) (δ : En) (S : Sto), N ≤ i + f → i ≤ N → I i δ S → OkS (dLoop g body s f i δ S) Q
  | 0, i, δ, S, h1, h2, h => by
    have e : i = N := by omega
    subst e
    unfold dLoop
    simp only [hlen _ _ _ h, Nat.le_refl, if_true]
    exact done δ S h
  | f + 1, i, δ, S, h1, h2, h => by
    unfold dLoop
    simp only [hlen _ _ _ h]
    by_cases hi : N ≤ i
    · have e : i = N := by omega
      subst e
      simp only [Nat.le_refl, if_true]
      exact done δ S h
    · simp only [hi, if_false]
      have hlt : i < N := by omega
      obtain ⟨δ', h3, h4⟩ := step i δ S hlt h
      simp only [hit i δ S hlt h, h3]
      have ih := okl I hlen hit step done f (i + 1)
      cases q : body δ' S with
      | nx δ1 S1 =>
        rw [q] at h4
        exact ih δ1 S1 (by omega) hlt h4
      | ct δ1 S1 =>
        rw [q] at h4
        exact ih δ1 S1 (by omega) hlt h4
      | bk δ1 S1 =>
        rw [q] at h4
        exact h4
      | rt d S1 =>
        rw [q] at h4
        exact h4
      | exc c S1 =>
        rw [q] at h4
        exact h4.elim
      | bad =>
        rw [q] at h4
        exact h4.elim
theorem ok_for {s0 : Src} {N : Nat} {item : Nat → D} (I : Nat → En → Sto → Prop) (hs : Ok (src δ S) fun s S1 => s = s0 ∧ I 0 δ S1) (hlen : ∀ i δ S, I i δ S → s0.len S = some N) (hit : ∀ i δ S, i < N → I i δ S → s0.item S i = some (item i))
    (step : ∀ i δ S, i < N → I i δ S → ∃ δ', g.set (item i) δ = some δ' ∧ OkS (body δ' S) ⟨I (i + 1), Q.rt, Q.nx, I (i + 1)⟩) (done : ∀ δ S, I N δ S → Q.nx δ S) : OkS (dFor src g body δ S) Q := by
  unfold dFor
  rw [OkS_then]
  refine Ok.imp hs fun s S1 ⟨e, h⟩ => ?_
  subst e
  simp only [hlen _ _ _ h]
  exact okl I hlen hit step done N 0 δ S1 (by omega) (by omega) h
/-- over a tuple's items -/
theorem ok_forT {xs : List D} (I : Nat → En → Sto → Prop) {a : DE} (hs : Ok (a δ S) fun d S1 => d = .tup xs ∧ I 0 δ S1)
    (step : ∀ i δ S x, xs[i]? = some x → I i δ S → ∃ δ', g.set x δ = some δ' ∧ OkS (body δ' S) ⟨I (i + 1), Q.rt, Q.nx, I (i + 1)⟩) (done : ∀ δ S, I xs.length δ S → Q.nx δ S) : OkS (dFor (srcT a) g body δ S) Q := by
  refine ok_for (s0 := .seq (.tup xs)) (N := xs.length) (item := fun i => xs[i]?.getD .non) I ?_ (fun _ _ _ _ => rfl) (fun i δ S hi _ => ?_) (fun i δ S hi h => ?_) done
  · rw [o_srcT]
    refine Ok.imp hs fun d S1 ⟨e, h⟩ => ?_
    subst e
    exact ⟨rfl, rfl, h⟩
  · simp [Src.item, hi]
  · have e : xs[i]? = some xs[i] := List.getElem?_eq_getElem hi
    have := step i δ S xs[i] e h
    simpa [e] using this
theorem ok_forET {xs : List D} (I : Nat → En → Sto → Prop) {a : DA} (hs : Ok (a δ S) fun d S1 => d = [.tup xs] ∧ I 0 δ S1)
    (step : ∀ i δ S x, xs[i]? = some x → I i δ S → ∃ δ', g.set (.tup [.int i, x]) δ = some δ' ∧ OkS (body δ' S) ⟨I (i + 1), Q.rt, Q.nx, I (i + 1)⟩) (done : ∀ δ S, I xs.length δ S → Q.nx δ S) : OkS (dFor (enT a) g body δ S) Q := by
  refine ok_for (s0 := .en (.tup xs)) (N := xs.length) (item := fun i => .tup [.int i, xs[i]?.getD .non]) I ?_ (fun _ _ _ _ => rfl) (fun i δ S hi _ => ?_) (fun i δ S hi h => ?_) done
  · rw [o_enT]
    refine Ok.imp hs fun d S1 ⟨e, h⟩ => ?_
    subst e
    exact ⟨_, rfl, rfl, rfl, h⟩
  · simp [Src.item, hi]
  · have e : xs[i]? = some xs[i] := List.getElem?_eq_getElem hi
    have := step i δ S xs[i] e h
    simpa [e] using this
/-- over a list's items, the list at c stays -/
theorem ok_forL {xs : List D} {c : Nat} (I : Nat → En → Sto → Prop) {a : DE} (hs : Ok (a δ S) fun d S1 => d = .cell c ∧ I 0 δ S1) (hc : ∀ i δ S, I i δ S → S[c]? = some (.lst xs))
    (step : ∀ i δ S x, xs[i]? = some x → I i δ S → ∃ δ', g.set x δ = some δ' ∧ OkS (body δ' S) ⟨I (i + 1), Q.rt, Q.nx, I (i + 1)⟩) (done : ∀ δ S, I xs.length δ S → Q.nx δ S) : OkS (dFor (srcL a) g body δ S) Q := by
  refine ok_for (s0 := .seq (.cell c)) (N := xs.length) (item := fun i => xs[i]?.getD .non) I ?_ (fun i δ S h => ?_) (fun i δ S hi h => ?_) (fun i δ S hi h => ?_) done
  · rw [o_srcL]
    refine Ok.imp hs fun d S1 ⟨e, h⟩ => ?_
    subst e
    exact ⟨isL_cell (hc _ _ _ h), rfl, h⟩
  · simp [Src.len, it_cell (hc _ _ _ h)]
  · simp [Src.item, it_cell (hc _ _ _ h), hi]
  · have e : xs[i]? = some xs[i] := List.getElem?_eq_getElem hi
    have := step i δ S xs[i] e h
    simpa [e] using this
theorem ok_forEL {xs : List D} {c : Nat} (I : Nat → En → Sto → Prop) {a : DA} (hs : Ok (a δ S) fun d S1 => d = [.cell c] ∧ I 0 δ S1) (hc : ∀ i δ S, I i δ S → S[c]? = some (.lst xs))
    (step : ∀ i δ S x, xs[i]? = some x → I i δ S → ∃ δ', g.set (.tup [.int i, x]) δ = some δ' ∧ OkS (body δ' S) ⟨I (i + 1), Q.rt, Q.nx, I (i + 1)⟩) (done : ∀ δ S, I xs.length δ S → Q.nx δ S) : OkS (dFor (enL a) g body δ S) Q := by
  refine ok_for (s0 := .en (.cell c)) (N := xs.length) (item := fun i => .tup [.int i, xs[i]?.getD .non]) I ?_ (fun i δ S h => ?_) (fun i δ S hi h => ?_) (fun i δ S hi h => ?_) done
  · rw [o_enL]
    refine Ok.imp hs fun d S1 ⟨e, h⟩ => ?_
    subst e
    exact ⟨_, rfl, isL_cell (hc _ _ _ h), rfl, h⟩
  · simp [Src.len, it_cell (hc _ _ _ h)]
  · simp [Src.item, it_cell (hc _ _ _ h), hi]
  · have e : xs[i]? = some xs[i] := List.getElem?_eq_getElem hi
    have := step i δ S xs[i] e h
    simpa [e] using this
/-- over range(n) -/
theorem inRng_of {i : Int} (h1 : -1000000 ≤ i) (h2 : i ≤ 1000000) : inRng i = true := by
  unfold inRng
  rw [decide_eq_true_eq, M62_eq]
  omega
theorem ok_forR {n : Nat} (hn : n ≤ 1000000) (I : Nat → En → Sto → Prop) {a : DA} (hs : Ok (a δ S) fun d S1 => d = [.int (n : Nat)] ∧ I 0 δ S1)
    (step : ∀ i δ S, i < n → I i δ S → ∃ δ', g.set (.int (i : Nat)) δ = some δ' ∧ OkS (body δ' S) ⟨I (i + 1), Q.rt, Q.nx, I (i + 1)⟩) (done : ∀ δ S, I n δ S → Q.nx δ S) : OkS (dFor (rng1 a) g body δ S) Q := by
  refine ok_for (s0 := .rng 0 (n : Nat)) (N := n) (item := fun i => .int (i : Nat)) I ?_ (fun i δ S h => ?_) (fun i δ S hi h => ?_) (fun i δ S hi h => step i δ S hi h) done
  · rw [o_rng1]
    refine Ok.imp hs fun d S1 ⟨e, h⟩ => ?_
    subst e
    exact ⟨_, rfl, inRng_of (by omega) (by omega), rfl, h⟩
  · simp [Src.len]
  · simp [Src.item, hi]
end
/-! ### comprehensions -/
section
variable {δ : En} {S : Sto} {P : D → Sto → Prop} {src : DSrc} {g : Tg} {t : DT} {elt : DE} {own : List Nat}
theorem Ok_nox {α : Type} {r : Res α} {P : α → Sto → Prop} : Ok (nox r) P = Ok r P := by cases r <;> rfl
theorem okc {s : Src} {N c : Nat} {item : Nat → D} {δ0 : En} (J : Nat → Sto → List D → Prop) (hlen : ∀ i S acc, J i S acc → s.len S = some N) (hit : ∀ i S acc, i < N → J i S acc → s.item S i = some (item i))
    (step : ∀ i S acc, i < N → J i S acc → ∃ δ', g.set (item i) δ0 = some δ' ∧ Ok (t δ' S) fun b S2 => if b = true then Ok (elt δ' S2) fun y S3 => S3[c]? = some (.lst acc) ∧ acc.length < lim ∧ J (i + 1) (S3.set c (.lst (acc ++ [y]))) (acc ++ [y]) else J (i + 1) S2 acc)
    (done : ∀ S acc, J N S acc → P (.cell c) S) : ∀ (f i : Nat) (S : Sto) (acc : List D), N ≤ i + f → i ≤ N → J i S acc → Ok (dLcGo g t elt s c δ0 f i S) P
  | 0, i, S, acc, h1, h2, h => by
    have e : i = N := by omega
    subst e
    unfold dLcGo
    simp only [hlen _ _ _ h, Nat.le_refl, if_true]
    exact done S acc h
  | f + 1, i, S, acc, h1, h2, h => by
    unfold dLcGo
    simp only [hlen _ _ _ h]
    by_cases hi : N ≤ i
    · have e : i = N := by omega
      subst e
      simp only [Nat.le_refl, if_true]
      exact done S acc h
    · simp only [hi, if_false]
      have hlt : i < N := by omega
      obtain ⟨δ', h3, h4⟩ := step i S acc hlt h
      simp only [hit i S acc hlt h, h3]
      have ih := okc J hlen hit step done f (i + 1)
      rw [Ok_bnd, Ok_nox]
      refine Ok.imp h4 fun b S2 h5 => ?_
      cases b with
      | false => exact ih S2 acc (by omega) hlt h5
      | true =>
        simp only [if_true] at h5 ⊢
        rw [Ok_bnd, Ok_nox]
        refine Ok.imp h5 fun y S3 ⟨h6, h7, h8⟩ => ?_
        have e : lcPut c y S3 = some (S3.set c (.lst (acc ++ [y]))) := by
          unfold lcPut
          simp only [h6, h7, if_true]
        simp only [e]
        exact ih _ _ (by omega) hlt h8
theorem ok_lc {s0 : Src} {N c : Nat} {item : Nat → D} (J : Nat → Sto → List D → Prop) (hs : Ok (src δ S) fun s S1 => s = s0 ∧ c = S1.length ∧ J 0 (S1 ++ [.lst []]) []) (hlen : ∀ i S acc, J i S acc → s0.len S = some N)
    (hit : ∀ i S acc, i < N → J i S acc → s0.item S i = some (item i))
    (step : ∀ i S acc, i < N → J i S acc → ∃ δ', g.set (item i) (wipeD δ own) = some δ' ∧ Ok (t δ' S) fun b S2 => if b = true then Ok (elt δ' S2) fun y S3 => S3[c]? = some (.lst acc) ∧ acc.length < lim ∧ J (i + 1) (S3.set c (.lst (acc ++ [y]))) (acc ++ [y]) else J (i + 1) S2 acc)
    (done : ∀ S acc, J N S acc → P (.cell c) S) : Ok (dLc src g t elt own δ S) P := by
  unfold dLc
  rw [Ok_bnd]
  refine Ok.imp hs fun s S1 ⟨e1, e2, h⟩ => ?_
  subst e1 e2
  simp only [hlen _ _ _ h]
  exact okc J hlen hit step done N 0 _ [] (by omega) (by omega) h
/-- WHAT CHANGES NO CELL: the list of F over the items -/
theorem ok_lcP {s0 : Src} {xs : List D} (F : D → Option D) (hs : Ok (src δ S) fun s S1 => s = s0 ∧ Kp [] S S1) (hlen : ∀ S', Kp [] S S' → s0.len S' = some xs.length)
    (hit : ∀ S' i, Kp [] S S' → i < xs.length → s0.item S' i = xs[i]?) (hl : xs.length ≤ lim)
    (step : ∀ x ∈ xs, ∀ S', Kp [] S S' → ∃ δ', g.set x (wipeD δ own) = some δ' ∧ Ok (t δ' S') fun b S2 => Kp [] S' S2 ∧ if b = true then Ok (elt δ' S2) fun y S3 => Kp [] S' S3 ∧ F x = some y else F x = none)
    (done : ∀ S' c, Kp [] S S' → S.length ≤ c → S'[c]? = some (.lst (xs.filterMap F)) → P (.cell c) S') : Ok (dLc src g t elt own δ S) P := by
  obtain ⟨s, S1, hsrc, e, k0⟩ := hs.ex
  subst e
  have fm : ∀ i (h : i < xs.length), (xs.take (i + 1)).filterMap F = (xs.take i).filterMap F ++ (F xs[i]).toList := fun i h => by
    rw [List.take_succ, List.filterMap_append, List.getElem?_eq_getElem h]
    simp [List.filterMap_cons]
    cases F xs[i] <;> rfl
  refine ok_lc (s0 := s) (N := xs.length) (c := S1.length) (item := fun i => xs[i]?.getD .non) (fun i S' acc => Kp [] S S' ∧ S'[S1.length]? = some (.lst acc) ∧ acc = (xs.take i).filterMap F) ?_ (fun i S' acc h => hlen S' h.1) (fun i S' acc hi h => ?_) (fun i S' acc hi ⟨k, hc, ha⟩ => ?_) (fun S' acc ⟨k, hc, ha⟩ => ?_)
  · rw [hsrc]
    exact ⟨rfl, rfl, k0.push _, get_push _ _, rfl⟩
  · rw [hit S' i h.1 hi]
    simp [hi]
  · have e : xs[i]? = some xs[i] := List.getElem?_eq_getElem hi
    obtain ⟨δ', h1, h2⟩ := step xs[i] (List.getElem_mem hi) S' k
    refine ⟨δ', by simpa [e] using h1, Ok.imp h2 fun b S2 ⟨k2, h3⟩ => ?_⟩
    cases b with
    | false =>
      have h3' : F xs[i] = none := by simpa using h3
      refine ⟨k.trans k2, k2.get _ _ (by simp) hc, ?_⟩
      rw [fm i hi, h3', ha]
      simp
    | true =>
      simp only [if_true] at h3 ⊢
      refine Ok.imp h3 fun y S3 ⟨k3, h4⟩ => ?_
      refine ⟨k3.get _ _ (by simp) hc, ?_, (k.trans k3).set (.inl k0.le) _, get_set (k3.get _ _ (by simp) hc), ?_⟩
      · rw [ha]
        have a1 := List.length_filterMap_le F (xs.take i)
        have a2 : (xs.take i).length < xs.length := by
          rw [List.length_take]
          omega
        omega
      · rw [fm i hi, h4, ha]
        rfl
  · refine done S' _ k k0.le ?_
    rw [hc, ha, List.take_length]
theorem ok_lcT {xs : List D} {a : DE} (F : D → Option D) (hs : Ok (a δ S) fun d S1 => d = .tup xs ∧ Kp [] S S1) (hl : xs.length ≤ lim)
    (step : ∀ x ∈ xs, ∀ S', Kp [] S S' → ∃ δ', g.set x (wipeD δ own) = some δ' ∧ Ok (t δ' S') fun b S2 => Kp [] S' S2 ∧ if b = true then Ok (elt δ' S2) fun y S3 => Kp [] S' S3 ∧ F x = some y else F x = none)
    (done : ∀ S' c, Kp [] S S' → S.length ≤ c → S'[c]? = some (.lst (xs.filterMap F)) → P (.cell c) S') : Ok (dLc (srcT a) g t elt own δ S) P := by
  refine ok_lcP (s0 := .seq (.tup xs)) F ?_ (fun _ _ => rfl) (fun S' i k hi => ?_) hl step done
  · rw [o_srcT]
    refine Ok.imp hs fun d S1 ⟨e, h⟩ => ?_
    subst e
    exact ⟨rfl, rfl, h⟩
  · simp [Src.item]
theorem ok_lcL {xs : List D} {c0 : Nat} {a : DE} (F : D → Option D) (hs : Ok (a δ S) fun d S1 => d = .cell c0 ∧ Kp [] S S1) (hc : S[c0]? = some (.lst xs)) (hl : xs.length ≤ lim)
    (step : ∀ x ∈ xs, ∀ S', Kp [] S S' → ∃ δ', g.set x (wipeD δ own) = some δ' ∧ Ok (t δ' S') fun b S2 => Kp [] S' S2 ∧ if b = true then Ok (elt δ' S2) fun y S3 => Kp [] S' S3 ∧ F x = some y else F x = none)
    (done : ∀ S' c, Kp [] S S' → S.length ≤ c → S'[c]? = some (.lst (xs.filterMap F)) → P (.cell c) S') : Ok (dLc (srcL a) g t elt own δ S) P := by
  refine ok_lcP (s0 := .seq (.cell c0)) F ?_ (fun S' k => ?_) (fun S' i k hi => ?_) hl step done
  · rw [o_srcL]
    refine Ok.imp hs fun d S1 ⟨e, h⟩ => ?_
    subst e
    exact ⟨isL_cell (h.get _ _ (by simp) hc), rfl, h⟩
  · simp [Src.len, it_cell (k.get _ _ (by simp) hc)]
  · simp [Src.item, it_cell (k.get _ _ (by simp) hc)]
theorem ok_lcR {n : Nat} {a : DA} (F : D → Option D) (hn : n ≤ 100000) (hs : Ok (a δ S) fun d S1 => d = [.int (n : Nat)] ∧ Kp [] S S1)
    (step : ∀ i, i < n → ∀ S', Kp [] S S' → ∃ δ', g.set (.int (i : Nat)) (wipeD δ own) = some δ' ∧ Ok (t δ' S') fun b S2 => Kp [] S' S2 ∧ if b = true then Ok (elt δ' S2) fun y S3 => Kp [] S' S3 ∧ F (.int (i : Nat)) = some y else F (.int (i : Nat)) = none)
    (done : ∀ S' c, Kp [] S S' → S.length ≤ c → S'[c]? = some (.lst (((List.range n).map fun i => D.int (i : Nat)).filterMap F)) → P (.cell c) S') : Ok (dLc (rng1 a) g t elt own δ S) P := by
  refine ok_lcP (s0 := .rng 0 (n : Nat)) (xs := (List.range n).map fun i => D.int (i : Nat)) F ?_ (fun S' k => ?_) (fun S' i k hi => ?_) ?_ (fun x hx S' k => ?_) done
  · rw [o_rng1]
    refine Ok.imp hs fun d S1 ⟨e, h⟩ => ?_
    subst e
    exact ⟨_, rfl, inRng_of (by omega) (by omega), rfl, h⟩
  · simp [Src.len]
  · simp at hi
    simp [Src.item, hi]
  · simpa [lim_eq] using hn
  · obtain ⟨i, hi, rfl⟩ := List.mem_map.mp hx
    exact step i (List.mem_range.mp hi) S' k
theorem ok_lcET {xs : List D} {a : DA} (F : D → Option D) (hs : Ok (a δ S) fun d S1 => d = [.tup xs] ∧ Kp [] S S1) (hl : xs.length ≤ lim)
    (step : ∀ i x, xs[i]? = some x → ∀ S', Kp [] S S' → ∃ δ', g.set (.tup [.int (i : Nat), x]) (wipeD δ own) = some δ' ∧ Ok (t δ' S') fun b S2 => Kp [] S' S2 ∧ if b = true then Ok (elt δ' S2) fun y S3 => Kp [] S' S3 ∧ F (.tup [.int (i : Nat), x]) = some y else F (.tup [.int (i : Nat), x]) = none)
    (done : ∀ S' c, Kp [] S S' → S.length ≤ c → S'[c]? = some (.lst ((xs.mapIdx fun i x => D.tup [.int (i : Nat), x]).filterMap F)) → P (.cell c) S') : Ok (dLc (enT a) g t elt own δ S) P := by
  refine ok_lcP (s0 := .en (.tup xs)) (xs := xs.mapIdx fun i x => D.tup [.int (i : Nat), x]) F ?_ (fun S' k => ?_) (fun S' i k hi => ?_) ?_ (fun x hx S' k => ?_) done
  · rw [o_enT]
    refine Ok.imp hs fun d S1 ⟨e, h⟩ => ?_
    subst e
    exact ⟨_, rfl, rfl, rfl, h⟩
  · simp [Src.len]
  · simp [Src.item]
  · simpa using hl
  · obtain ⟨i, hi, rfl⟩ := List.mem_mapIdx.mp hx
    exact step i _ (List.getElem?_eq_getElem hi) S' k
end
end Dn
set_option Elab.async false
set_option linter.all false
set_option maxRecDepth 100000
set_option maxHeartbeats 1000000
/-! Lk1: values that can be read as data: ==, repr. -/
noncomputable section
namespace Dn
open PySem L2
/-- d reads as data now and later -/
def Rd (K : List Nat) (k w : Nat) (S : Sto) (d : D) : Prop := ∃ p : PyData, (∀ S', Kp K S S' → ∀ m, k < m → toPy m S' d = some p) ∧ p.canLay0 = true ∧ p.showable = true ∧ p.depth ≤ k ∧ p.weight ≤ w
section
variable {K : List Nat} {S S' : Sto} {k w : Nat}
theorem Rd.mono {d : D} (h : Rd K k w S d) (kp : Kp K S S') : Rd K k w S' d := by
  obtain ⟨p, h1, h2⟩ := h
  exact ⟨p, fun S2 k2 => h1 S2 (kp.trans k2), h2⟩
theorem Rd.rg {d : D} (h : Rd K k w S d) : isRg d = false := by
  obtain ⟨p, h1, _⟩ := h
  have e := h1 S (Kp.refl K S) (k + 1) (Nat.lt_succ_self k)
  cases d with
  | rng i j => exact absurd e (by simp [toPy])
  | _ => rfl
theorem Rd.le {d : D} {k' w' : Nat} (h : Rd K k w S d) (hk : k ≤ k') (hw : w ≤ w') : Rd K k' w' S d := by
  obtain ⟨p, h1, h2, h3, h4, h5⟩ := h
  exact ⟨p, fun S2 k2 m hm => h1 S2 k2 m (by omega), h2, h3, by omega, by omega⟩
theorem Rd.nil {d : D} (h : Rd K k w S d) : Rd [] k w S d := by
  obtain ⟨p, h1, h2⟩ := h
  exact ⟨p, fun S2 k2 => h1 S2 k2.of, h2⟩
theorem rd_non : Rd K k w S .non := ⟨.none, fun S2 _ m hm => by obtain ⟨m, rfl⟩ : ∃ j, m = j + 1 := ⟨m - 1, by omega⟩; rfl, rfl, rfl, Nat.zero_le _, Nat.zero_le _⟩
theorem rd_bl {b : Bool} : Rd K k w S (.bl b) := ⟨.bool b, fun S2 _ m hm => by obtain ⟨m, rfl⟩ : ∃ j, m = j + 1 := ⟨m - 1, by omega⟩; rfl, rfl, rfl, Nat.zero_le _, Nat.zero_le _⟩
theorem log2_le_of_lt {n b : Nat} (h : n < 2 ^ (b + 1)) : n.log2 ≤ b := by
  by_cases h0 : n = 0
  · subst h0
    simp
  · have := (Nat.log2_lt h0).mpr h
    omega
theorem rd_int {i : Int} {b : Nat} (h : i.natAbs < 2 ^ (b + 1)) (hb : b < 1920) (hw : b + 1 ≤ w) : Rd K k w S (.int i) := by
  have hl := log2_le_of_lt h
  refine ⟨.int i, fun S2 _ m hm => by obtain ⟨m, rfl⟩ : ∃ j, m = j + 1 := ⟨m - 1, by omega⟩; rfl, rfl, ?_, Nat.zero_le _, ?_⟩
  · simp only [PyData.showable, decide_eq_true_eq]
    omega
  · simp only [PyData.weight]
    split <;> omega
theorem rd_str {x : Str} (h : PyData.strOk x = true) (hw : x.cps.size ≤ w) : Rd K k w S (.str x) := by
  refine ⟨.str x, fun S2 _ m hm => by obtain ⟨m, rfl⟩ : ∃ j, m = j + 1 := ⟨m - 1, by omega⟩; rfl, ?_, rfl, Nat.zero_le _, hw⟩
  simpa only [PyData.canLay0] using h
theorem rd_all : ∀ {xs : List D}, (∀ x ∈ xs, Rd K k w S x) → ∃ ps : List PyData, (∀ S', Kp K S S' → ∀ m, k < m → allPy (toPy m S') xs = some ps) ∧ PyData.canLayAll0 ps = true ∧ PyData.showableAll ps = true ∧ PyData.depthAll ps ≤ k ∧ PyData.weightAll ps ≤ xs.length * (w + 1) ∧ ps.length = xs.length
  | [], _ => ⟨[], fun _ _ _ _ => rfl, rfl, rfl, Nat.zero_le _, Nat.zero_le _, rfl⟩
  | x :: xs, h => by
    obtain ⟨p, h1, h2, h3, h4, h5⟩ := h x List.mem_cons_self
    obtain ⟨ps, g1, g2, g3, g4, g5, g6⟩ := rd_all (xs := xs) fun y hy => h y (List.mem_cons_of_mem _ hy)
    refine ⟨p :: ps, fun S2 k2 m hm => ?_, ?_, ?_, ?_, ?_, by simp [g6]⟩
    · unfold allPy
      rw [h1 S2 k2 m hm, g1 S2 k2 m hm]
    · simp only [PyData.canLayAll0, h2, g2, Bool.and_self]
    · simp only [PyData.showableAll, h3, g3, Bool.and_self]
    · simp only [PyData.depthAll]
      omega
    · simp only [PyData.weightAll, List.length_cons, Nat.add_mul]
      omega
theorem rd_tup {xs : List D} (h : ∀ x ∈ xs, Rd K k w S x) {k' w' : Nat} (hk : k + 1 ≤ k') (hw : xs.length * (w + 1) ≤ w') : Rd K k' w' S (.tup xs) := by
  obtain ⟨ps, g1, g2, g3, g4, g5, g6⟩ := rd_all h
  refine Rd.le ⟨.tuple ps, fun S2 k2 m hm => ?_, ?_, ?_, ?_, ?_⟩ hk hw
  · obtain ⟨m, rfl⟩ : ∃ j, m = j + 1 := ⟨m - 1, by omega⟩
    show (allPy (toPy m S2) xs).map PyData.tuple = _
    rw [g1 S2 k2 m (by omega)]
    rfl
  · simpa only [PyData.canLay0] using g2
  · simpa only [PyData.showable] using g3
  · simp only [PyData.depth]
    omega
  · simpa only [PyData.weight] using g5
theorem rd_cell {c : Nat} {xs : List D} (hc : S[c]? = some (.lst xs)) (hn : c ∉ K) (h : ∀ x ∈ xs, Rd K k w S x) {k' w' : Nat} (hk : k + 1 ≤ k') (hw : xs.length * (w + 1) ≤ w') : Rd K k' w' S (.cell c) := by
  obtain ⟨ps, g1, g2, g3, g4, g5, g6⟩ := rd_all h
  refine Rd.le ⟨.list ps, fun S2 k2 m hm => ?_, ?_, ?_, ?_, ?_⟩ hk hw
  · obtain ⟨m, rfl⟩ : ∃ j, m = j + 1 := ⟨m - 1, by omega⟩
    unfold toPy
    simp only [k2.get _ _ hn hc, g1 S2 k2 m (by omega)]
    rfl
  · simpa only [PyData.canLay0] using g2
  · simpa only [PyData.showable] using g3
  · simp only [PyData.depth]
    omega
  · simpa only [PyData.weight] using g5
/-! ### == of lists with the empty one -/
theorem eqP_nil {neg : Bool} {c c2 : Nat} {xs : List D} (hc : S[c]? = some (.lst xs)) (h : ∀ x ∈ xs, Rd [] k w S x) (hk : k ≤ 50) (hc2 : S[c2]? = some (.lst [])) : opEqG neg (.cell c) (.cell c2) S = .ok (.bl (if neg then !xs.isEmpty else xs.isEmpty)) S := by
  obtain ⟨ps, g1, g2, g3, g4, g5, g6⟩ := rd_all h
  have e1 : toPy 60 S (.cell c) = some (.list ps) := by
    unfold toPy
    simp only [hc, g1 S (Kp.refl _ _) 59 (by omega)]
    rfl
  have e2 : toPy 60 S (.cell c2) = some (.list []) := by
    unfold toPy
    simp only [hc2]
    rfl
  show opEqP neg (.cell c) (.cell c2) S = _
  unfold opEqP
  have s1 : SeqAt.shaped (.list ps) = true := by
    have hd : PyData.depth (.list ps) ≤ 64 := by
      simp only [PyData.depth]
      omega
    have hl : PyData.canLay0 (.list ps) = true := by simpa only [PyData.canLay0] using g2
    unfold SeqAt.shaped
    rw [hl, decide_eq_true hd]
    rfl
  have s2 : SeqAt.shaped (.list []) = true := by decide
  have e3 : PyData.eqv (.list ps) (.list []) = xs.isEmpty := by
    cases xs with
    | nil =>
      cases ps with
      | nil => simp [PyData.eqv, PyData.eqvAll]
      | cons a b => simp at g6
    | cons x xs =>
      cases ps with
      | nil => simp at g6
      | cons a b => simp [PyData.eqv, PyData.eqvAll]
  simp only [e1, e2, s1, s2, e3, Bool.and_self, if_true]
theorem p_neNil {c c2 : Nat} {xs : List D} (hc : S[c]? = some (.lst xs)) (h : ∀ x ∈ xs, Rd [] k w S x) (hk : k ≤ 50) (hc2 : S[c2]? = some (.lst [])) : opNe (.cell c) (.cell c2) S = .ok (.bl (!xs.isEmpty)) S := eqP_nil (neg := true) hc h hk hc2
theorem p_eqNil {c c2 : Nat} {xs : List D} (hc : S[c]? = some (.lst xs)) (h : ∀ x ∈ xs, Rd [] k w S x) (hk : k ≤ 50) (hc2 : S[c2]? = some (.lst [])) : opEq (.cell c) (.cell c2) S = .ok (.bl xs.isEmpty) S := eqP_nil (neg := false) hc h hk hc2
/-! ### repr -/
mutual
theorem short_of : ∀ p : PyData, p.canLay0 = true → p.showable = true → p.intsShort 1921 = true
  | .none, _, _ => rfl
  | .bool _, _, _ => rfl
  | .str _, _, _ => rfl
  | .int i, _, h => by
    simp only [PyData.showable, decide_eq_true_eq] at h
    simp only [PyData.intsShort, decide_eq_true_eq]
    show (Str.ofString (toString i)).length ≤ 1921
    rw [ofString_length]
    exact int_text_length_le (k := 1920) (by decide) h
  | .list xs, h1, h2 => by
    simp only [PyData.canLay0] at h1
    simp only [PyData.showable] at h2
    simp only [PyData.intsShort]
    exact shortAll_of xs h1 h2
  | .tuple xs, h1, h2 => by
    simp only [PyData.canLay0] at h1
    simp only [PyData.showable] at h2
    simp only [PyData.intsShort]
    exact shortAll_of xs h1 h2
  | .dict _, h, _ => by simp [PyData.canLay0] at h
theorem shortAll_of : ∀ ps : List PyData, PyData.canLayAll0 ps = true → PyData.showableAll ps = true → PyData.intsShortAll 1921 ps = true
  | [], _, _ => rfl
  | p :: ps, h1, h2 => by
    simp only [PyData.canLayAll0, Bool.and_eq_true] at h1
    simp only [PyData.showableAll, Bool.and_eq_true] at h2
    simp only [PyData.intsShortAll, short_of p h1.1 h2.1, shortAll_of ps h1.2 h2.2, Bool.and_self]
end
theorem reprOk_of {p : PyData} (h1 : p.canLay0 = true) (h2 : p.showable = true) (h3 : p.depth ≤ 50) (h4 : p.weight ≤ 8000) : reprOk p = true := by
  unfold reprOk
  simp only [h2, PyData.leavesShort_of_canLay0 1921 p h1 (short_of p h1 h2), PyData.hasDict_of_canLay p h1, decide_eq_true h3, decide_eq_true h4, Bool.and_self, Bool.not_false]
theorem b_repr {d : D} (h : Rd K k w S d) (hk : k ≤ 50) (hw : w ≤ 8000) : ∃ p, (∀ S', Kp K S S' → toPy 60 S' d = some p) ∧ reprOk p = true ∧ ∀ S', Kp K S S' → bRepr [d] S' = .ok (.str p.shown) S' := by
  obtain ⟨p, h1, h2, h3, h4, h5⟩ := h
  have e := reprOk_of h2 h3 (by omega) (by omega)
  refine ⟨p, fun S' kp => h1 S' kp 60 (by omega), e, fun S' kp => ?_⟩
  unfold bRepr
  simp only [h1 S' kp 60 (by omega), e, if_true]
/-- the same reading, the same text -/
theorem toPy_succ_cell {S : Sto} {c : Nat} {xs : List D} (hc : S[c]? = some (.lst xs)) (n : Nat) : toPy (n + 1) S (.cell c) = (allPy (toPy n S) xs).map .list := by
  conv => lhs; unfold toPy
  simp only [hc]
end
end Dn
set_option Elab.async false
set_option linter.all false
set_option maxRecDepth 100000
set_option maxHeartbeats 1000000
/-! Lk2: readings of what Dn9 adds: while, whatever is walked, zip, dicts with tuple keys. -/
noncomputable section
namespace Dn
open PySem L2
section
variable {δ : En} {S : Sto} {a b e : DE} {as : DA} {Q : Po}
@[simp] theorem o_srcA {P : Src → Sto → Prop} : Ok (srcA a δ S) P = Ok (a δ S) fun d S => (∃ i j, d = .rng i j ∧ inRng i = true ∧ inRng j = true ∧ P (.rng i j) S) ∨ (isRg d = false ∧ (isL S d = true ∨ isT d = true) ∧ P (.seq d) S) := by
  unfold srcA
  rw [Ok_bnd]
  congr
  funext d S
  cases d with
  | rng i j =>
    apply propext
    constructor
    · intro h
      dsimp only at h
      split at h
      · rename_i h2
        rw [Bool.and_eq_true] at h2
        exact .inl ⟨i, j, rfl, h2.1, h2.2, h⟩
      · exact h.elim
    · rintro (⟨i', j', e, h1, h2, h⟩ | ⟨h, _⟩)
      · cases e
        simp only [h1, h2, Bool.and_self, if_true]
        exact h
      · cases h
  | _ =>
    dsimp only
    split
    · rename_i h
      rw [Bool.or_eq_true] at h
      simp [h, isRg]
    · rename_i h
      rw [Bool.or_eq_true] at h
      apply propext
      constructor
      · exact fun z => z.elim
      · rintro (⟨i', j', e, _⟩ | ⟨_, z, _⟩)
        · cases e
        · exact absurd z h
@[simp] theorem o_enA {P : Src → Sto → Prop} : Ok (enA as δ S) P = Ok (as δ S) fun ds S => ∃ d, ds = [d] ∧ (isL S d = true ∨ isT d = true) ∧ P (.en d) S := by
  unfold enA
  rw [Ok_bnd]
  congr
  funext d S
  rcases d with _ | ⟨d, _ | ⟨e, r⟩⟩
  · simp
  · simp only []
    split
    · rename_i h
      rw [Bool.or_eq_true] at h
      simp [h]
    · rename_i h
      rw [Bool.or_eq_true] at h
      simp [h]
  · simp
@[simp] theorem o_srcZ {P : Src → Sto → Prop} : Ok (srcZ as δ S) P = Ok (as δ S) fun ds S => ∃ d e, ds = [d, e] ∧ ((isT d = true ∧ isT e = true) ∨ (isL S d = true ∧ isL S e = true)) ∧ P (.zp d e) S := by
  unfold srcZ
  rw [Ok_bnd]
  congr
  funext d S
  rcases d with _ | ⟨d, _ | ⟨e, _ | ⟨z, r⟩⟩⟩
  · simp
  · simp
  · simp only []
    split
    · rename_i h
      rw [Bool.or_eq_true, Bool.and_eq_true, Bool.and_eq_true] at h
      apply propext
      constructor
      · exact fun z => ⟨d, e, rfl, h, z⟩
      · rintro ⟨d', e', q, _, z⟩
        cases q
        exact z
    · rename_i h
      rw [Bool.or_eq_true, Bool.and_eq_true, Bool.and_eq_true] at h
      apply propext
      constructor
      · exact fun z => z.elim
      · rintro ⟨d', e', q, z, _⟩
        cases q
        exact absurd z h
  · simp
@[simp] theorem b_range1 {j : Int} : bRange [.int j] S = .ok (.rng 0 j) S := rfl
@[simp] theorem b_range2 {i j : Int} : bRange [.int i, .int j] S = .ok (.rng i j) S := rfl
@[simp] theorem b_min2 {i j : Int} : bMin [.int i, .int j] S = .ok (.int (if j < i then j else i)) S := rfl
theorem b_anyL {c : Nat} {l : List Bool} (h : S[c]? = some (.lst (l.map D.bl))) : bAny [.cell c] S = .ok (.bl (l.any id)) S := by
  unfold bAny
  simp only [isL, items, h, if_true, Option.bind_some, blsOf_map]
@[simp] theorem o_dik0 {P : D → Sto → Prop} : Ok (dDik0 δ S) P = P (.cell S.length) (S ++ [.dik []]) := rfl
@[simp] theorem o_dik1 {P : D → Sto → Prop} : Ok (dDik1 a b δ S) P = Ok (a δ (S ++ [.dik []])) fun x S1 => Ok (b δ S1) fun y S2 => ∃ kk, S2[S.length]? = some (.dik []) ∧ keyT x = some kk ∧ P (.cell S.length) (S2.set S.length (.dik [(kk, y)])) := by
  unfold dDik1
  rw [Ok_bnd]
  congr
  funext x S1
  rw [Ok_bnd]
  congr
  funext y S2
  apply propext
  constructor
  · intro h
    split at h
    · rename_i kk h1 h2
      exact ⟨kk, h1, h2, h⟩
    · exact h.elim
  · rintro ⟨kk, h1, h2, h⟩
    simp only [h1, h2]
    exact h
theorem p_gtT {ns ms : List Int} : opGtT (.tup (ns.map D.int)) (.tup (ms.map D.int)) S = .ok (.bl (lexGt ns ms)) S := by
  unfold opGtT
  simp only [intsOf_map]
theorem p_inK {neg : Bool} {c : Nat} {kvs : List (NestedKey × D)} {x : D} {k : NestedKey} (h : S[c]? = some (.dik kvs)) (hk : keyT x = some k) : opIn neg x (.cell c) S = .ok (.bl (if neg then !(dkGet kvs k).isSome else (dkGet kvs k).isSome)) S := by
  unfold opIn
  have h1 : items S (.cell c) = none := by simp only [items, h]
  have h2 : dikOf S (.cell c) = some kvs := by simp only [dikOf, h]
  simp only [h1, h2, hk]
theorem p_putK {c : Nat} {kvs : List (NestedKey × D)} {x d : D} {k : NestedKey} (h : S[c]? = some (.dik kvs)) (hk : keyT x = some k) (hl : kvs.length < lim) : dikPut (.cell c) x d S = some (S.set c (.dik (dkPut kvs k d))) := by
  unfold dikPut
  have h2 : dikOf S (.cell c) = some kvs := by simp only [dikOf, h]
  simp only [h2, hk, hl, if_true]
end
/-! ### loops -/
section
variable {δ : En} {S : Sto} {src : DSrc} {g : Tg} {body : DS} {Q : Po} {t : DT}
theorem ok_forAT {xs : List D} (I : Nat → En → Sto → Prop) {a : DE} (hs : Ok (a δ S) fun d S1 => d = .tup xs ∧ I 0 δ S1)
    (step : ∀ i δ S x, xs[i]? = some x → I i δ S → ∃ δ', g.set x δ = some δ' ∧ OkS (body δ' S) ⟨I (i + 1), Q.rt, Q.nx, I (i + 1)⟩) (done : ∀ δ S, I xs.length δ S → Q.nx δ S) : OkS (dFor (srcA a) g body δ S) Q := by
  refine ok_for (s0 := .seq (.tup xs)) (N := xs.length) (item := fun i => xs[i]?.getD .non) I ?_ (fun _ _ _ _ => rfl) (fun i δ S hi _ => ?_) (fun i δ S hi h => ?_) done
  · rw [o_srcA]
    refine Ok.imp hs fun d S1 ⟨e, h⟩ => ?_
    subst e
    exact .inr ⟨rfl, .inr rfl, rfl, h⟩
  · simp [Src.item, hi]
  · have e : xs[i]? = some xs[i] := List.getElem?_eq_getElem hi
    have := step i δ S xs[i] e h
    simpa [e] using this
theorem ok_forEAT {xs : List D} (I : Nat → En → Sto → Prop) {a : DA} (hs : Ok (a δ S) fun d S1 => d = [.tup xs] ∧ I 0 δ S1)
    (step : ∀ i δ S x, xs[i]? = some x → I i δ S → ∃ δ', g.set (.tup [.int i, x]) δ = some δ' ∧ OkS (body δ' S) ⟨I (i + 1), Q.rt, Q.nx, I (i + 1)⟩) (done : ∀ δ S, I xs.length δ S → Q.nx δ S) : OkS (dFor (enA a) g body δ S) Q := by
  refine ok_for (s0 := .en (.tup xs)) (N := xs.length) (item := fun i => .tup [.int i, xs[i]?.getD .non]) I ?_ (fun _ _ _ _ => rfl) (fun i δ S hi _ => ?_) (fun i δ S hi h => ?_) done
  · rw [o_enA]
    refine Ok.imp hs fun d S1 ⟨e, h⟩ => ?_
    subst e
    exact ⟨_, rfl, .inr rfl, rfl, h⟩
  · simp [Src.item, hi]
  · have e : xs[i]? = some xs[i] := List.getElem?_eq_getElem hi
    have := step i δ S xs[i] e h
    simpa [e] using this
theorem ok_forAR {n : Nat} (hn : n ≤ 1000000) (I : Nat → En → Sto → Prop) {a : DE} (hs : Ok (a δ S) fun d S1 => d = .rng 0 (n : Nat) ∧ I 0 δ S1)
    (step : ∀ i δ S, i < n → I i δ S → ∃ δ', g.set (.int (i : Nat)) δ = some δ' ∧ OkS (body δ' S) ⟨I (i + 1), Q.rt, Q.nx, I (i + 1)⟩) (done : ∀ δ S, I n δ S → Q.nx δ S) : OkS (dFor (srcA a) g body δ S) Q := by
  refine ok_for (s0 := .rng 0 (n : Nat)) (N := n) (item := fun i => .int (i : Nat)) I ?_ (fun i δ S h => ?_) (fun i δ S hi h => ?_) (fun i δ S hi h => step i δ S hi h) done
  · rw [o_srcA]
    refine Ok.imp hs fun d S1 ⟨e, h⟩ => ?_
    subst e
    exact .inl ⟨_, _, rfl, inRng_of (by omega) (by omega), inRng_of (by omega) (by omega), rfl, h⟩
  · simp [Src.len]
  · simp [Src.item, hi]
theorem ok_forAL {xs : List D} {c : Nat} (I : Nat → En → Sto → Prop) {a : DE} (hs : Ok (a δ S) fun d S1 => d = .cell c ∧ I 0 δ S1) (hc : ∀ i δ S, I i δ S → S[c]? = some (.lst xs))
    (step : ∀ i δ S x, xs[i]? = some x → I i δ S → ∃ δ', g.set x δ = some δ' ∧ OkS (body δ' S) ⟨I (i + 1), Q.rt, Q.nx, I (i + 1)⟩) (done : ∀ δ S, I xs.length δ S → Q.nx δ S) : OkS (dFor (srcA a) g body δ S) Q := by
  refine ok_for (s0 := .seq (.cell c)) (N := xs.length) (item := fun i => xs[i]?.getD .non) I ?_ (fun i δ S h => ?_) (fun i δ S hi h => ?_) (fun i δ S hi h => ?_) done
  · rw [o_srcA]
    refine Ok.imp hs fun d S1 ⟨e, h⟩ => ?_
    subst e
    exact .inr ⟨rfl, .inl (isL_cell (hc _ _ _ h)), rfl, h⟩
  · simp [Src.len, it_cell (hc _ _ _ h)]
  · simp [Src.item, it_cell (hc _ _ _ h), hi]
  · have e : xs[i]? = some xs[i] := List.getElem?_eq_getElem hi
    have := step i δ S xs[i] e h
    simpa [e] using this
/-- over zip of two tuples of one length -/
theorem ok_forZT {xs ys : List D} (hl : xs.length = ys.length) (I : Nat → En → Sto → Prop) {a : DA} (hs : Ok (a δ S) fun ds S1 => ds = [.tup xs, .tup ys] ∧ I 0 δ S1)
    (step : ∀ i δ S x y, xs[i]? = some x → ys[i]? = some y → I i δ S → ∃ δ', g.set (.tup [x, y]) δ = some δ' ∧ OkS (body δ' S) ⟨I (i + 1), Q.rt, Q.nx, I (i + 1)⟩) (done : ∀ δ S, I xs.length δ S → Q.nx δ S) : OkS (dFor (srcZ a) g body δ S) Q := by
  refine ok_for (s0 := .zp (.tup xs) (.tup ys)) (N := xs.length) (item := fun i => .tup [xs[i]?.getD .non, ys[i]?.getD .non]) I ?_ (fun _ _ _ _ => ?_) (fun i δ S hi _ => ?_) (fun i δ S hi h => ?_) done
  · rw [o_srcZ]
    refine Ok.imp hs fun d S1 ⟨e, h⟩ => ?_
    subst e
    exact ⟨_, _, rfl, .inl ⟨rfl, rfl⟩, rfl, h⟩
  · simp [Src.len, items, hl]
  · have h2 : i < ys.length := by omega
    simp [Src.item, items, hi, h2]
  · have e : xs[i]? = some xs[i] := List.getElem?_eq_getElem hi
    have e2 : ys[i]? = some (ys[i]'(by omega)) := List.getElem?_eq_getElem (by omega)
    have := step i δ S xs[i] _ e e2 h
    simpa [e, e2] using this
theorem okw {b : DS} (I : Nat → En → Sto → Prop)
    (step : ∀ m δ S, I m δ S → Ok (t δ S) fun k S1 => if k = true then OkS (b δ S1) ⟨fun δ S => ∃ m', m' < m ∧ I m' δ S, Q.rt, Q.nx, fun δ S => ∃ m', m' < m ∧ I m' δ S⟩ else Q.nx δ S1) :
    ∀ (f m : Nat) (δ : En) (S : Sto), m < f → I m δ S → OkS (dWhl t b f δ S) Q
  | 0, m, δ, S, h, _ => by omega
  | f + 1, m, δ, S, h, hI => by
    unfold dWhl
    rw [OkS_then]
    refine Ok.imp (step m δ S hI) fun k S1 h1 => ?_
    cases k with
    | false => simpa using h1
    | true =>
      simp only [if_true] at h1 ⊢
      have ih := okw I step f
      cases q : b δ S1 with
      | nx δ1 S2 =>
        rw [q] at h1
        obtain ⟨m', hm, h2⟩ := h1
        exact ih m' δ1 S2 (by omega) h2
      | ct δ1 S2 =>
        rw [q] at h1
        obtain ⟨m', hm, h2⟩ := h1
        exact ih m' δ1 S2 (by omega) h2
      | bk δ1 S2 =>
        rw [q] at h1
        exact h1
      | rt d S2 =>
        rw [q] at h1
        exact h1
      | exc c S2 =>
        rw [q] at h1
        exact h1.elim
      | bad =>
        rw [q] at h1
        exact h1.elim
/-- an invariant with a measure -/
theorem ok_while {b : DS} (I : Nat → En → Sto → Prop) (n : Nat) (hn : n < 1000000) (h0 : I n δ S)
    (step : ∀ m δ S, I m δ S → Ok (t δ S) fun k S1 => if k = true then OkS (b δ S1) ⟨fun δ S => ∃ m', m' < m ∧ I m' δ S, Q.rt, Q.nx, fun δ S => ∃ m', m' < m ∧ I m' δ S⟩ else Q.nx δ S1) : OkS (dWhile t b δ S) Q :=
  okw I step Wf n δ S (by rw [Wf_eq]; exact hn) h0
end
/-! ### comprehensions -/
section
variable {δ : En} {S : Sto} {P : D → Sto → Prop} {g : Tg} {t : DT} {elt : DE} {own : List Nat}
theorem ok_lcAT {xs : List D} {a : DE} (F : D → Option D) (hs : Ok (a δ S) fun d S1 => d = .tup xs ∧ Kp [] S S1) (hl : xs.length ≤ lim)
    (step : ∀ x ∈ xs, ∀ S', Kp [] S S' → ∃ δ', g.set x (wipeD δ own) = some δ' ∧ Ok (t δ' S') fun b S2 => Kp [] S' S2 ∧ if b = true then Ok (elt δ' S2) fun y S3 => Kp [] S' S3 ∧ F x = some y else F x = none)
    (done : ∀ S' c, Kp [] S S' → S.length ≤ c → S'[c]? = some (.lst (xs.filterMap F)) → P (.cell c) S') : Ok (dLc (srcA a) g t elt own δ S) P := by
  refine ok_lcP (s0 := .seq (.tup xs)) F ?_ (fun _ _ => rfl) (fun S' i k hi => ?_) hl step done
  · rw [o_srcA]
    refine Ok.imp hs fun d S1 ⟨e, h⟩ => ?_
    subst e
    exact .inr ⟨rfl, .inr rfl, rfl, h⟩
  · simp [Src.item]
theorem ok_lcAL {xs : List D} {c0 : Nat} {a : DE} (F : D → Option D) (hs : Ok (a δ S) fun d S1 => d = .cell c0 ∧ Kp [] S S1) (hc : S[c0]? = some (.lst xs)) (hl : xs.length ≤ lim)
    (step : ∀ x ∈ xs, ∀ S', Kp [] S S' → ∃ δ', g.set x (wipeD δ own) = some δ' ∧ Ok (t δ' S') fun b S2 => Kp [] S' S2 ∧ if b = true then Ok (elt δ' S2) fun y S3 => Kp [] S' S3 ∧ F x = some y else F x = none)
    (done : ∀ S' c, Kp [] S S' → S.length ≤ c → S'[c]? = some (.lst (xs.filterMap F)) → P (.cell c) S') : Ok (dLc (srcA a) g t elt own δ S) P := by
  refine ok_lcP (s0 := .seq (.cell c0)) F ?_ (fun S' k => ?_) (fun S' i k hi => ?_) hl step done
  · rw [o_srcA]
    refine Ok.imp hs fun d S1 ⟨e, h⟩ => ?_
    subst e
    exact .inr ⟨rfl, .inl (isL_cell (h.get _ _ (by simp) hc)), rfl, h⟩
  · simp [Src.len, it_cell (k.get _ _ (by simp) hc)]
  · simp [Src.item, it_cell (k.get _ _ (by simp) hc)]
theorem ok_lcEAT {xs : List D} {a : DA} (F : D → Option D) (hs : Ok (a δ S) fun d S1 => d = [.tup xs] ∧ Kp [] S S1) (hl : xs.length ≤ lim)
    (step : ∀ i x, xs[i]? = some x → ∀ S', Kp [] S S' → ∃ δ', g.set (.tup [.int (i : Nat), x]) (wipeD δ own) = some δ' ∧ Ok (t δ' S') fun b S2 => Kp [] S' S2 ∧ if b = true then Ok (elt δ' S2) fun y S3 => Kp [] S' S3 ∧ F (.tup [.int (i : Nat), x]) = some y else F (.tup [.int (i : Nat), x]) = none)
    (done : ∀ S' c, Kp [] S S' → S.length ≤ c → S'[c]? = some (.lst ((xs.mapIdx fun i x => D.tup [.int (i : Nat), x]).filterMap F)) → P (.cell c) S') : Ok (dLc (enA a) g t elt own δ S) P := by
  refine ok_lcP (s0 := .en (.tup xs)) (xs := xs.mapIdx fun i x => D.tup [.int (i : Nat), x]) F ?_ (fun S' k => ?_) (fun S' i k hi => ?_) ?_ (fun x hx S' k => ?_) done
  · rw [o_enA]
    refine Ok.imp hs fun d S1 ⟨e, h⟩ => ?_
    subst e
    exact ⟨_, rfl, .inr rfl, rfl, h⟩
  · simp [Src.len]
  · simp [Src.item]
  · simpa using hl
  · obtain ⟨i, hi, rfl⟩ := List.mem_mapIdx.mp hx
    exact step i _ (List.getElem?_eq_getElem hi) S' k
end
end Dn
set_option Elab.async false
set_option linter.all false
set_option maxRecDepth 100000
set_option maxHeartbeats 2000000
/-! Aa_k92: the data, the small defs. -/
noncomputable section
namespace Dn
open PySem L2
@[simp] theorem set_tp {ts : List Tg} {ds : List D} {δ : En} : Tg.set (.tp ts) (.tup ds) δ = Tg.setAll ts ds δ := by simp [Tg.set]
@[simp] theorem set_nm {i : Nat} {d : D} {δ : En} : Tg.set (.nm i) d δ = some (δ.set i (some d)) := by simp [Tg.set]
@[simp] theorem setAll_nil {δ : En} : Tg.setAll [] [] δ = some δ := by simp [Tg.setAll]
@[simp] theorem setAll_cons {t : Tg} {ts : List Tg} {d : D} {ds : List D} {δ : En} : Tg.setAll (t :: ts) (d :: ds) δ = (t.set d δ).bind fun δ' => Tg.setAll ts ds δ' := by
  simp only [Tg.setAll]
  cases t.set d δ <;> rfl
theorem eqOf {r : Res D} {d : D} {S : Sto} (h : Ok r fun r S' => r = d ∧ S' = S) : r = .ok d S := by
  obtain ⟨r, S', e, h1, h2⟩ := h.ex
  rw [e, h1, h2]
theorem map_get {α β : Type} {f : α → β} {l : List α} {i : Nat} {x : β} (h : (l.map f)[i]? = some x) : ∃ a, l[i]? = some a ∧ x = f a := by
  rw [List.getElem?_map] at h
  obtain ⟨a, h1, h2⟩ := Option.map_eq_some_iff.mp h
  exact ⟨a, h1, h2.symm⟩
theorem cut_to {xs : List D} {k : Nat} : cutD xs none (some (k : Nat)) = xs.take k := by
  unfold cutD
  rw [HT.sIx_nat, HT.sIx_none, Nat.sub_zero, List.drop_zero]
  rcases Nat.le_total k xs.length with h | h
  · rw [Nat.min_eq_left h]
  · rw [Nat.min_eq_right h, List.take_of_length_le (Nat.le_refl _), List.take_of_length_le h]
/-! ### the data -/
abbrev Th := Nat × Bool
inductive Stp where
  | out (r : Nat) | inn (tr : Bool) (t : Th)
def mD (b : Bool) : D := .str (if b then "beside" else "alone")
def wD (b : Bool) : D := .str (if b then "try" else "in")
def Th.d (t : Th) : D := .tup [.int (t.1 : Nat), mD t.2]
def thsD (l : List Th) : D := .tup (l.map Th.d)
def Stp.d : Stp → D
  | .out r => .tup [.str "out", .int (r : Nat)]
  | .inn b t => .tup [wD b, .int (t.1 : Nat), mD t.2]
def wayD (w : List Stp) : D := .tup (w.map Stp.d)
def houseD (rs : List D) (ws : List (List Stp)) : D := .tup [.tup rs, .tup (ws.map wayD)]
def pushT (l : List Th) : Stp → List Th
  | .out _ => l.dropLast
  | .inn _ t => l ++ [t]
def heldT (w : List Stp) (k : Nat) : List Th := (w.take k).foldl pushT []
def wishT : Stp → Option Th
  | .out _ => none
  | .inn _ t => some t
/-- every way out has something to leave -/
def Nest (w : List Stp) : Prop := ∀ (k r : Nat), w[k]? = some (.out r) → heldT w k ≠ []
theorem heldT_succ {w : List Stp} {k : Nat} {s : Stp} (h : w[k]? = some s) : heldT w (k + 1) = pushT (heldT w k) s := by
  unfold heldT
  rw [List.take_succ, h, Option.toList_some, List.foldl_append]
  rfl
theorem heldT_len (w : List Stp) : ∀ j, (heldT w j).length ≤ j
  | 0 => by simp [heldT]
  | j + 1 => by
    have ih := heldT_len w j
    cases h : w[j]? with
    | none =>
      have e : heldT w (j + 1) = heldT w j := by
        unfold heldT
        rw [List.take_succ, h]
        simp
      rw [e]
      omega
    | some s =>
      rw [heldT_succ h]
      cases s with
      | out r =>
        simp [pushT]
        omega
      | inn b t =>
        simp [pushT]
        omega
@[simp] theorem s_out_in : decide (("out" : Str) = "in") = false := by decide +kernel
@[simp] theorem s_out_try : decide (("out" : Str) = "try") = false := by decide +kernel
@[simp] theorem s_in_out : decide (("in" : Str) = "out") = false := by decide +kernel
@[simp] theorem s_try_out : decide (("try" : Str) = "out") = false := by decide +kernel
@[simp] theorem s_in_try : decide (("in" : Str) = "try") = false := by decide +kernel
@[simp] theorem s_try_in : decide (("try" : Str) = "in") = false := by decide +kernel
@[simp] theorem e_out_in : (("out" : Str) = "in") = False := eq_false (by decide +kernel)
@[simp] theorem e_out_try : (("out" : Str) = "try") = False := eq_false (by decide +kernel)
@[simp] theorem e_in_out : (("in" : Str) = "out") = False := eq_false (by decide +kernel)
@[simp] theorem e_try_out : (("try" : Str) = "out") = False := eq_false (by decide +kernel)
@[simp] theorem e_in_try : (("in" : Str) = "try") = False := eq_false (by decide +kernel)
@[simp] theorem e_try_in : (("try" : Str) = "in") = False := eq_false (by decide +kernel)
section
variable {S : Sto}
@[simp] theorem r_is_integer {d : D} : d_is_integer [d] S = if isRg d = true then .bad else .ok (.bl (isI d)) S := by
  cases hr : isRg d with
  | true =>
    have e : kitB (tyD S d) "int" = none := k_int_rg hr
    simp [d_is_integer, b_is_integer, dFn, startD, dRet, thenS, dAndV, asB, dIsI, dVar, e, endF]
  | false =>
    have h : Ok (d_is_integer [d] S) fun r S' => r = .bl (isI d) ∧ S' = S := by
      cases d with
      | rng i j => exact absurd (show true = false from hr) (by decide)
      | _ => simp [d_is_integer, b_is_integer, startD, isI, isB]
    obtain ⟨r, S', e, h1, h2⟩ := h.ex
    rw [e, h1, h2]
    rfl
def whole (d : D) (n : Nat) : Bool := match d with
  | .int i => decide (0 ≤ i ∧ i < n)
  | _ => false
theorem r_is_within {d : D} {n : Nat} (hr : isRg d = false) : d_is_within [d, .int 0, .int ((n : Int) - 1)] S = .ok (.bl (whole d n)) S := by
  refine eqOf ?_
  cases d with
  | int i =>
    simp [d_is_within, b_is_within, startD, isRg, isI, whole]
    by_cases h : 0 ≤ i
    · have e : decide (i ≤ (n : Int) - 1) = decide (i < (n : Int)) := decide_eq_decide.mpr ⟨fun h => by omega, fun h => by omega⟩
      simp [h, e]
    · simp [h]
      omega
  | rng i j => cases hr
  | _ => simp [d_is_within, b_is_within, startD, isRg, isI, whole]
theorem r_law_whole {d : D} {n : Nat} (hr : isRg d = false) : d_law_whole [d, .int (n : Nat)] S = .ok (.bl (whole d n)) S := by
  refine eqOf ?_
  cases d with
  | int i =>
    simp [d_law_whole, b_law_whole, startD, isRg, isI, isB, whole]
    by_cases h : 0 ≤ i
    · simp [h]
    · simp [h]
      omega
  | rng i j => cases hr
  | _ => simp [d_law_whole, b_law_whole, startD, isRg, isI, isB, whole]
theorem r_held {w : List Stp} {k : Nat} (hn : Nest w) (hk : k ≤ w.length) (hw : w.length ≤ 1000) : Ok (d_held [wayD w, .int (k : Nat)] S) fun r S' => r = thsD (heldT w k) ∧ Kp [] S S' := by
  simp [d_held, b_held, startD, wayD, lim_eq]
  refine ok_forT (xs := (w.take k).map Stp.d) (fun i δ S' => Kp [] S S' ∧ (∃ v, δ = [some (wayD w), some (.int (k : Nat)), some (.cell S.length), v]) ∧ S'[S.length]? = some (.lst ((heldT w i).map Th.d))) ?_ ?_ ?_
  · simp [cut_to, wayD, List.map_take]
    exact ⟨Kp.app _ _ _, by simp [heldT]⟩
  · rintro i δ S' x hx ⟨kp, ⟨v, rfl⟩, hc⟩
    have hi : i < k := by
      have := (List.getElem?_eq_some_iff.mp hx).1
      simp at this
      omega
    obtain ⟨s, hs, rfl⟩ : ∃ s, w[i]? = some s ∧ x = s.d := by
      simp [List.getElem?_take, hi] at hx
      obtain ⟨s, h1, h2⟩ := hx
      exact ⟨s, h1, h2.symm⟩
    have e := heldT_succ hs
    have hl : (heldT w i).length ≤ i := heldT_len w i
    cases s with
    | out r =>
      have hne := hn i r hs
      obtain ⟨l, t, hlt⟩ : ∃ l t, heldT w i = l ++ [t] := ⟨(heldT w i).dropLast, (heldT w i).getLast hne, (List.dropLast_concat_getLast hne).symm⟩
      have hc' : S'[S.length]? = some (.lst (l.map Th.d ++ [t.d])) := by rw [hc, hlt]; simp
      simp [Stp.d, isL_cell hc', m_pop hc']
      refine ⟨kp.set (.inl (Nat.le_refl _)) _, ?_⟩
      rw [get_set hc', e, hlt]
      simp [pushT]
    | inn b t =>
      have hw' : decide ((if b = true then ("try" : Str) else "in") = "out") = false := by cases b <;> simp
      have hw2 : ((if b = true then ("try" : Str) else "in") = "out") = False := eq_false (by cases b <;> simp)
      simp [Stp.d, wD, hw', hw2, isL_cell hc, lim_eq, m_app (d := .tup [.int (t.1 : Nat), mD t.2]) hc (by simp [lim_eq]; omega)]
      refine ⟨kp.set (.inl (Nat.le_refl _)) _, ?_⟩
      rw [get_set hc, e]
      simp [pushT, Th.d]
  · rintro δ S' ⟨kp, ⟨v, rfl⟩, hc⟩
    simp [b_tupL hc, thsD, kp]
    congr 2
    omega
theorem r_wish {w : List Stp} {k : Nat} {s : Stp} (h : w[k]? = some s) : d_wish [wayD w, .int (k : Nat)] S = .ok ((wishT s).elim .non Th.d) S := by
  refine eqOf ?_
  have e : (w.map Stp.d)[k]? = some s.d := by simp [h]
  simp [d_wish, b_wish, startD, wayD, p_ixT e]
  cases s with
  | out r => simp [Stp.d, wishT]
  | inn b t => cases b <;> simp [Stp.d, wishT, Th.d, wD, lim_eq]
def tryT : Stp → Bool
  | .inn true _ => true
  | _ => false
theorem r_is_try {w : List Stp} {k : Nat} {s : Stp} (h : w[k]? = some s) : d_is_try [wayD w, .int (k : Nat)] S = .ok (.bl (tryT s)) S := by
  refine eqOf ?_
  have e : (w.map Stp.d)[k]? = some s.d := by simp [h]
  simp [d_is_try, b_is_try, startD, wayD, p_ixT e]
  cases s with
  | out r => simp [Stp.d, tryT]
  | inn b t => cases b <;> simp [Stp.d, tryT, wD]
end
end Dn
set_option Elab.async false
set_option linter.all false
set_option maxRecDepth 100000
set_option maxHeartbeats 2000000
/-! Ab_k92: places, rooms held, who is entered from where. -/
noncomputable section
namespace Dn
open PySem L2
section
variable {S S' : Sto} {K : List Nat}
abbrev nats (l : List Nat) : List D := l.map fun i => D.int (i : Nat)
theorem nats_get {l : List Nat} {i : Nat} {x : D} (h : (nats l)[i]? = some x) : ∃ a, l[i]? = some a ∧ x = .int (a : Nat) := map_get h
def isEnt (w : List Stp) (i : Nat) : Bool := match w[i]? with
  | some (.inn _ _) => true
  | _ => false
def isIn (w : List Stp) (i : Nat) : Bool := match w[i]? with
  | some (.inn false _) => true
  | _ => false
def intF (p : Nat → Bool) : D → Option D
  | .int i => if p i.toNat = true then some (.int i) else none
  | _ => none
theorem intF_n {p : Nat → Bool} {i : Nat} : intF p (.int (i : Nat)) = if p i = true then some (.int (i : Nat)) else none := by simp [intF]
theorem intF_list {l : List Nat} {p : Nat → Bool} : (nats l).filterMap (intF p) = nats (l.filter p) := by
  induction l with
  | nil => rfl
  | cons i l ih =>
    show ((D.int (i : Nat)) :: nats l).filterMap (intF p) = _
    rw [List.filterMap_cons, intF_n, List.filter_cons, ih]
    by_cases hp : p i = true
    · rw [if_pos hp, if_pos hp]
      rfl
    · rw [if_neg hp, if_neg hp]
def entF : D → Option D
  | .tup [i, .tup (.str x :: _)] => if x = "out" then none else some i
  | _ => none
theorem ent_list : ∀ w : List Stp, ((w.map Stp.d).mapIdx fun i x => D.tup [.int (i : Nat), x]).filterMap entF = nats ((List.range w.length).filter (isEnt w)) := by
  intro w
  have gen : ∀ (l : List Stp) (o : Nat), ((l.map Stp.d).mapIdx fun i x => D.tup [.int ((o + i : Nat) : Int), x]).filterMap entF = ((List.range l.length).filter (isEnt l)).map fun i => D.int ((o + i : Nat) : Int) := by
    intro l
    induction l with
    | nil => intro o; rfl
    | cons s l ih =>
      intro o
      have e1 : (List.range (l.length + 1)).filter (isEnt (s :: l)) = (if isEnt (s :: l) 0 = true then [0] else []) ++ ((List.range l.length).filter (isEnt l)).map (· + 1) := by
        have e3 : (isEnt (s :: l) ∘ fun x => x + 1) = isEnt l := by
          funext i
          simp [isEnt]
        rw [List.range_succ_eq_map, List.filter_cons, List.filter_map]
        show (if isEnt (s :: l) 0 = true then 0 :: _ else _) = _
        have e4 : (isEnt (s :: l) ∘ Nat.succ) = isEnt l := e3
        rw [e4]
        split <;> rfl
      have ih2 := ih (o + 1)
      have e2 : (fun (i : Nat) (x : D) => D.tup [.int ((o + (i + 1) : Nat) : Int), x]) = fun (i : Nat) (x : D) => D.tup [.int ((o + 1 + i : Nat) : Int), x] := by
        funext i x
        have : o + (i + 1) = o + 1 + i := by omega
        rw [this]
      have e5 : (fun (i : Nat) => D.int ((o + (i + 1) : Nat) : Int)) = fun (i : Nat) => D.int ((o + 1 + i : Nat) : Int) := by
        funext i
        have : o + (i + 1) = o + 1 + i := by omega
        rw [this]
      rw [List.map_cons, List.mapIdx_cons, List.length_cons, e1, List.map_append, List.map_map, List.filterMap_cons]
      have e6 : ((fun (i : Nat) => D.int ((o + i : Nat) : Int)) ∘ fun x => x + 1) = fun (i : Nat) => D.int ((o + 1 + i : Nat) : Int) := e5
      rw [e2, ih2, e6]
      cases s with
      | out r => simp [isEnt, Stp.d, entF]
      | inn b t =>
        have hb : ((if b = true then ("try" : Str) else "in") = "out") = False := eq_false (by cases b <;> simp)
        simp [isEnt, Stp.d, entF, wD, hb]
  have := gen w 0
  simpa using this
theorem r_entries {w : List Stp} (hw : w.length ≤ 1000) : Ok (d_entries [wayD w] S) fun r S' => r = .tup (nats ((List.range w.length).filter (isEnt w))) ∧ Kp [] S S' := by
  simp [d_entries, b_entries, startD]
  refine ok_lcET (xs := w.map Stp.d) entF ?_ (by simp [lim_eq]; omega) ?_ ?_
  · simp [wayD, Kp.refl]
  · intro i x hx S' kp
    obtain ⟨s, hs, rfl⟩ : ∃ s, w[i]? = some s ∧ x = s.d := by
      simp at hx
      obtain ⟨s, h1, h2⟩ := hx
      exact ⟨s, h1, h2.symm⟩
    simp [wipeD]
    cases s with
    | out r => simp [Stp.d, Kp.refl, entF]
    | inn b t => cases b <;> simp [Stp.d, wD, Kp.refl, entF]
  · intro S' c kp hl hc
    rw [ent_list] at hc
    simp [b_tupL hc, kp]
theorem r_places_in {w : List Stp} (hw : w.length ≤ 1000) : Ok (d_places_in [wayD w] S) fun r S' => Kp [] S S' ∧ ∃ c, r = .cell c ∧ S.length ≤ c ∧ S'[c]? = some (.lst (nats ((List.range w.length).filter (isIn w)))) := by
  have fl : ((List.range w.length).filter (isEnt w)).length ≤ w.length := by
    have := List.length_filter_le (isEnt w) (List.range w.length)
    rw [List.length_range] at this
    exact this
  simp [d_places_in, b_places_in, startD]
  refine ok_lcT (xs := nats ((List.range w.length).filter (isEnt w))) (intF (isIn w)) ?_ (by rw [List.length_map, lim_eq]; omega) ?_ ?_
  · simp
    refine Ok.imp (r_entries hw) ?_
    rintro _ S1 ⟨rfl, k1⟩
    exact ⟨rfl, k1⟩
  · intro x hx S' kp
    obtain ⟨i, hi, rfl⟩ := List.mem_map.mp hx
    obtain ⟨h1, h2⟩ := List.mem_filter.mp hi
    have hil := List.mem_range.mp h1
    obtain ⟨s, hs⟩ : ∃ s, w[i]? = some s := ⟨_, List.getElem?_eq_getElem hil⟩
    refine ⟨_, set_nm, ?_⟩
    have e : isIn w i = !tryT s := by
      unfold isIn
      unfold isEnt at h2
      rw [hs] at h2 ⊢
      cases s with
      | out r => cases h2
      | inn b t => cases b <;> rfl
    rw [intF_n, e]
    simp [wipeD, r_is_try hs]
    cases tryT s <;> simp [Kp.refl]
  · intro S' c kp hl hc
    rw [intF_list, List.filter_filter] at hc
    have e : (fun a => isIn w a && isEnt w a) = isIn w := by
      funext a
      unfold isIn isEnt
      cases w[a]? with
      | none => rfl
      | some s => cases s with
        | out r => rfl
        | inn b t => cases b <;> rfl
    rw [e] at hc
    exact ⟨kp, c, rfl, hl, hc⟩
def roomsH (w : List Stp) (k : Nat) : List Nat := (heldT w k).map (·.1)
def fstF : D → Option D
  | .tup [a, _] => some a
  | _ => none
theorem fst_list (l : List Th) : (l.map Th.d).filterMap fstF = nats (l.map (·.1)) := by
  induction l with
  | nil => rfl
  | cons t l ih =>
    rw [List.map_cons, List.filterMap_cons]
    have e : fstF t.d = some (.int (t.1 : Nat)) := rfl
    rw [e]
    show D.int (t.1 : Nat) :: _ = _
    rw [ih]
    rfl
theorem r_rooms_held {w : List Stp} {k : Nat} (hn : Nest w) (hk : k ≤ w.length) (hw : w.length ≤ 1000) : Ok (d_rooms_held [wayD w, .int (k : Nat)] S) fun r S' => Kp [] S S' ∧ ∃ c, r = .cell c ∧ S.length ≤ c ∧ S'[c]? = some (.lst (nats (roomsH w k))) := by
  have hl := heldT_len w k
  simp [d_rooms_held, b_rooms_held, startD]
  refine ok_lcAT (xs := (heldT w k).map Th.d) fstF ?_ (by rw [List.length_map, lim_eq]; omega) ?_ ?_
  · simp
    refine Ok.imp (r_held hn hk hw) ?_
    rintro _ S1 ⟨rfl, k1⟩
    exact ⟨rfl, k1⟩
  · intro x hx S' kp
    obtain ⟨t, ht, rfl⟩ := List.mem_map.mp hx
    simp only [Th.d, set_tp, setAll_cons, set_nm, setAll_nil, Option.bind_some]
    refine ⟨_, rfl, ?_⟩
    simp [wipeD, fstF, Kp.refl]
  · intro S' c kp hl hc
    rw [fst_list] at hc
    exact ⟨kp, c, rfl, hl, hc⟩
end
end Dn
set_option Elab.async false
set_option linter.all false
set_option maxRecDepth 100000
set_option maxHeartbeats 2000000
/-! Ac_k92: which room is entered where which is held. -/
noncomputable section
namespace Dn
open PySem L2
structure HOk (R : Nat) (rs : List D) (ws : List (List Stp)) : Prop where
  rl : rs.length = R
  r1 : 1 ≤ R
  r6 : R ≤ 6
  w1 : 1 ≤ ws.length
  w5 : ws.length ≤ 5
  rd : ∀ K S, ∀ x ∈ rs, Rd K 4 600 S x
  nest : ∀ w ∈ ws, Nest w
  inr : ∀ w ∈ ws, ∀ b t, Stp.inn b t ∈ w → t.1 < R
  outr : ∀ w ∈ ws, ∀ r, Stp.out r ∈ w → r < R
  len : ∀ w ∈ ws, w.length ≤ 24
  self : ∀ w ∈ ws, ∀ (k : Nat) (b : Bool) (t : Th), w[k]? = some (.inn b t) → t.1 ∉ (heldT w k).map (·.1)
section
variable {S S' : Sto} {K : List Nat}
def insAt (w : List Stp) (k : Nat) : Option Nat := match w[k]? with
  | some (.inn false t) => some t.1
  | _ => none
def entB (w : List Stp) (k one other : Nat) : Bool := decide (insAt w k = some other) && decide (one ∈ roomsH w k)
def entW (w : List Stp) (one other : Nat) : Bool := ((List.range w.length).filter (isIn w)).any fun k => entB w k one other
def E (ws : List (List Stp)) (one other : Nat) : Bool := ws.any fun w => entW w one other
theorem inD_nats {k : Nat} {l : List Nat} : inD (.int (k : Nat)) (nats l) = decide (k ∈ l) := by
  unfold inD
  induction l with
  | nil => rfl
  | cons a l ih =>
    show (D.int (a : Nat) :: nats l).any _ = _
    rw [List.any_cons, ih]
    have e : eqF (.int (a : Nat)) (.int (k : Nat)) = decide (k = a) := by
      show decide ((a : Int) = (k : Int)) = _
      exact decide_eq_decide.mpr ⟨fun h => by omega, fun h => by omega⟩
    rw [e]
    by_cases h : k = a
    · simp [h]
    · simp [h]
theorem nats_flat (l : List Nat) : (nats l).all flatD = true := by
  rw [List.all_map]
  exact List.all_eq_true.mpr fun _ _ => rfl
theorem p_inN {neg : Bool} {c k : Nat} {l : List Nat} (h : S[c]? = some (.lst (nats l))) : opIn neg (.int (k : Nat)) (.cell c) S = .ok (.bl (if neg then !decide (k ∈ l) else decide (k ∈ l))) S := by
  unfold opIn
  have e : items S (.cell c) = some (nats l) := by simp only [items, h]
  rw [e]
  have f : (flatD (.int (k : Nat)) && (nats l).all flatD) = true := by rw [nats_flat]; rfl
  simp only [f, if_true, inD_nats]
theorem p_inNT {neg : Bool} {k : Nat} {l : List Nat} : opIn neg (.int (k : Nat)) (.tup (nats l)) S = .ok (.bl (if neg then !decide (k ∈ l) else decide (k ∈ l))) S := by
  unfold opIn
  have f : (flatD (.int (k : Nat)) && (nats l).all flatD) = true := by rw [nats_flat]; rfl
  show (if _ = true then _ else _) = _
  simp only [f, if_true, inD_nats]
theorem any_take {α : Type} {l : List α} {p : α → Bool} {i : Nat} {a : α} (h0 : (l.take i).any p = false) (ha : l[i]? = some a) : (l.take (i + 1)).any p = p a := by
  rw [List.take_succ, ha, List.any_append, h0]
  simp
theorem any_hit {α : Type} {l : List α} {p : α → Bool} {i : Nat} {a : α} (ha : l[i]? = some a) (h : p a = true) : l.any p = true := List.any_eq_true.mpr ⟨a, List.mem_of_getElem? ha, h⟩
theorem r_is_entered {R one other : Nat} {rs : List D} {ws : List (List Stp)} (H : HOk R rs ws) : Ok (d_is_entered [houseD rs ws, .int (one : Nat), .int (other : Nat)] S) fun r S' => r = .bl (E ws one other) ∧ Kp [] S S' := by
  have ixh : ∀ (S : Sto), opIx (houseD rs ws) (.int 1) S = .ok (.tup (ws.map wayD)) S := fun S => rfl
  simp [d_is_entered, b_is_entered, startD]
  refine ok_forT (xs := ws.map wayD) (fun i δ S' => Kp [] S S' ∧ (∃ v3 v4, δ = [some (houseD rs ws), some (.int (one : Nat)), some (.int (other : Nat)), v3, v4]) ∧ (ws.take i).any (fun w => entW w one other) = false) ?_ ?_ ?_
  · simp [ixh, Kp.refl]
  · rintro i δ S1 x hx ⟨k1, ⟨v3, v4, rfl⟩, h0⟩
    obtain ⟨w, hw, rfl⟩ := map_get hx
    have hwm := List.mem_of_getElem? hw
    have hlen := H.len w hwm
    refine ⟨_, set_nm, ?_⟩
    simp
    obtain ⟨r, S2, e, k2, c, rfl, hcl, hc⟩ := (r_places_in (S := S1) (w := w) (by omega)).ex
    refine ok_forAL (xs := nats ((List.range w.length).filter (isIn w))) (c := c) (fun j δ S' => Kp [] S S' ∧ (∃ v4, δ = [some (houseD rs ws), some (.int (one : Nat)), some (.int (other : Nat)), some (wayD w), v4]) ∧ S'[c]? = some (.lst (nats ((List.range w.length).filter (isIn w)))) ∧ (((List.range w.length).filter (isIn w)).take j).any (fun k => entB w k one other) = false) ?_ ?_ ?_ ?_
    · simp [e]
      exact ⟨k1.trans k2, hc⟩
    · rintro j δ S' ⟨_, _, h, _⟩
      exact h
    · rintro j δ S3 x hx ⟨k3, ⟨v4, rfl⟩, hc3, h1⟩
      obtain ⟨k, hk, rfl⟩ := nats_get hx
      obtain ⟨hk1, hk2⟩ := List.mem_filter.mp (List.mem_of_getElem? hk)
      have hkl := List.mem_range.mp hk1
      obtain ⟨s, hs⟩ : ∃ s, w[k]? = some s := ⟨_, List.getElem?_eq_getElem hkl⟩
      refine ⟨_, set_nm, ?_⟩
      have ew : ∀ S, d_wish [wayD w, .int (k : Nat)] S = .ok ((wishT s).elim .non Th.d) S := fun S => r_wish hs
      have hst : ∃ t, s = .inn false t := by
        unfold isIn at hk2
        rw [hs] at hk2
        cases s with
        | out r => cases hk2
        | inn b t => cases b with
          | true => cases hk2
          | false => exact ⟨t, rfl⟩
      obtain ⟨t, rfl⟩ := hst
      have hins : insAt w k = some t.1 := by unfold insAt; rw [hs]
      have ex : ∀ S, opIx (Th.d t) (.int 0) S = .ok (.int (t.1 : Nat)) S := fun S => rfl
      have eT := any_take h1 hk
      have eb : entB w k one other = (decide (t.1 = other) && decide (one ∈ roomsH w k)) := by
        unfold entB
        rw [hins]
        congr 1
        exact decide_eq_decide.mpr ⟨fun h => Option.some.inj h, fun h => by rw [h]⟩
      simp [ew, wishT, ex]
      by_cases ho : t.1 = other
      · have ho2 : (t.1 : Int) = (other : Int) := by omega
        refine Or.inr ⟨ho2, ?_⟩
        refine Ok.imp (r_rooms_held (H.nest w hwm) (by omega) (by omega)) ?_
        rintro _ S4 ⟨k4, c4, rfl, hcl4, hc4⟩
        rw [p_inN hc4, Ok_ok]
        have k34 := k3.trans k4
        by_cases hm : one ∈ roomsH w k
        · have hE : E ws one other = true := by
            refine any_hit hw ?_
            refine any_hit hk ?_
            rw [eb, decide_eq_true ho, decide_eq_true hm]
            rfl
          simp [hm, hE, k34]
        · have hb : entB w k one other = false := by rw [eb, decide_eq_false hm, Bool.and_false]
          rw [hb] at eT
          simp [hm, k34]
          exact ⟨k4.get _ _ (by simp) hc3, by simpa using eT⟩
      · have ho2 : ¬ (t.1 : Int) = (other : Int) := by omega
        have hb : entB w k one other = false := by rw [eb, decide_eq_false ho, Bool.false_and]
        rw [hb] at eT
        simp [ho2, k3, hc3]
        simpa using eT
    · rintro δ S3 ⟨k3, ⟨v4, rfl⟩, hc3, h1⟩
      have hl : (nats ((List.range w.length).filter (isIn w))).length = ((List.range w.length).filter (isIn w)).length := List.length_map ..
      rw [hl, List.take_length] at h1
      have eT := any_take (p := fun w => entW w one other) h0 hw
      have hf : entW w one other = false := h1
      rw [hf] at eT
      exact ⟨k3, ⟨_, _, rfl⟩, by simpa using eT⟩
  · rintro δ S1 ⟨k1, ⟨v3, v4, rfl⟩, h0⟩
    have hl : (ws.map wayD).length = ws.length := List.length_map ..
    rw [hl, List.take_length] at h0
    simp [k1]
    show E ws one other = false
    exact h0
end
end Dn
set_option Elab.async false
set_option linter.all false
set_option maxRecDepth 100000
set_option maxHeartbeats 2000000
/-! Ad_k92: the rooms ahead of each room. -/
noncomputable section
namespace Dn
open PySem L2
section
variable {S S' : Sto} {K : List Nat}
theorem ok_lcAR {n : Nat} {a : DE} {δ : En} {P : D → Sto → Prop} {g : Tg} {t : DT} {elt : DE} {own : List Nat} (F : D → Option D) (hn : n ≤ 100000) (hs : Ok (a δ S) fun d S1 => d = .rng 0 (n : Nat) ∧ Kp [] S S1)
    (step : ∀ i, i < n → ∀ S', Kp [] S S' → ∃ δ', g.set (.int (i : Nat)) (wipeD δ own) = some δ' ∧ Ok (t δ' S') fun b S2 => Kp [] S' S2 ∧ if b = true then Ok (elt δ' S2) fun y S3 => Kp [] S' S3 ∧ F (.int (i : Nat)) = some y else F (.int (i : Nat)) = none)
    (done : ∀ S' c, Kp [] S S' → S.length ≤ c → S'[c]? = some (.lst ((nats (List.range n)).filterMap F)) → P (.cell c) S') : Ok (dLc (srcA a) g t elt own δ S) P := by
  refine ok_lcP (s0 := .rng 0 (n : Nat)) (xs := nats (List.range n)) F ?_ (fun S' k => ?_) (fun S' i k hi => ?_) ?_ (fun x hx S' k => ?_) done
  · rw [o_srcA]
    refine Ok.imp hs fun d S1 ⟨e, h⟩ => ?_
    subst e
    exact .inl ⟨_, _, rfl, inRng_of (by omega) (by omega), inRng_of (by omega) (by omega), rfl, h⟩
  · simp [Src.len]
  · simp at hi
    simp [Src.item, hi]
  · simpa [lim_eq] using hn
  · obtain ⟨i, hi, rfl⟩ := List.mem_map.mp hx
    exact step i (List.mem_range.mp hi) S' k
def pre (ws : List (List Stp)) (R r : Nat) : List Nat := (List.range R).filter fun a => E ws a r
structure AhAt (K : List Nat) (S : Sto) (c R : Nat) (ws : List (List Stp)) : Prop where
  cn : c ∉ K
  ex : ∃ cs : List Nat, S[c]? = some (.lst (cs.map D.cell)) ∧ cs.length = R ∧ ∀ j cj, cs[j]? = some cj → cj ∉ K ∧ S[cj]? = some (.lst (nats (pre ws R j)))
theorem AhAt.mono {c R : Nat} {ws : List (List Stp)} (h : AhAt K S c R ws) (k : Kp K S S') : AhAt K S' c R ws := by
  obtain ⟨cs, h1, h2, h3⟩ := h.ex
  exact ⟨h.cn, cs, k.get _ _ h.cn h1, h2, fun j cj hj => ⟨(h3 j cj hj).1, k.get _ _ (h3 j cj hj).1 (h3 j cj hj).2⟩⟩
theorem AhAt.nil {c R : Nat} {ws : List (List Stp)} (h : AhAt K S c R ws) : AhAt [] S c R ws := by
  obtain ⟨cs, h1, h2, h3⟩ := h.ex
  exact ⟨by simp, cs, h1, h2, fun j cj hj => ⟨by simp, (h3 j cj hj).2⟩⟩
theorem AhAt.lenE {c R : Nat} {ws : List (List Stp)} (h : AhAt K S c R ws) : bLen [.cell c] S = .ok (.int (R : Nat)) S := by
  obtain ⟨cs, h1, h2, h3⟩ := h.ex
  rw [b_lenL h1, List.length_map, h2]
theorem AhAt.row {c R j : Nat} {ws : List (List Stp)} (h : AhAt K S c R ws) (hj : j < R) : ∃ cj, opIx (.cell c) (.int (j : Nat)) S = .ok (.cell cj) S ∧ cj ∉ K ∧ S[cj]? = some (.lst (nats (pre ws R j))) := by
  obtain ⟨cs, h1, h2, h3⟩ := h.ex
  have hj2 : cs[j]? = some (cs[j]'(by omega)) := List.getElem?_eq_getElem (by omega)
  refine ⟨cs[j]'(by omega), p_ixL h1 (by simp [hj2]), (h3 j _ hj2).1, (h3 j _ hj2).2⟩
theorem r_rooms_ahead {R : Nat} {rs : List D} {ws : List (List Stp)} (H : HOk R rs ws) : Ok (d_rooms_ahead [houseD rs ws] S) fun r S' => Kp [] S S' ∧ ∃ c, r = .cell c ∧ S.length ≤ c ∧ AhAt (List.range S.length) S' c R ws := by
  have r6 := H.r6
  have ixh : ∀ (S : Sto), opIx (houseD rs ws) (.int 0) S = .ok (.tup rs) S := fun S => rfl
  simp only [d_rooms_ahead, b_rooms_ahead, startD, o_fn]
  refine ⟨rfl, ?_⟩
  rw [o_seq, o_set]
  simp [ixh, H.rl]
  refine ok_lc (s0 := .rng 0 (R : Nat)) (N := R) (c := S.length) (item := fun i => .int (i : Nat)) (fun i S' acc => Kp [] S S' ∧ S'[S.length]? = some (.lst acc) ∧ acc.length = i ∧ ∃ cs : List Nat, acc = cs.map D.cell ∧ ∀ j cj, cs[j]? = some cj → S.length < cj ∧ S'[cj]? = some (.lst (nats (pre ws R j)))) ?_ ?_ ?_ ?_ ?_
  · simp
    exact ⟨_, _, ⟨rfl, rfl⟩, inRng_of (by omega) (by omega), inRng_of (by omega) (by omega), ⟨rfl, rfl⟩, Kp.app _ _ _⟩
  · intro i S' acc h
    simp [Src.len]
  · intro i S' acc hi h
    simp [Src.item, hi]
  · rintro i S1 acc hi ⟨k1, hc, hal, cs, rfl, hcs⟩
    refine ⟨_, set_nm, ?_⟩
    simp [wipeD]
    refine ok_lcAR (n := R) (intF fun a => E ws a i) (by omega) ?_ ?_ ?_
    · simp [Kp.refl]
    · intro a ha S2 k2
      refine ⟨_, set_nm, ?_⟩
      simp [wipeD, intF_n]
      refine Ok.imp (r_is_entered H) ?_
      rintro _ S3 ⟨rfl, k3⟩
      cases E ws a i <;> simp [k3]
    · intro S2 c2 k2 hl2 hc2
      rw [intF_list] at hc2
      have hg := k2.get _ _ (by simp) hc
      have le1 := k1.le
      have hlt : S.length < S1.length := lt_of_get hc
      refine ⟨hg, by rw [List.length_map] at hal; rw [lim_eq]; omega, (k1.trans k2).set (.inl (Nat.le_refl _)) _, get_set hg, by simp at hal ⊢; omega, cs ++ [c2], by simp, fun j cj hj => ?_⟩
      by_cases hjl : j < cs.length
      · rw [List.getElem?_append_left hjl] at hj
        obtain ⟨h1, h2⟩ := hcs j cj hj
        refine ⟨h1, ?_⟩
        rw [List.getElem?_set_ne (by omega)]
        exact k2.get _ _ (by simp) h2
      · have hl3 : cs.length = i := by rw [List.length_map] at hal; exact hal
        have hj2 : j = cs.length := by
          have := (List.getElem?_eq_some_iff.mp hj).1
          rw [List.length_append] at this
          simp at this
          omega
        subst hj2
        rw [List.getElem?_append_right (Nat.le_refl _)] at hj
        simp at hj
        subst hj
        refine ⟨by omega, ?_⟩
        rw [List.getElem?_set_ne (by omega), hl3]
        exact hc2
  · rintro S1 acc ⟨k1, hc, hal, cs, rfl, hcs⟩
    refine ⟨k1, _, rfl, Nat.le_refl _, by simp, cs, hc, by rw [List.length_map] at hal; exact hal, fun j cj hj => ⟨?_, (hcs j cj hj).2⟩⟩
    have := (hcs j cj hj).1
    rw [List.mem_range]
    omega
end
end Dn
set_option Elab.async false
set_option linter.all false
set_option maxRecDepth 100000
set_option maxHeartbeats 2000000
/-! Ae_k92: numbers, in plain lists. -/
noncomputable section
namespace Dn
open PySem L2
abbrev Fnd := List (Option Nat)
def asg (f : Fnd) (r : Nat) : Option Nat := (f[r]?).getD none
def cntF (f : Fnd) : Nat := f.countP Option.isSome
/-- some set of rooms each of which has a room ahead within it -/
def HasStuck (P : Nat → List Nat) (R : Nat) : Prop := ∃ L : Nat → Prop, (∃ r, L r) ∧ ∀ r, L r → r < R ∧ ∃ a ∈ P r, L a
structure NInv (P : Nat → List Nat) (R : Nat) (f : Fnd) : Prop where
  len : f.length = R
  ok : ∀ r v, asg f r = some v → ∀ a ∈ P r, ∃ u, asg f a = some u ∧ u < v
  bd : ∀ r v, asg f r = some v → v < cntF f
  mx : ∀ r v, asg f r = some v → (P r = [] ∧ v = 0) ∨ ∃ a ∈ P r, ∃ u, asg f a = some u ∧ u + 1 = v
  stk : ∀ L : Nat → Prop, (∀ r, L r → r < R ∧ ∃ a ∈ P r, L a) → ∀ r, L r → asg f r = none
def StuckF (P : Nat → List Nat) (R : Nat) (f : Fnd) : Prop := ∀ r, r < R → asg f r = none → ∃ a ∈ P r, asg f a = none
theorem asg_set {f : Fnd} {r k v : Nat} (hr : r < f.length) : asg (f.set r (some v)) k = if k = r then some v else asg f k := by
  unfold asg
  by_cases h : k = r
  · rw [if_pos h, h, List.getElem?_set_self hr]
    rfl
  · rw [if_neg h, List.getElem?_set_ne (Ne.symm h)]
theorem cnt_set : ∀ {f : Fnd} {r v : Nat}, r < f.length → asg f r = none → cntF (f.set r (some v)) = cntF f + 1
  | [], r, v, h, _ => by cases h
  | o :: f, 0, v, h, ha => by
    have e : o = none := by
      unfold asg at ha
      simpa using ha
    subst e
    simp [cntF]
  | o :: f, r + 1, v, h, ha => by
    have ih := cnt_set (f := f) (r := r) (v := v) (by simpa using h) (by unfold asg at ha ⊢; simpa using ha)
    unfold cntF at ih ⊢
    rw [List.set_cons_succ, List.countP_cons, List.countP_cons, ih]
    omega
theorem NInv.step {P : Nat → List Nat} {R r v : Nat} {f : Fnd} (h : NInv P R f) (hr : r < R) (hn : asg f r = none) (hp : ∀ a ∈ P r, asg f a ≠ none) (hv : ∀ a ∈ P r, ∀ u, asg f a = some u → u < v) (hb : v ≤ cntF f) (hm : (P r = [] ∧ v = 0) ∨ ∃ a ∈ P r, ∃ u, asg f a = some u ∧ u + 1 = v) : NInv P R (f.set r (some v)) := by
  have hl : r < f.length := by rw [h.len]; exact hr
  have hc := cnt_set (v := v) hl hn
  have get : ∀ a, asg f a ≠ none → ∃ u, asg f a = some u := fun a ha => by
    cases q : asg f a with
    | none => exact absurd q ha
    | some u => exact ⟨u, rfl⟩
  refine ⟨by rw [List.length_set]; exact h.len, fun k w hk a ha => ?_, fun k w hk => ?_, fun k w hk => ?_, fun L hL k hk => ?_⟩
  · rw [asg_set hl] at hk
    by_cases hkr : k = r
    · rw [if_pos hkr] at hk
      cases hk
      subst hkr
      obtain ⟨u, hu⟩ := get a (hp a ha)
      refine ⟨u, ?_, hv a ha u hu⟩
      rw [asg_set hl, if_neg (fun z => by rw [z, hn] at hu; cases hu)]
      exact hu
    · rw [if_neg hkr] at hk
      obtain ⟨u, hu, hlt⟩ := h.ok k w hk a ha
      refine ⟨u, ?_, hlt⟩
      rw [asg_set hl, if_neg (fun z => by rw [z, hn] at hu; cases hu)]
      exact hu
  · rw [asg_set hl] at hk
    rw [hc]
    by_cases hkr : k = r
    · rw [if_pos hkr] at hk
      cases hk
      omega
    · rw [if_neg hkr] at hk
      have := h.bd k w hk
      omega
  · rw [asg_set hl] at hk
    have lift : ∀ a u, asg f a = some u → asg (f.set r (some v)) a = some u := fun a u hu => by
      rw [asg_set hl, if_neg (fun z => by rw [z, hn] at hu; cases hu)]
      exact hu
    by_cases hkr : k = r
    · rw [if_pos hkr] at hk
      cases hk
      subst hkr
      rcases hm with hm | ⟨a, ha, u, hu, e⟩
      · exact .inl hm
      · exact .inr ⟨a, ha, u, lift a u hu, e⟩
    · rw [if_neg hkr] at hk
      rcases h.mx k w hk with hm | ⟨a, ha, u, hu, e⟩
      · exact .inl hm
      · exact .inr ⟨a, ha, u, lift a u hu, e⟩
  · rw [asg_set hl]
    by_cases hkr : k = r
    · subst hkr
      obtain ⟨_, a, ha, hLa⟩ := hL k hk
      exact absurd (h.stk L hL a hLa) (hp a ha)
    · rw [if_neg hkr]
      exact h.stk L hL k hk
theorem NInv.init {P : Nat → List Nat} {R : Nat} : NInv P R (List.replicate R none) := by
  have e : ∀ r, asg (List.replicate R none) r = none := fun r => by
    unfold asg
    rw [List.getElem?_replicate]
    split <;> rfl
  exact ⟨List.length_replicate .., (fun r v h => by rw [e r] at h; cases h), (fun r v h => by rw [e r] at h; cases h), (fun r v h => by rw [e r] at h; cases h), (fun L hL r _ => e r)⟩
theorem cnt_le (f : Fnd) : cntF f ≤ f.length := List.countP_le_length
theorem cnt_full {f : Fnd} (h : f.length ≤ cntF f) : ∀ r, r < f.length → asg f r ≠ none := by
  have e : cntF f = f.length := Nat.le_antisymm (cnt_le f) h
  have all := List.countP_eq_length.mp e
  intro r hr
  unfold asg
  rw [List.getElem?_eq_getElem hr]
  have := all f[r] (List.getElem_mem hr)
  intro z
  rw [show f[r] = none from z] at this
  cases this
/-- the end of the turns -/
theorem NInv.stuck_end {P : Nat → List Nat} {R : Nat} {f : Fnd} (h : NInv P R f) (hs : StuckF P R f ∨ R ≤ cntF f) : StuckF P R f := by
  rcases hs with hs | hs
  · exact hs
  · intro r hr hn
    exact absurd hn (cnt_full (by rw [h.len]; exact hs) r (by rw [h.len]; exact hr))
theorem NInv.has {P : Nat → List Nat} {R : Nat} {f : Fnd} (h : NInv P R f) (hP : ∀ r, ∀ a ∈ P r, a < R) (hs : StuckF P R f) : HasStuck P R ↔ ∃ r, r < R ∧ asg f r = none := by
  constructor
  · rintro ⟨L, ⟨r, hr⟩, hL⟩
    exact ⟨r, (hL r hr).1, h.stk L hL r hr⟩
  · rintro ⟨r, hr, hn⟩
    refine ⟨fun r => r < R ∧ asg f r = none, ⟨r, hr, hn⟩, fun k hk => ⟨hk.1, ?_⟩⟩
    obtain ⟨a, ha, hna⟩ := hs k hk.1 hk.2
    exact ⟨a, ha, hP k a ha, hna⟩
end Dn
set_option Elab.async false
set_option linter.all false
set_option maxRecDepth 100000
set_option maxHeartbeats 2000000
/-! Af_k92: one look at one room, in numbers. -/
noncomputable section
namespace Dn
open PySem L2
section
variable {S S' : Sto} {K : List Nat} {δ : En} {Q : Po} {P : D → Sto → Prop} {o i v a : DE}
def putI (x y d : D) (S : Sto) : Option Sto := match y with
  | .int j => putAt x (.int j) d S
  | y => dikPut x y d S
@[simp] theorem o_iput : OkS (dIPut o i v δ S) Q = Ok (v δ S) fun d S1 => Ok (o δ S1) fun x S2 => Ok (i δ S2) fun y S3 => ∃ S4, putI x y d S3 = some S4 ∧ Q.nx δ S4 := by
  unfold dIPut
  rw [OkS_then]
  congr
  funext d S1
  rw [OkS_then]
  congr
  funext x S2
  rw [OkS_then]
  congr
  funext y S3
  unfold putI
  cases y with
  | int j => cases h : putAt x (.int j) d S3 <;> simp [h]
  | _ => dsimp only; cases h : dikPut x _ d S3 <;> simp
theorem putLI {c j : Nat} {xs : List D} {d : D} (h : S[c]? = some (.lst xs)) (hj : j < xs.length) : putI (.cell c) (.int (j : Nat)) d S = some (S.set c (.lst (xs.set j d))) := by
  have e0 : putI (.cell c) (.int (j : Nat)) d S = putAt (.cell c) (.int (j : Nat)) d S := rfl
  rw [e0]
  unfold putAt
  have e : ixN xs.length (j : Int) = some j := by
    unfold ixN
    rw [if_pos (by omega), if_pos (by omega)]
    simp
  simp only [h, e]
theorem ok_listRg {n : Nat} (hn : n ≤ 100000) (h : Ok (a δ S) fun d S1 => d = .int (n : Nat) ∧ P (.cell S1.length) (S1 ++ [.lst (nats (List.range n))])) : Ok (dListRg a δ S) P := by
  unfold dListRg
  rw [Ok_bnd]
  refine Ok.imp h ?_
  rintro _ S1 ⟨rfl, h⟩
  have e : decide (0 ≤ ((n : Nat) : Int) ∧ ((n : Nat) : Int) ≤ 100000) = true := decide_eq_true ⟨by omega, by omega⟩
  simp only [e, if_true, Int.toNat_natCast]
  exact h
theorem p_mulL {c n : Nat} {xs : List D} (h : S[c]? = some (.lst xs)) (hl : xs.length ≤ 100) (hn : n ≤ 1000) : opMul (.cell c) (.int (n : Nat)) S = mkLst (List.replicate n xs).flatten S := by
  unfold opMul
  have e : decide (0 ≤ ((n : Nat) : Int) ∧ ((n : Nat) : Int) ≤ 1000 ∧ xs.length ≤ 100) = true := decide_eq_true ⟨by omega, by omega, hl⟩
  simp only [h, e, if_true, Int.toNat_natCast]
theorem rep_one {α : Type} (x : α) : ∀ n, (List.replicate n [x]).flatten = List.replicate n x
  | 0 => rfl
  | n + 1 => by rw [List.replicate_succ, List.flatten_cons, rep_one x n]; rfl
theorem rdi {k w : Nat} {i : Int} (h : i.natAbs < 2 ^ 11) (hw : 11 ≤ w) : Rd K k w S (.int i) := rd_int (b := 10) h (by decide) (by omega)
theorem rd_nats {l : List Nat} (h : ∀ x ∈ l, x < 100) : ∀ x ∈ nats l, Rd K 0 11 S x := fun x hx => by
  obtain ⟨i, hi, rfl⟩ := List.mem_map.mp hx
  have := h i hi
  exact rdi (by omega) (Nat.le_refl _)
theorem AhAt.fr {c R F : Nat} {ws : List (List Stp)} (h : AhAt K S c R ws) (hF : S.length ≤ F) (k : Kp [] S S') : AhAt [F] S' c R ws := by
  obtain ⟨cs, h1, h2, h3⟩ := h.ex
  have hc := lt_of_get h1
  refine ⟨by simp; omega, cs, k.get _ _ (by simp) h1, h2, fun j cj hj => ?_⟩
  have hcj := lt_of_get (h3 j cj hj).2
  exact ⟨by simp; omega, k.get _ _ (by simp) (h3 j cj hj).2⟩
theorem pre_lt {ws : List (List Stp)} {R r x : Nat} (h : x ∈ pre ws R r) : x < R := List.mem_range.mp (List.mem_filter.mp h).1
def natD : Option Nat → D
  | none => .non
  | some v => .int (v : Nat)
theorem fnd_get {f : Fnd} {r : Nat} (h : r < f.length) : (f.map natD)[r]? = some (natD (asg f r)) := by
  unfold asg
  rw [List.getElem?_map, List.getElem?_eq_getElem h]
  rfl
def isNo (f : Fnd) (a : Nat) : Bool := (asg f a).isNone
def valN (f : Fnd) (a : Nat) : Nat := (asg f a).getD 0
def valF (f : Fnd) : D → Option D
  | .int i => some (natD (asg f i.toNat))
  | _ => none
theorem valF_list {f : Fnd} : ∀ {l : List Nat}, (∀ a ∈ l, asg f a ≠ none) → (nats l).filterMap (valF f) = (l.map fun a => ((valN f a : Nat) : Int)).map D.int
  | [], _ => rfl
  | a :: l, h => by
    show (D.int (a : Nat) :: nats l).filterMap _ = _
    rw [List.filterMap_cons]
    have ih := valF_list (f := f) (l := l) fun b hb => h b (List.mem_cons_of_mem _ hb)
    have e : valF f (.int (a : Nat)) = some (.int ((valN f a : Nat) : Int)) := by
      have := h a List.mem_cons_self
      show some (natD (asg f (Int.toNat (a : Int)))) = _
      rw [Int.toNat_natCast]
      unfold valN
      cases q : asg f a with
      | none => exact absurd q this
      | some u => rfl
    rw [e]
    show _ :: _ = _
    rw [ih]
    rfl
def bN : DS := (dIfS (dAnd (dB (dBin (opIsN false) (dBin opIx (dVar 2) (dVar 4)) (dC .non))) (dB (dBin opEq (dLc (srcA (dVar 5)) (.nm 6) (dB (dBin (opIsN false) (dBin opIx (dVar 2) (dVar 6)) (dC .non))) (dVar 6) [6]) (dLst dNil)))) (dIPut (dVar 2) (dVar 4) (dIf (dB (dBin opNe (dVar 5) (dLst dNil))) (dBin opAdd (dC (.int 1)) (dCall bMax (dCons (dLc (srcA (dVar 5)) (.nm 6) dYes (dBin opIx (dVar 2) (dVar 6)) [6]) dNil))) (dC (.int 0)))) dSkip)
def NStep (P : Nat → List Nat) (R : Nat) (f : Fnd) (r : Nat) (f' : Fnd) : Prop := (f' = f ∧ (asg f r = none → ∃ a ∈ P r, asg f a = none)) ∨ (cntF f' = cntF f + 1 ∧ ∃ v, asg f r = none ∧ (∀ a ∈ P r, asg f a ≠ none) ∧ f' = f.set r (some v))
theorem t_bN {R r c F cj : Nat} {ws : List (List Stp)} {f : Fnd} {h0 v3 v6 : Option D} (hr : r < R) (hR : R ≤ 6) (hcj : cj ≠ F) (hrow : S[cj]? = some (.lst (nats (pre ws R r)))) (hF : S[F]? = some (.lst (f.map natD))) (N : NInv (pre ws R) R f)
    (e : δ = [h0, some (.cell c), some (.cell F), v3, some (.int (r : Nat)), some (.cell cj), v6])
    (hQ : ∀ S' f', Kp [F] S S' → S'[F]? = some (.lst (f'.map natD)) → NInv (pre ws R) R f' → NStep (pre ws R) R f r f' → Q.nx δ S') : OkS (bN δ S) Q := by
  subst e
  have hl : r < f.length := by rw [N.len]; exact hr
  have ex := p_ixL hF (fnd_get hl)
  unfold bN
  rw [o_ifS, o_and, o_B, o_bin, o_bin]
  simp only [o_var, List.getElem?_cons_succ, List.getElem?_cons_zero]
  refine ⟨_, rfl, _, rfl, ?_⟩
  rw [ex, Ok_ok, o_c, p_isN, Ok_ok]
  refine ⟨_, rfl, ?_⟩
  have pl : (pre ws R r).length ≤ R := by
    have := List.length_filter_le (fun a => E ws a r) (List.range R)
    rw [List.length_range] at this
    exact this
  cases q : asg f r with
  | some u =>
    have e1 : isNon (natD (some u)) = false := rfl
    rw [e1]
    simp only [Bool.false_eq_true, if_false, o_skip]
    exact hQ S f (Kp.refl _ _) hF N (.inl ⟨rfl, fun h => by rw [q] at h; cases h⟩)
  | none =>
    have e1 : isNon (natD none) = true := rfl
    rw [e1, if_pos rfl, o_B, o_bin]
    refine ok_lcAL (xs := nats (pre ws R r)) (c0 := cj) (intF (isNo f)) ?_ hrow (by rw [List.length_map, lim_eq]; omega) ?_ ?_
    · simp [Kp.refl]
    · intro x hx S1 k1
      obtain ⟨a, ha, rfl⟩ := List.mem_map.mp hx
      refine ⟨_, set_nm, ?_⟩
      have ha2 : a < f.length := by rw [N.len]; exact pre_lt ha
      have ex := p_ixL (k1.get _ _ (by simp) hF) (fnd_get ha2)
      simp [wipeD, ex, intF_n, isNo]
      cases asg f a <;> simp [natD, Kp.refl]
    · intro S1 c1 k1 hl1 hc1
      rw [intF_list] at hc1
      rw [o_lst, o_nil]
      refine ⟨by simp, ?_⟩
      have hmem : ∀ x ∈ (pre ws R r).filter (isNo f), x < 100 := fun x hx => by
        have := pre_lt (List.mem_filter.mp hx).1
        omega
      have hc1' := (Kp.app [] S1 [.lst []]).get _ _ (by simp) hc1
      rw [p_eqNil hc1' (rd_nats hmem) (by decide) (get_push _ _), Ok_ok]
      refine ⟨_, rfl, ?_⟩
      have k1' : Kp [] S (S1 ++ [.lst []]) := k1.push _
      by_cases hs : ∃ a ∈ pre ws R r, asg f a = none
      · obtain ⟨a, ha, hn⟩ := hs
        have e2 : (nats ((pre ws R r).filter (isNo f))).isEmpty = false := by
          have : a ∈ (pre ws R r).filter (isNo f) := List.mem_filter.mpr ⟨ha, by simp [isNo, hn]⟩
          cases hh : (pre ws R r).filter (isNo f) with
          | nil => rw [hh] at this; cases this
          | cons _ _ => rfl
        rw [e2]
        simp only [Bool.false_eq_true, if_false, o_skip]
        exact hQ _ f k1'.of (k1'.get _ _ (by simp) hF) N (.inl ⟨rfl, fun _ => ⟨a, ha, hn⟩⟩)
      · have hp : ∀ a ∈ pre ws R r, asg f a ≠ none := fun a ha hn => hs ⟨a, ha, hn⟩
        have e2 : (nats ((pre ws R r).filter (isNo f))).isEmpty = true := by
          have : (pre ws R r).filter (isNo f) = [] := List.filter_eq_nil_iff.mpr fun a ha => by
            have := hp a ha
            unfold isNo
            cases q2 : asg f a with
            | none => exact absurd q2 this
            | some _ => simp
          rw [this]
          rfl
        rw [e2, if_pos rfl, o_iput, o_if, o_B, o_bin]
        simp only [o_var, List.getElem?_cons_succ, List.getElem?_cons_zero]
        refine ⟨_, rfl, ?_⟩
        rw [o_lst, o_nil]
        refine ⟨by simp, ?_⟩
        obtain ⟨S2, hS2⟩ : ∃ S2, S2 = S1 ++ [C.lst []] := ⟨_, rfl⟩
        rw [← hS2] at k1' ⊢
        have k2 : Kp [] S (S2 ++ [.lst []]) := k1'.push _
        have hrow2 := k2.get _ _ (by simp) hrow
        have hF2 := k2.get _ _ (by simp) hF
        rw [p_neNil hrow2 (rd_nats fun x hx => by have := pre_lt hx; omega) (by decide) (get_push _ _), Ok_ok]
        refine ⟨_, rfl, ?_⟩
        obtain ⟨S3, hS3⟩ : ∃ S3, S3 = S2 ++ [C.lst []] := ⟨_, rfl⟩
        rw [← hS3] at k2 hrow2 hF2 ⊢
        have fin : ∀ S4 (v : Nat), Kp [] S S4 → (∀ a ∈ pre ws R r, ∀ u, asg f a = some u → u < v) → v ≤ cntF f → ((pre ws R r = [] ∧ v = 0) ∨ ∃ a ∈ pre ws R r, ∃ u, asg f a = some u ∧ u + 1 = v) → ∃ S5, putI (.cell F) (.int (r : Nat)) (.int (v : Nat)) S4 = some S5 ∧ Q.nx [h0, some (.cell c), some (.cell F), v3, some (.int (r : Nat)), some (.cell cj), v6] S5 := fun S4 v k4 hv hb hm => by
          have hF4 := k4.get _ _ (by simp) hF
          have em : (f.map natD).set r (.int (v : Nat)) = (f.set r (some v)).map natD := by rw [List.map_set]; rfl
          refine ⟨_, putLI hF4 (by rw [List.length_map]; exact hl), hQ _ (f.set r (some v)) (k4.of.set (.inr (by simp)) _) ?_ (N.step hr q hp hv hb hm) (.inr ⟨cnt_set hl q, v, q, hp, rfl⟩)⟩
          rw [get_set hF4, em]
        cases hpe : pre ws R r with
        | nil =>
          simp only [List.map_nil, List.isEmpty_nil, Bool.not_true, Bool.false_eq_true, if_false, o_c]
          refine ⟨_, rfl, _, rfl, ?_⟩
          exact fin S3 0 k2 (fun a ha => by rw [hpe] at ha; cases ha) (Nat.zero_le _) (.inl ⟨hpe, rfl⟩)
        | cons a0 l0 =>
          simp only [List.map_cons, List.isEmpty_cons, Bool.not_false, if_true, o_bin, o_c, o_call, o_cons, o_nil]
          refine ok_lcAL (xs := nats (pre ws R r)) (c0 := cj) (valF f) ?_ hrow2 (by rw [List.length_map, lim_eq]; omega) ?_ ?_
          · simp [Kp.refl]
          · intro x hx S4 k4
            obtain ⟨a, ha, rfl⟩ := List.mem_map.mp hx
            refine ⟨_, set_nm, ?_⟩
            have ha2 : a < f.length := by rw [N.len]; exact pre_lt ha
            have ex := p_ixL (k4.get _ _ (by simp) hF2) (fnd_get ha2)
            simp [wipeD, ex, valF, Kp.refl]
          · intro S4 c4 k4 hl4 hc4
            rw [valF_list hp, hpe, List.map_cons] at hc4
            rw [b_maxL hc4, Ok_ok, p_add, Ok_ok]
            have k04 := k2.trans k4
            have hmm := maxI_mem ((valN f a0 : Nat) : Int) (l0.map fun a => ((valN f a : Nat) : Int))
            have hml := maxI_le ((valN f a0 : Nat) : Int) (l0.map fun a => ((valN f a : Nat) : Int))
            generalize maxI (((valN f a0 : Nat) : Int) :: (l0.map fun a => ((valN f a : Nat) : Int))) = mx at hmm hml
            have ecs : ((valN f a0 : Nat) : Int) :: (l0.map fun a => ((valN f a : Nat) : Int)) = (pre ws R r).map fun a => ((valN f a : Nat) : Int) := by rw [hpe]; rfl
            rw [ecs] at hmm hml
            obtain ⟨am, ham, hame⟩ := List.mem_map.mp hmm
            have hmx : (1 : Int) + mx = ((1 + valN f am : Nat) : Int) := by rw [← hame]; omega
            rw [hmx]
            refine ⟨_, rfl, _, rfl, ?_⟩
            refine fin S4 _ k04 ?_ ?_ ?_
            · intro a ha u hu
              have h1 := hml ((valN f a : Nat) : Int) (List.mem_map.mpr ⟨a, ha, rfl⟩)
              rw [← hame] at h1
              have h2 : valN f a = u := by unfold valN; rw [hu]; rfl
              omega
            · have := hp am ham
              cases q2 : asg f am with
              | none => exact absurd q2 this
              | some u =>
                have h1 := N.bd am u q2
                have h2 : valN f am = u := by unfold valN; rw [q2]; rfl
                omega
            · have := hp am ham
              cases q2 : asg f am with
              | none => exact absurd q2 this
              | some u =>
                have h2 : valN f am = u := by unfold valN; rw [q2]; rfl
                exact .inr ⟨am, ham, u, q2, by omega⟩
end
end Dn
set_option Elab.async false
set_option linter.all false
set_option maxRecDepth 100000
set_option maxHeartbeats 2000000
/-! Ag_k92: numbers. -/
noncomputable section
namespace Dn
open PySem L2
section
variable {S S' : Sto} {K : List Nat} {δ : En} {Q : Po} {P : D → Sto → Prop} {o i v a : DE}
structure TI (P : Nat → List Nat) (R t : Nat) (f : Fnd) : Prop where
  n : NInv P R f
  s : StuckF P R f ∨ t ≤ cntF f
structure TJ (P : Nat → List Nat) (R j : Nat) (f0 f : Fnd) : Prop where
  n : NInv P R f
  e : StuckF P R f0 → f = f0
  s : cntF f0 + 1 ≤ cntF f ∨ (f = f0 ∧ ∀ r, r < j → asg f r = none → ∃ a ∈ P r, asg f a = none)
theorem TJ.go {P : Nat → List Nat} {R j : Nat} {f0 f f' : Fnd} (h : TJ P R j f0 f) (hj : j < R) (n' : NInv P R f') (st : NStep P R f j f') : TJ P R (j + 1) f0 f' := by
  rcases st with ⟨rfl, hs⟩ | ⟨hc, v, hn, hp, rfl⟩
  · refine ⟨n', h.e, ?_⟩
    rcases h.s with s | ⟨rfl, s⟩
    · exact .inl s
    · refine .inr ⟨rfl, fun r hr hn => ?_⟩
      rcases Nat.lt_or_ge r j with hlt | hge
      · exact s r hlt hn
      · have : r = j := by omega
        subst this
        exact hs hn
  · refine ⟨n', fun hst => ?_, ?_⟩
    · have := h.e hst
      subst this
      obtain ⟨a, ha, hna⟩ := hst j hj hn
      exact absurd hna (hp a ha)
    · rcases h.s with s | ⟨rfl, s⟩
      · exact .inl (by omega)
      · exact .inl (by omega)
theorem TJ.fin {P : Nat → List Nat} {R t : Nat} {f0 f : Fnd} (h0 : TI P R t f0) (h : TJ P R R f0 f) : TI P R (t + 1) f := by
  refine ⟨h.n, ?_⟩
  rcases h0.s with s0 | s0
  · have := h.e s0
    subst this
    exact .inl s0
  · rcases h.s with s | ⟨rfl, s⟩
    · exact .inr (by omega)
    · exact .inl s
theorem inD_non {f : Fnd} : inD .non (f.map natD) = decide (none ∈ f) := by
  unfold inD
  induction f with
  | nil => rfl
  | cons o f ih =>
    rw [List.map_cons, List.any_cons, ih]
    cases o with
    | none =>
      have e : eqF (natD none) .non = true := rfl
      simp [e]
    | some u =>
      have e : eqF (natD (some u)) .non = false := rfl
      simp [e]
theorem fnd_flat (f : Fnd) : (f.map natD).all flatD = true := by
  rw [List.all_map]
  refine List.all_eq_true.mpr fun o _ => ?_
  cases o <;> rfl
theorem p_inNon {F : Nat} {f : Fnd} (h : S[F]? = some (.lst (f.map natD))) : opIn false .non (.cell F) S = .ok (.bl (decide (none ∈ f))) S := by
  unfold opIn
  have e : items S (.cell F) = some (f.map natD) := by simp only [items, h]
  rw [e]
  have g : (flatD .non && (f.map natD).all flatD) = true := by rw [fnd_flat]; rfl
  simp only [g, if_true, inD_non]
  rfl
theorem fnd_nats {f : Fnd} (h : none ∉ f) : f.map natD = nats (f.map fun o => o.getD 0) := by
  show _ = (f.map fun o => o.getD 0).map fun i => D.int (i : Nat)
  rw [List.map_map]
  refine List.map_congr_left fun o ho => ?_
  cases o with
  | none => exact absurd ho h
  | some u => rfl
structure NumOk (ws : List (List Stp)) (R : Nat) (ns : List Nat) : Prop where
  len : ns.length = R
  lt : ∀ x ∈ ns, x < R
  up : ∀ r, r < R → ∀ a ∈ pre ws R r, ns[a]?.getD 0 < ns[r]?.getD 0
  mx : ∀ r, r < R → (pre ws R r = [] ∧ ns[r]?.getD 0 = 0) ∨ ∃ a ∈ pre ws R r, ns[a]?.getD 0 + 1 = ns[r]?.getD 0
theorem NumOk.uniq {ws : List (List Stp)} {R : Nat} {ns ms : List Nat} (h : NumOk ws R ns) (h' : NumOk ws R ms) : ns = ms := by
  have main : ∀ n r, r < R → ns[r]?.getD 0 = n → ms[r]?.getD 0 = n := by
    intro n
    induction n using Nat.strongRecOn with
    | ind n ih =>
      intro r hr e
      have low : ∀ a ∈ pre ws R r, ms[a]?.getD 0 = ns[a]?.getD 0 := fun a ha => ih _ (by have := h.up r hr a ha; omega) a (pre_lt ha) rfl
      rcases h.mx r hr with ⟨h1, h2⟩ | ⟨a, ha, h2⟩
      · rcases h'.mx r hr with ⟨_, h4⟩ | ⟨b, hb, _⟩
        · omega
        · rw [h1] at hb
          cases hb
      · have h3 := h'.up r hr a ha
        rw [low a ha] at h3
        rcases h'.mx r hr with ⟨h4, _⟩ | ⟨b, hb, h5⟩
        · rw [h4] at ha
          cases ha
        · rw [low b hb] at h5
          have := h.up r hr b hb
          omega
  refine List.ext_getElem? fun i => ?_
  by_cases hi : i < R
  · have h1 := List.getElem?_eq_getElem (l := ns) (i := i) (by rw [h.len]; exact hi)
    have h2 := List.getElem?_eq_getElem (l := ms) (i := i) (by rw [h'.len]; exact hi)
    have := main _ i hi rfl
    rw [h1, h2] at this ⊢
    simp at this
    rw [this]
  · rw [List.getElem?_eq_none (by rw [h.len]; omega), List.getElem?_eq_none (by rw [h'.len]; omega)]
theorem num_fin {ws : List (List Stp)} {R : Nat} {f : Fnd} (T : TI (pre ws R) R R f) : (none ∈ f ∧ HasStuck (pre ws R) R) ∨ (none ∉ f ∧ NumOk ws R (f.map fun o => o.getD 0) ∧ ¬ HasStuck (pre ws R) R) := by
  have hs := T.n.stuck_end T.s
  have iff := T.n.has (fun r a h => pre_lt h) hs
  have hg : ∀ r, r < R → ∀ o, f[r]? = some o → asg f r = o := fun r hr o ho => by
    unfold asg
    rw [ho]
    rfl
  have gg : ∀ r, r < R → ∃ o, f[r]? = some o := fun r hr => ⟨_, List.getElem?_eq_getElem (by rw [T.n.len]; exact hr)⟩
  by_cases h : none ∈ f
  · refine .inl ⟨h, iff.mpr ?_⟩
    obtain ⟨r, hr, hn⟩ := List.getElem_of_mem h
    refine ⟨r, by rw [← T.n.len]; exact hr, hg r (by rw [← T.n.len]; exact hr) none ?_⟩
    rw [List.getElem?_eq_getElem hr, hn]
  · have all : ∀ r, r < R → ∃ u, f[r]? = some (some u) ∧ asg f r = some u := fun r hr => by
      obtain ⟨o, ho⟩ := gg r hr
      cases o with
      | none => exact absurd (List.mem_of_getElem? ho) h
      | some u => exact ⟨u, ho, hg r hr _ ho⟩
    have val : ∀ r u, f[r]? = some (some u) → (f.map fun o => o.getD 0)[r]?.getD 0 = u := fun r u hu => by
      rw [List.getElem?_map, hu]
      rfl
    have bd : ∀ r u, asg f r = some u → u < R := fun r u hu => by
      have h1 := T.n.bd r u hu
      have h2 := cnt_le f
      rw [T.n.len] at h2
      omega
    refine .inr ⟨h, ⟨by rw [List.length_map]; exact T.n.len, fun x hx => ?_, fun r hr a ha => ?_, fun r hr => ?_⟩, fun hh => ?_⟩
    · obtain ⟨o, ho, rfl⟩ := List.mem_map.mp hx
      obtain ⟨r, hr, hn⟩ := List.getElem_of_mem ho
      have hrR : r < R := by rw [← T.n.len]; exact hr
      obtain ⟨u, hu, hau⟩ := all r hrR
      have : o = some u := by
        rw [List.getElem?_eq_getElem hr, hn] at hu
        exact Option.some.inj hu
      rw [this]
      exact bd r u hau
    · obtain ⟨u, hu, hau⟩ := all r hr
      obtain ⟨x, hx, hlt⟩ := T.n.ok r u hau a ha
      obtain ⟨u', hu', hau'⟩ := all a (pre_lt ha)
      have ee : u' = x := Option.some.inj (hau'.symm.trans hx)
      rw [val r u hu, val a u' hu', ee]
      exact hlt
    · obtain ⟨u, hu, hau⟩ := all r hr
      rcases T.n.mx r u hau with ⟨h1, h2⟩ | ⟨a, ha, x, hx, e⟩
      · exact .inl ⟨h1, by rw [val r u hu]; exact h2⟩
      · obtain ⟨u', hu', hau'⟩ := all a (pre_lt ha)
        have ee : u' = x := Option.some.inj (hau'.symm.trans hx)
        exact .inr ⟨a, ha, by rw [val r u hu, val a u' hu', ee]; exact e⟩
    · obtain ⟨r, hr, hn⟩ := iff.mp hh
      obtain ⟨u, hu, hau⟩ := all r hr
      rw [hau] at hn
      cases hn
def bNr : DS := dRet (dIf (dB (dBin (opIn false) (dC .non) (dVar 2))) (dC .non) (dCall bTuple (dCons (dVar 2) dNil)))
theorem r_numbers {R : Nat} {rs : List D} {ws : List (List Stp)} (H : HOk R rs ws) : Ok (d_numbers [houseD rs ws] S) fun r S' => Kp [] S S' ∧ ((r = .non ∧ HasStuck (pre ws R) R) ∨ ∃ ns : List Nat, r = .tup (nats ns) ∧ NumOk ws R ns ∧ ¬ HasStuck (pre ws R) R) := by
  have r6 := H.r6
  have eb : b_numbers = dSeq (dSet 1 (dCall d_rooms_ahead (dCons (dVar 0) dNil))) (dSeq (dSet 2 (dBin opMul (dLst (dCons (dC .non) dNil)) (dCall bLen (dCons (dVar 1) dNil)))) (dSeq (dFor (rng1 (dCons (dCall bLen (dCons (dVar 1) dNil)) dNil)) (.nm 3) (dFor (enA (dCons (dVar 1) dNil)) (.tp [(.nm 4), (.nm 5)]) bN)) bNr)) := rfl
  generalize hb : bN = bn at eb
  generalize hbr : bNr = bnr at eb
  simp [d_numbers, eb, startD]
  refine Ok.imp (r_rooms_ahead H) ?_
  rintro _ S1 ⟨k1, c, rfl, hcl, A⟩
  have A0 := A.nil
  refine ⟨by simp [lim_eq], ?_⟩
  obtain ⟨S2, hS2⟩ : ∃ S2, S2 = S1 ++ [C.lst [D.non]] := ⟨_, rfl⟩
  rw [← hS2]
  have k12 : Kp [] S1 S2 := by rw [hS2]; exact Kp.app _ _ _
  have A2 : AhAt [] S2 c R ws := A0.mono k12
  rw [A2.lenE, Ok_ok, p_mulL (by rw [hS2]; exact get_push _ _) (by simp) (by omega), o_mkL, rep_one]
  refine ⟨by rw [List.length_replicate, lim_eq]; omega, ?_⟩
  obtain ⟨F, hFd⟩ : ∃ F, F = S2.length := ⟨_, rfl⟩
  obtain ⟨S3, hS3⟩ : ∃ S3, S3 = S2 ++ [C.lst (List.replicate R D.non)] := ⟨_, rfl⟩
  rw [← hS3, ← hFd]
  have k23 : Kp [] S2 S3 := by rw [hS3]; exact Kp.app _ _ _
  have A3 : AhAt [F] S3 c R ws := A2.fr (by omega) k23
  have hF3 : S3[F]? = some (.lst ((List.replicate R (none : Option Nat)).map natD)) := by
    rw [hS3, hFd, List.map_replicate]
    exact get_push _ _
  obtain ⟨cs, hcc, hcsl, hcs⟩ := A3.ex
  have hcn : c ∉ [F] := A3.cn
  have kall : ∀ S4, Kp [F] S3 S4 → Kp [] S S4 := fun S4 k4 => k1.trans (k12.trans ⟨Nat.le_trans k23.le k4.le, fun n x hn hx => k4.get n x (by
    have := lt_of_get hx
    simp
    omega) (k23.get n x (by simp) hx)⟩)
  have A3n : AhAt [] S3 c R ws := A3.nil
  refine ok_forR (n := R) (by omega) (fun t δ S' => Kp [F] S3 S' ∧ (∃ v3 v4 v5 v6, δ = [some (houseD rs ws), some (.cell c), some (.cell F), v3, v4, v5, v6]) ∧ ∃ f, S'[F]? = some (.lst (f.map natD)) ∧ TI (pre ws R) R t f) ?_ ?_ ?_
  · simp [A3n.lenE]
    exact ⟨Kp.refl _ _, _, hF3, NInv.init, .inr (Nat.zero_le _)⟩
  · rintro t δ S4 ht ⟨k4, ⟨v3, v4, v5, v6, rfl⟩, f0, hF4, T0⟩
    refine ⟨_, set_nm, ?_⟩
    simp only [List.set_cons_succ, List.set_cons_zero]
    refine ok_for (s0 := .en (.cell c)) (N := R) (item := fun i => .tup [.int (i : Nat), .cell (cs[i]?.getD 0)]) (fun j δ S' => Kp [F] S3 S' ∧ (∃ v4 v5 v6, δ = [some (houseD rs ws), some (.cell c), some (.cell F), some (.int (t : Nat)), v4, v5, v6]) ∧ ∃ f, S'[F]? = some (.lst (f.map natD)) ∧ TJ (pre ws R) R j f0 f) ?_ ?_ ?_ ?_ ?_
    · simp only [o_enA, o_cons, o_var, o_nil, List.getElem?_cons_succ, List.getElem?_cons_zero]
      refine ⟨_, rfl, _, rfl, .inl (isL_cell (k4.get _ _ hcn hcc)), rfl, k4, ⟨_, _, _, rfl⟩, f0, hF4, T0.n, fun _ => rfl, .inr ⟨rfl, fun r hr => absurd hr (Nat.not_lt_zero _)⟩⟩
    · rintro i δ S5 ⟨k5, _⟩
      simp [Src.len, it_cell (k5.get _ _ hcn hcc), hcsl]
    · rintro i δ S5 hi ⟨k5, _⟩
      have : i < cs.length := by omega
      simp [Src.item, it_cell (k5.get _ _ hcn hcc), this]
    · rintro j δ S5 hj ⟨k5, ⟨v4, v5, v6, rfl⟩, f, hF5, TJf⟩
      have hj2 : cs[j]? = some (cs[j]'(by omega)) := List.getElem?_eq_getElem (by omega)
      have hcj := hcs j _ hj2
      rw [hj2, Option.getD_some]
      generalize cs[j]'(by omega) = cj at hcj
      simp only [set_tp, setAll_cons, set_nm, setAll_nil, Option.bind_some]
      refine ⟨_, rfl, ?_⟩
      simp only [List.set_cons_succ, List.set_cons_zero]
      rw [← hb]
      refine t_bN (R := R) (r := j) (c := c) (F := F) (cj := cj) (ws := ws) (f := f) hj r6 (by simpa using hcj.1) (k5.get _ _ hcj.1 hcj.2) hF5 TJf.n rfl ?_
      intro S6 f' k6 hF6 n' st
      exact ⟨k5.trans k6, ⟨_, _, _, rfl⟩, f', hF6, TJf.go hj n' st⟩
    · rintro δ S5 ⟨k5, ⟨v4, v5, v6, rfl⟩, f, hF5, TJf⟩
      exact ⟨k5, ⟨_, _, _, _, rfl⟩, f, hF5, TJf.fin T0⟩
  · rintro δ S4 ⟨k4, ⟨v3, v4, v5, v6, rfl⟩, f, hF4, T⟩
    rw [← hbr]
    unfold bNr
    simp only [o_ret, o_if, o_B, o_bin, o_c, o_var, List.getElem?_cons_succ, List.getElem?_cons_zero]
    refine ⟨_, rfl, ?_⟩
    rw [p_inNon hF4, Ok_ok]
    refine ⟨_, rfl, ?_⟩
    rcases num_fin T with ⟨h1, h2⟩ | ⟨h1, h2, h3⟩
    · rw [decide_eq_true h1, if_pos rfl]
      exact ⟨kall _ k4, .inl ⟨by trivial, h2⟩⟩
    · rw [decide_eq_false h1, if_neg (by simp)]
      simp only [o_call, o_cons, o_nil, o_var, List.getElem?_cons_succ, List.getElem?_cons_zero]
      refine ⟨_, rfl, ?_⟩
      rw [b_tupL hF4, Ok_ok]
      refine ⟨kall _ k4, .inr ⟨_, ?_, h2, h3⟩⟩
      rw [fnd_nats h1]
end
end Dn
set_option Elab.async false
set_option linter.all false
set_option maxRecDepth 100000
set_option maxHeartbeats 2000000
/-! Ah_k92: the rooms left. -/
noncomputable section
namespace Dn
open PySem L2
section
variable {S S' : Sto} {K : List Nat} {δ : En} {Q : Po} {P : D → Sto → Prop} {o i v a : DE}
def pyNats (l : List Nat) : PyData := .list (l.map fun i => PyData.int (i : Nat))
theorem allPy_nats {n : Nat} : ∀ l : List Nat, allPy (toPy (n + 1) S) (nats l) = some (l.map fun i => PyData.int (i : Nat))
  | [] => rfl
  | i :: l => by
    have ih := allPy_nats (n := n) l
    show allPy (toPy (n + 1) S) (D.int (i : Nat) :: nats l) = _
    unfold allPy
    rw [ih]
    rfl
theorem py_nats {c : Nat} {l : List Nat} (hc : S[c]? = some (.lst (nats l))) : toPy 60 S (.cell c) = some (pyNats l) := by
  rw [toPy_succ_cell hc, allPy_nats]
  rfl
theorem nats_lay : ∀ l : List Nat, PyData.canLayAll0 (l.map fun i => PyData.int (i : Nat)) = true ∧ PyData.depthAll (l.map fun i => PyData.int (i : Nat)) = 0
  | [] => ⟨rfl, rfl⟩
  | i :: l => by
    obtain ⟨h1, h2⟩ := nats_lay l
    rw [List.map_cons]
    refine ⟨?_, ?_⟩
    · simp only [PyData.canLayAll0, PyData.canLay0, h1, Bool.and_self]
    · simp only [PyData.depthAll, PyData.depth, h2]
      rfl
theorem nats_shaped (l : List Nat) : SeqAt.shaped (pyNats l) = true := by
  obtain ⟨h1, h2⟩ := nats_lay l
  unfold SeqAt.shaped pyNats
  have e1 : PyData.canLay0 (.list (l.map fun i => PyData.int (i : Nat))) = true := by simpa only [PyData.canLay0] using h1
  have e2 : PyData.depth (.list (l.map fun i => PyData.int (i : Nat))) ≤ 64 := by simp only [PyData.depth, h2]; omega
  rw [e1, decide_eq_true e2]
  rfl
theorem nats_eqv : ∀ a b : List Nat, PyData.eqvAll (a.map fun i => PyData.int (i : Nat)) (b.map fun i => PyData.int (i : Nat)) = decide (a = b)
  | [], [] => by simp [PyData.eqvAll]
  | [], _ :: _ => by simp [PyData.eqvAll]
  | _ :: _, [] => by simp [PyData.eqvAll]
  | x :: a, y :: b => by
    have ih := nats_eqv a b
    rw [List.map_cons, List.map_cons]
    simp only [PyData.eqvAll, PyData.eqv, ih]
    by_cases h : x = y
    · subst h
      simp
    · have : ¬ (x : Int) = (y : Int) := by omega
      simp [h, this]
theorem p_NN {neg : Bool} {a b : Nat} {la lb : List Nat} (ha : S[a]? = some (.lst (nats la))) (hb : S[b]? = some (.lst (nats lb))) : opEqG neg (.cell a) (.cell b) S = .ok (.bl (if neg then !decide (la = lb) else decide (la = lb))) S := by
  show opEqP neg (.cell a) (.cell b) S = _
  unfold opEqP
  have e3 : PyData.eqv (pyNats la) (pyNats lb) = decide (la = lb) := by
    unfold pyNats
    simp only [PyData.eqv, nats_eqv]
  simp only [py_nats ha, py_nats hb, nats_shaped, e3, Bool.and_self, if_true]
theorem p_Nnon {a : Nat} {la : List Nat} (ha : S[a]? = some (.lst (nats la))) : opNe (.cell a) .non S = .ok (.bl true) S := by
  show opEqP true (.cell a) .non S = _
  unfold opEqP
  have e2 : toPy 60 S .non = some .none := rfl
  have e3 : PyData.eqv (pyNats la) .none = false := by simp [pyNats, PyData.eqv]
  have e4 : SeqAt.shaped .none = true := by decide
  simp only [py_nats ha, e2, nats_shaped, e3, e4, Bool.and_self, if_true]
  rfl
def nextL (P : Nat → List Nat) (l : List Nat) : List Nat := l.filter fun r => !((P r).filter fun a => decide (a ∈ l)).isEmpty
theorem mem_nextL {P : Nat → List Nat} {l : List Nat} {r : Nat} : r ∈ nextL P l ↔ r ∈ l ∧ ∃ a ∈ P r, a ∈ l := by
  unfold nextL
  rw [List.mem_filter]
  refine and_congr_right fun _ => ?_
  constructor
  · intro h
    cases q : (P r).filter fun a => decide (a ∈ l) with
    | nil => rw [q] at h; cases h
    | cons a t =>
      have : a ∈ (P r).filter fun a => decide (a ∈ l) := by rw [q]; exact List.mem_cons_self
      obtain ⟨h1, h2⟩ := List.mem_filter.mp this
      exact ⟨a, h1, of_decide_eq_true h2⟩
  · rintro ⟨a, h1, h2⟩
    have : a ∈ (P r).filter fun a => decide (a ∈ l) := List.mem_filter.mpr ⟨h1, decide_eq_true h2⟩
    cases q : (P r).filter fun a => decide (a ∈ l) with
    | nil => rw [q] at this; cases this
    | cons a t => rfl
/-- in order -/
def EqF (R : Nat) (l : List Nat) : Prop := l = (List.range R).filter fun r => decide (r ∈ l)
theorem EqF.lt {R : Nat} {l : List Nat} (h : EqF R l) : ∀ r ∈ l, r < R := fun r hr => by
  unfold EqF at h
  rw [h] at hr
  exact List.mem_range.mp (List.mem_filter.mp hr).1
theorem EqF.range {R : Nat} : EqF R (List.range R) := by
  unfold EqF
  exact (List.filter_eq_self.mpr fun a ha => decide_eq_true ha).symm
theorem EqF.filt {R : Nat} {l : List Nat} {p : Nat → Bool} (h : EqF R l) : EqF R (l.filter p) := by
  unfold EqF at h ⊢
  conv => lhs; rw [h]
  rw [List.filter_filter]
  refine List.filter_congr fun a ha => ?_
  rw [Bool.eq_iff_iff, Bool.and_eq_true, decide_eq_true_iff, decide_eq_true_iff, List.mem_filter]
  exact And.comm
structure LeftOk (P : Nat → List Nat) (R : Nat) (l : List Nat) : Prop where
  lt : ∀ r ∈ l, r < R
  st : ∀ r ∈ l, ∃ a ∈ P r, a ∈ l
  all : ∀ L : Nat → Prop, (∀ r, L r → r < R ∧ ∃ a ∈ P r, L a) → ∀ r, L r → r ∈ l
  eq : EqF R l
theorem LeftOk.uniq {P : Nat → List Nat} {R : Nat} {l m : List Nat} (h : LeftOk P R l) (h' : LeftOk P R m) : l = m := by
  have e1 : ∀ r, r ∈ l ↔ r ∈ m := fun r => ⟨fun hr => h'.all (fun r => r ∈ l) (fun r hr => ⟨h.lt r hr, h.st r hr⟩) r hr, fun hr => h.all (fun r => r ∈ m) (fun r hr => ⟨h'.lt r hr, h'.st r hr⟩) r hr⟩
  have a := h.eq
  have b := h'.eq
  unfold EqF at a b
  rw [a, b]
  refine List.filter_congr fun r _ => ?_
  exact decide_eq_decide.mpr (e1 r)
theorem LeftOk.has {P : Nat → List Nat} {R : Nat} {l : List Nat} (h : LeftOk P R l) : HasStuck P R ↔ l ≠ [] := by
  constructor
  · rintro ⟨L, ⟨r, hr⟩, hL⟩ e
    have := h.all L hL r hr
    rw [e] at this
    cases this
  · intro hn
    cases l with
    | nil => exact absurd rfl hn
    | cons x t => exact ⟨fun r => r ∈ x :: t, ⟨x, List.mem_cons_self⟩, fun r hr => ⟨h.lt r hr, h.st r hr⟩⟩
theorem r_rooms_left {R c : Nat} {ws : List (List Stp)} (hR : R ≤ 6) (A : AhAt [] S c R ws) : Ok (d_rooms_left [.cell c] S) fun r S' => Kp [] S S' ∧ ∃ lc l, r = .cell lc ∧ S'[lc]? = some (.lst (nats l)) ∧ LeftOk (pre ws R) R l := by
  simp only [d_rooms_left, b_rooms_left, startD, o_fn]
  refine ⟨rfl, ?_⟩
  simp only [o_seq, o_asg, o_tup, o_cons, o_nil, o_c]
  refine ok_listRg (n := R) (by omega) ?_
  simp [A.lenE]
  refine ⟨by simp [lim_eq], ?_⟩
  obtain ⟨S1, hS1⟩ : ∃ S1, S1 = S ++ [C.lst (nats (List.range R))] := ⟨_, rfl⟩
  have k1 : Kp [] S S1 := by rw [hS1]; exact Kp.app _ _ _
  have h1 : S1[S.length]? = some (.lst (nats (List.range R))) := by rw [hS1]; exact get_push _ _
  have A1 := A.mono k1
  show OkS (dWhile _ _ _ (S ++ [C.lst (nats (List.range R))])) _
  rw [← hS1]
  refine ok_while (fun m δ S' => Kp [] S S' ∧ ∃ fr lf v1 v3 v4, δ = [some (.cell c), some v1, some (.cell fr), v3, v4] ∧ S'[fr]? = some (.lst (nats lf)) ∧ EqF R lf ∧ lf.length ≤ R ∧ (∀ L : Nat → Prop, (∀ r, L r → r < R ∧ ∃ a ∈ pre ws R r, L a) → ∀ r, L r → r ∈ lf) ∧ ((v1 = .non ∧ m = R + 1) ∨ ∃ lc ll, v1 = .cell lc ∧ S'[lc]? = some (.lst (nats ll)) ∧ lf = nextL (pre ws R) ll ∧ m = ll.length)) (R + 1) (by omega) ?_ ?_
  · exact ⟨k1, _, _, _, _, _, rfl, h1, EqF.range, by rw [List.length_range]; exact Nat.le_refl _, fun L hL r hr => List.mem_range.mpr (hL r hr).1, .inl ⟨rfl, rfl⟩⟩
  · rintro m δ S2 ⟨k2, fr, lf, v1, v3, v4, rfl, hfr, hE, hln, hall, hv⟩
    have hlt : ∀ r ∈ lf, r < R := hE.lt
    simp only [o_B, o_bin, o_var, List.getElem?_cons_succ, List.getElem?_cons_zero]
    refine ⟨_, rfl, _, rfl, ?_⟩
    have A2 := A.mono k2
    have body : ∀ Q : Po, lf.length < m → (∀ S3 fr' v4', Kp [] S S3 → S3[fr']? = some (.lst (nats (nextL (pre ws R) lf))) → S3[fr]? = some (.lst (nats lf)) → Q.nx [some (.cell c), some (.cell fr), some (.cell fr'), v3, v4'] S3) → OkS (dSeq (dSet 1 (dVar 2)) (dSet 2 (dLc (srcA (dVar 1)) (.nm 4) (dB (dBin opNe (dLc (srcA (dBin opIx (dVar 0) (dVar 4))) (.nm 3) (dB (dBin (opIn false) (dVar 3) (dVar 1))) (dVar 3) [3]) (dLst dNil))) (dVar 4) [4])) [some (.cell c), some v1, some (.cell fr), v3, v4] S2) Q := by
      intro Q hm hQ
      simp only [o_seq, o_set, o_var, List.getElem?_cons_succ, List.getElem?_cons_zero, List.set_cons_succ, List.set_cons_zero]
      refine ⟨_, rfl, ?_⟩
      refine ok_lcAL (xs := nats lf) (c0 := fr) (intF fun r => !((pre ws R r).filter fun a => decide (a ∈ lf)).isEmpty) ?_ hfr (by rw [List.length_map, lim_eq]; omega) ?_ ?_
      · simp [Kp.refl]
      · intro x hx S3 k3
        obtain ⟨r, hr, rfl⟩ := List.mem_map.mp hx
        refine ⟨_, set_nm, ?_⟩
        have hrR := hlt r hr
        obtain ⟨cj, ej, _, hcj⟩ := (A2.mono k3).row hrR
        have hfr3 := k3.get _ _ (by simp) hfr
        have pl : (pre ws R r).length ≤ R := by
          have := List.length_filter_le (fun a => E ws a r) (List.range R)
          rw [List.length_range] at this
          exact this
        simp only [wipeD, List.foldl_cons, List.foldl_nil, List.set_cons_succ, List.set_cons_zero, o_B, o_bin]
        refine ok_lcAL (xs := nats (pre ws R r)) (c0 := cj) (intF fun a => decide (a ∈ lf)) ?_ hcj (by rw [List.length_map, lim_eq]; omega) ?_ ?_
        · simp [ej, Kp.refl]
        · intro x hx S4 k4
          obtain ⟨a, ha, rfl⟩ := List.mem_map.mp hx
          refine ⟨_, set_nm, ?_⟩
          have := p_inN (neg := false) (k := a) (k4.get _ _ (by simp) hfr3)
          simp [wipeD, this, intF_n, Kp.refl]
          by_cases hm : a ∈ lf <;> simp [hm, Kp.refl]
        · intro S4 c4 k4 hl4 hc4
          rw [intF_list] at hc4
          rw [o_lst, o_nil]
          refine ⟨by simp, ?_⟩
          have hc4' := (Kp.app [] S4 [.lst []]).get _ _ (by simp) hc4
          rw [p_neNil hc4' (rd_nats fun x hx => by have := pre_lt (List.mem_filter.mp hx).1; omega) (by decide) (get_push _ _), Ok_ok]
          refine ⟨_, rfl, k4.push _, ?_⟩
          rw [intF_n]
          have en : (nats ((pre ws R r).filter fun a => decide (a ∈ lf))).isEmpty = ((pre ws R r).filter fun a => decide (a ∈ lf)).isEmpty := by
            cases (pre ws R r).filter fun a => decide (a ∈ lf) <;> rfl
          rw [en]
          cases ((pre ws R r).filter fun a => decide (a ∈ lf)).isEmpty
          · simp
            exact k4.push _
          · simp
      · intro S3 c3 k3 hl3 hc3
        rw [intF_list] at hc3
        exact hQ S3 c3 _ (k2.trans k3) hc3 (k3.get _ _ (by simp) hfr)
    have nx : ∀ S3 fr' v4', lf.length < m → Kp [] S S3 → S3[fr']? = some (.lst (nats (nextL (pre ws R) lf))) → S3[fr]? = some (.lst (nats lf)) → ∃ m', m' < m ∧ Kp [] S S3 ∧ ∃ fr2 lf2 v1' v3' v4'', [some (.cell c), some (.cell fr), some (.cell fr'), v3, v4'] = [some (.cell c), some v1', some (.cell fr2), v3', v4''] ∧ S3[fr2]? = some (.lst (nats lf2)) ∧ EqF R lf2 ∧ lf2.length ≤ R ∧ (∀ L : Nat → Prop, (∀ r, L r → r < R ∧ ∃ a ∈ pre ws R r, L a) → ∀ r, L r → r ∈ lf2) ∧ ((v1' = .non ∧ m' = R + 1) ∨ ∃ lc ll, v1' = .cell lc ∧ S3[lc]? = some (.lst (nats ll)) ∧ lf2 = nextL (pre ws R) ll ∧ m' = ll.length) := by
      intro S3 fr' v4' hm k3 h3 hf
      refine ⟨lf.length, hm, k3, fr', nextL (pre ws R) lf, .cell fr, v3, v4', rfl, h3, hE.filt, ?_, fun L hL r hr => mem_nextL.mpr ⟨hall L hL r hr, ?_⟩, .inr ⟨fr, lf, rfl, hf, rfl, rfl⟩⟩
      · exact Nat.le_trans (List.length_filter_le _ _) hln
      · obtain ⟨_, a, ha, hLa⟩ := hL r hr
        exact ⟨a, ha, hall L hL a hLa⟩
    rcases hv with ⟨rfl, rfl⟩ | ⟨lc, ll, rfl, hlc, rfl, rfl⟩
    · rw [p_Nnon hfr, Ok_ok]
      refine ⟨_, rfl, ?_⟩
      rw [if_pos rfl]
      refine body _ (by omega) ?_
      intro S3 fr' v4' k3 h3 hf
      exact nx S3 fr' v4' (by omega) k3 h3 hf
    · have := p_NN (neg := true) hfr hlc
      have : opNe (.cell fr) (.cell lc) S2 = _ := this
      rw [this, Ok_ok]
      refine ⟨_, rfl, ?_⟩
      by_cases he : nextL (pre ws R) ll = ll
      · rw [decide_eq_true he]
        simp only [if_true, Bool.not_true, Bool.false_eq_true, if_false, o_ret, o_var, List.getElem?_cons_succ, List.getElem?_cons_zero]
        refine ⟨_, rfl, k2, lc, rfl, ll, hlc, ?_⟩
        rw [he] at hlt hall hE
        exact ⟨hlt, fun r hr => (mem_nextL.mp (by rw [he]; exact hr)).2, hall, hE⟩
      · rw [decide_eq_false he]
        simp only [if_true, Bool.not_false]
        have hm : (nextL (pre ws R) ll).length < ll.length := by
          rcases Nat.lt_or_ge (nextL (pre ws R) ll).length ll.length with h | h
          · exact h
          · exact absurd (List.Sublist.eq_of_length (List.filter_sublist) (Nat.le_antisymm (List.length_filter_le _ _) h)) he
        refine body _ hm ?_
        intro S3 fr' v4' k3 h3 hf
        exact nx S3 fr' v4' hm k3 h3 hf
end
end Dn
set_option Elab.async false
set_option linter.all false
set_option maxRecDepth 100000
set_option maxHeartbeats 2000000
/-! Ai_k92: a round of rooms. -/
noncomputable section
namespace Dn
open PySem L2
section
variable {S S' : Sto} {K : List Nat} {δ : En} {Q : Po} {P : D → Sto → Prop} {o i v a : DE}
theorem p_ixL0 {c : Nat} {xs : List D} {d : D} (h : S[c]? = some (.lst xs)) (h2 : xs[0]? = some d) : opIx (.cell c) (.int 0) S = .ok d S := p_ix (n := 0) (it_cell h) h2 rfl
theorem nodup_len : ∀ (R : Nat) (w : List Nat), w.Nodup → (∀ a ∈ w, a < R) → w.length ≤ R
  | 0, w, _, h => by
    cases w with
    | nil => exact Nat.le_refl _
    | cons a t => exact absurd (h a List.mem_cons_self) (Nat.not_lt_zero _)
  | R + 1, w, nd, h => by
    have ih := nodup_len R (w.erase R) (nd.erase R) fun a ha => by
      obtain ⟨h1, h2⟩ := (List.Nodup.mem_erase_iff nd).mp ha
      have := h a h2
      omega
    by_cases hm : R ∈ w
    · have := List.length_erase_of_mem hm
      omega
    · rw [List.erase_of_not_mem hm] at ih
      omega
theorem E_hit {ws : List (List Stp)} {one other : Nat} (h : E ws one other = true) : ∃ w ∈ ws, ∃ k t, w[k]? = some (.inn false t) ∧ t.1 = other ∧ one ∈ roomsH w k := by
  obtain ⟨w, hw, h1⟩ := List.any_eq_true.mp h
  obtain ⟨k, hk, h2⟩ := List.any_eq_true.mp h1
  unfold entB at h2
  rw [Bool.and_eq_true] at h2
  have h3 := of_decide_eq_true h2.1
  have h4 := of_decide_eq_true h2.2
  unfold insAt at h3
  split at h3
  · rename_i t ht
    exact ⟨w, hw, k, t, ht, Option.some.inj h3, h4⟩
  · cases h3
theorem E_self {R : Nat} {rs : List D} {ws : List (List Stp)} (H : HOk R rs ws) (x : Nat) : E ws x x = false := by
  cases q : E ws x x with
  | false => rfl
  | true =>
    obtain ⟨w, hw, k, t, ht, rfl, hm⟩ := E_hit q
    exact absurd hm (H.self w hw k false t ht)
theorem mem_pre {ws : List (List Stp)} {R r a : Nat} : a ∈ pre ws R r ↔ a < R ∧ E ws a r = true := by
  unfold pre
  rw [List.mem_filter, List.mem_range]
structure Wk (P : Nat → List Nat) (l w : List Nat) (x : Nat) : Prop where
  nd : w.Nodup
  mem : ∀ a ∈ w, a ∈ l
  xm : x ∈ l
  ch : ∀ i a b, w[i]? = some a → (w ++ [x])[i + 1]? = some b → b ∈ P a
  st : (w ++ [x])[0]? = l[0]?
  dt : ∀ i a b, w[i]? = some a → (w ++ [x])[i + 1]? = some b → ((P a).filter fun c => decide (c ∈ l))[0]? = some b
theorem Wk.same {P : Nat → List Nat} {l w w' : List Nat} {x x' : Nat} (h : Wk P l w x) (h' : Wk P l w' x') : ∀ i, i < w.length + 1 → i < w'.length + 1 → (w ++ [x])[i]? = (w' ++ [x'])[i]?
  | 0, _, _ => by rw [h.st, h'.st]
  | i + 1, h1, h2 => by
    have ih := Wk.same h h' i (by omega) (by omega)
    rw [List.getElem?_append_left (by omega), List.getElem?_append_left (by omega)] at ih
    have a1 : w[i]? = some (w[i]'(by omega)) := List.getElem?_eq_getElem (by omega)
    have b1 : (w ++ [x])[i + 1]? = some ((w ++ [x])[i + 1]'(by simp; omega)) := List.getElem?_eq_getElem (by simp; omega)
    have b2 : (w' ++ [x'])[i + 1]? = some ((w' ++ [x'])[i + 1]'(by simp; omega)) := List.getElem?_eq_getElem (by simp; omega)
    have d1 := h.dt i _ _ a1 b1
    have d2 := h'.dt i _ _ (ih ▸ a1) b2
    rw [b1, b2, ← d1, ← d2]
theorem Wk.short {P : Nat → List Nat} {l w w' : List Nat} {x x' : Nat} (h : Wk P l w x) (h' : Wk P l w' x') (hx : x ∈ w) : w'.length ≤ w.length := by
  rcases Nat.lt_or_ge w.length w'.length with hlt | hge
  · exfalso
    have s1 := Wk.same h h' w.length (by omega) (by omega)
    rw [List.getElem?_append_right (Nat.le_refl _), List.getElem?_append_left hlt] at s1
    simp only [Nat.sub_self, List.getElem?_cons_zero] at s1
    obtain ⟨j, hj, hjx⟩ := List.getElem_of_mem hx
    have s2 := Wk.same h h' j (by omega) (by omega)
    rw [List.getElem?_append_left hj, List.getElem?_append_left (by omega), List.getElem?_eq_getElem hj, hjx] at s2
    have := (List.getElem?_inj (l := w') (i := j) (j := w.length) (by omega) h'.nd).mp (by rw [← s1, ← s2])
    omega
  · exact hge
theorem Wk.uniq {P : Nat → List Nat} {l w w' : List Nat} {x x' : Nat} (h : Wk P l w x) (h' : Wk P l w' x') (hx : x ∈ w) (hx' : x' ∈ w') : w = w' ∧ x = x' := by
  have e : w.length = w'.length := Nat.le_antisymm (Wk.short h' h hx') (Wk.short h h' hx)
  have all : w ++ [x] = w' ++ [x'] := List.ext_getElem? fun i => by
    by_cases hi : i < w.length + 1
    · exact Wk.same h h' i hi (by omega)
    · rw [List.getElem?_eq_none (by simp; omega), List.getElem?_eq_none (by simp; omega)]
  have := List.append_inj' all rfl
  exact ⟨this.1, List.singleton_inj.mp this.2⟩
theorem Wk.go {P : Nat → List Nat} {l w : List Nat} {x y : Nat} (h : Wk P l w x) (hx : x ∉ w) (hy : y ∈ P x) (hl : y ∈ l) (hd : ((P x).filter fun c => decide (c ∈ l))[0]? = some y) : Wk P l (w ++ [x]) y := by
  refine ⟨?_, fun a ha => ?_, hl, fun i a b ha hb => ?_, ?_, fun i a b ha hb => ?_⟩
  · rw [List.nodup_append]
    refine ⟨h.nd, by simp, fun a ha b hb e => ?_⟩
    rw [List.mem_singleton.mp hb] at e
    exact hx (e ▸ ha)
  · rcases List.mem_append.mp ha with ha | ha
    · exact h.mem a ha
    · rw [List.mem_singleton.mp ha]
      exact h.xm
  · have hi := (List.getElem?_eq_some_iff.mp ha).1
    rw [List.length_append, List.length_singleton] at hi
    by_cases hlt : i < w.length
    · rw [List.getElem?_append_left hlt] at ha
      rw [List.getElem?_append_left (by simp; omega)] at hb
      exact h.ch i a b ha hb
    · have : i = w.length := by omega
      subst this
      rw [List.getElem?_append_right (Nat.le_refl _)] at ha
      rw [List.getElem?_append_right (by simp)] at hb
      simp at ha hb
      rw [← ha, ← hb]
      exact hy
  · rw [List.getElem?_append_left (by simp)]
    exact h.st
  · have hi := (List.getElem?_eq_some_iff.mp ha).1
    rw [List.length_append, List.length_singleton] at hi
    by_cases hlt : i < w.length
    · rw [List.getElem?_append_left hlt] at ha
      rw [List.getElem?_append_left (by simp; omega)] at hb
      exact h.dt i a b ha hb
    · have : i = w.length := by omega
      subst this
      rw [List.getElem?_append_right (Nat.le_refl _)] at ha
      rw [List.getElem?_append_right (by simp)] at hb
      simp only [Nat.sub_self, List.getElem?_cons_zero, List.length_append, List.length_singleton, Option.some.injEq] at ha hb
      rw [← ha, ← hb]
      exact hd
def RoundIs (ws : List (List Stp)) (R : Nat) (v : List Nat) : Prop := ∃ l w x, LeftOk (pre ws R) R l ∧ Wk (pre ws R) l w x ∧ x ∈ w ∧ v = (w.drop (w.idxOf x)).reverse
theorem RoundIs.uniq {ws : List (List Stp)} {R : Nat} {v v' : List Nat} (h : RoundIs ws R v) (h' : RoundIs ws R v') : v = v' := by
  obtain ⟨l, w, x, L, W, hx, rfl⟩ := h
  obtain ⟨l', w', x', L', W', hx', rfl⟩ := h'
  have := L.uniq L'
  subst this
  obtain ⟨rfl, rfl⟩ := W.uniq W' hx hx'
  rfl
def prevAt (v : List Nat) (j : Nat) : Option Nat := if j = 0 then v[v.length - 1]? else v[j - 1]?
structure RoundOk (ws : List (List Stp)) (R : Nat) (v : List Nat) : Prop where
  len : 2 ≤ v.length
  nd : v.Nodup
  lt : ∀ a ∈ v, a < R
  pr : ∀ j b, v[j]? = some b → ∃ a, prevAt v j = some a ∧ E ws a b = true
theorem Wk.fin {ws : List (List Stp)} {R x : Nat} {rs : List D} {l w : List Nat} (H : HOk R rs ws) (hl : ∀ a ∈ l, a < R) (h : Wk (pre ws R) l w x) (hx : x ∈ w) : RoundOk ws R (w.drop (w.idxOf x)).reverse := by
  have hk := List.idxOf_lt_length_of_mem hx
  have hg : w[w.idxOf x]? = some x := by
    rw [List.getElem?_eq_getElem hk, List.getElem_idxOf]
  generalize w.idxOf x = k at hk hg
  have lend : (w.drop k).length = w.length - k := List.length_drop ..
  have next : ∀ i, k ≤ i → i < w.length → ∀ b, w[i]? = some b → ∃ a, (w ++ [x])[i + 1]? = some a ∧ E ws a b = true := fun i h1 h2 b hb => by
    have hlt : i + 1 < (w ++ [x]).length := by simp; omega
    have hs : (w ++ [x])[i + 1]? = some ((w ++ [x])[i + 1]'hlt) := List.getElem?_eq_getElem hlt
    exact ⟨_, hs, (mem_pre.mp (h.ch i b _ hb hs)).2⟩
  refine ⟨?_, ?_, fun a ha => ?_, fun j b hb => ?_⟩
  · rw [List.length_reverse, lend]
    rcases Nat.lt_or_ge (w.length - k) 2 with hlt | hge
    · have ek : k + 1 = w.length := by omega
      obtain ⟨a, ha, hE⟩ := next k (Nat.le_refl _) hk x hg
      rw [ek, List.getElem?_append_right (Nat.le_refl _)] at ha
      simp at ha
      rw [← ha, E_self H x] at hE
      cases hE
    · exact hge
  · have nd : (w.drop k).Nodup := List.Nodup.sublist (List.drop_sublist _ _) h.nd
    exact List.pairwise_reverse.mpr (List.Pairwise.imp (fun h => Ne.symm h) nd)
  · rw [List.mem_reverse] at ha
    exact hl a (h.mem a (List.mem_of_mem_drop ha))
  · have hj := (List.getElem?_eq_some_iff.mp hb).1
    rw [List.length_reverse, lend] at hj
    have rev : ∀ j', j' < w.length - k → (w.drop k).reverse[j']? = w[k + (w.length - k - 1 - j')]? := fun j' hj' => by
      rw [List.getElem?_reverse (by rw [lend]; exact hj'), List.getElem?_drop, lend]
    rw [rev j hj] at hb
    obtain ⟨a, ha, hE⟩ := next _ (Nat.le_add_right _ _) (by omega) b hb
    refine ⟨a, ?_, hE⟩
    unfold prevAt
    by_cases h0 : j = 0
    · rw [if_pos h0, List.length_reverse, lend, rev _ (by omega)]
      subst h0
      have e1 : k + (w.length - k - 1 - 0) + 1 = w.length := by omega
      rw [e1, List.getElem?_append_right (Nat.le_refl _)] at ha
      simp at ha
      have e2 : k + (w.length - k - 1 - (w.length - k - 1)) = k := by omega
      rw [e2, hg, ha]
    · rw [if_neg h0, rev _ (by omega), ← ha]
      have e1 : k + (w.length - k - 1 - (j - 1)) = k + (w.length - k - 1 - j) + 1 := by omega
      rw [e1, List.getElem?_append_left (by omega)]
theorem cut_from {xs : List D} {k : Nat} : cutD xs (some (k : Nat)) none = xs.drop k := by
  unfold cutD
  rw [HT.sIx_nat, HT.sIx_none]
  rcases Nat.le_total k xs.length with h | h
  · rw [Nat.min_eq_left h, List.take_of_length_le]
    rw [List.length_drop]
    exact Nat.le_refl _
  · rw [Nat.min_eq_right h, List.drop_of_length_le (Nat.le_refl _), List.drop_of_length_le h]
    simp
theorem ints_nats : ∀ l : List Nat, intsD (nats l) = some (l.map Int.ofNat)
  | [] => rfl
  | a :: l => by
    have ih := ints_nats l
    show intsD (D.int (a : Nat) :: nats l) = _
    unfold intsD
    rw [ih]
    rfl
theorem idx_nats (x : Nat) : ∀ l : List Nat, x ∈ l → (l.map Int.ofNat).idxOf (x : Int) = l.idxOf x
  | [], h => by cases h
  | a :: l, h => by
    rw [List.map_cons, List.idxOf_cons, List.idxOf_cons]
    by_cases e : a = x
    · subst e
      simp
    · have hx : x ∈ l := by
        rcases List.mem_cons.mp h with h | h
        · exact absurd h.symm e
        · exact h
      have e2 : ¬ (Int.ofNat a) = (x : Int) := fun h => e (Int.ofNat.inj h)
      have b1 : (a == x) = false := by simpa using e
      have b2 : (Int.ofNat a == (x : Int)) = false := by simpa using e2
      rw [b1, b2, idx_nats x l hx]
theorem m_index_n {c x : Nat} {l : List Nat} (h : S[c]? = some (.lst (nats l))) (hx : x ∈ l) : mIndex (.cell c) [.int (x : Nat)] S = .ok (.int (l.idxOf x : Nat)) S := by
  unfold mIndex
  have e : (x : Int) ∈ l.map Int.ofNat := List.mem_map.mpr ⟨x, hx, rfl⟩
  have hT : isT (.cell c) = false := rfl
  simp only [hT, Bool.false_eq_true, if_false, it_cell h, ints_nats, e, if_true, idx_nats x l hx]
theorem ok_slL {c k : Nat} {xs : List D} (h : S[c]? = some (.lst xs)) : opSl (.cell c) (some (k : Nat)) none S = .ok (.cell S.length) (S ++ [.lst (xs.drop k)]) := by
  unfold opSl
  simp only [h, cut_from]
theorem ok_revL {de : DE} (h : Ok (de δ S) fun d S1 => ∃ c xs, d = .cell c ∧ S1[c]? = some (.lst xs) ∧ xs.length ≤ lim ∧ P (.cell S1.length) (S1 ++ [.lst xs.reverse])) : Ok (dRevL de δ S) P := by
  unfold dRevL
  rw [Ok_bnd]
  refine Ok.imp h ?_
  rintro _ S1 ⟨c, xs, rfl, hc, hl, hP⟩
  have hT : isT (.cell c) = false := rfl
  simp only [hT, Bool.false_eq_true, if_false, it_cell hc]
  rw [o_mkL]
  exact ⟨by rw [List.length_reverse]; exact hl, hP⟩
def bRr1 : DS := dSeq (dDrop (dMth mAppend (dVar 3) (dCons (dVar 4) dNil))) (dSet 4 (dBin opIx (dLc (srcA (dBin opIx (dVar 1) (dVar 4))) (.nm 5) (dB (dBin (opIn false) (dVar 5) (dVar 2))) (dVar 5) [5]) (dC (.int 0))))
def bRr2 : DS := dRet (dCall bTuple (dCons (dRevL (dSl (dVar 3) (dPart (dMth mIndex (dVar 3) (dCons (dVar 4) dNil))) dNoPart)) dNil))
theorem r_room_round {R : Nat} {rs : List D} {ws : List (List Stp)} (H : HOk R rs ws) : Ok (d_room_round [houseD rs ws] S) fun r S' => Kp [] S S' ∧ ((r = .non ∧ ¬ HasStuck (pre ws R) R) ∨ ∃ v : List Nat, r = .tup (nats v) ∧ RoundOk ws R v ∧ RoundIs ws R v ∧ HasStuck (pre ws R) R) := by
  have r6 := H.r6
  have eb : b_room_round = dSeq (dSet 1 (dCall d_rooms_ahead (dCons (dVar 0) dNil))) (dSeq (dSet 2 (dCall d_rooms_left (dCons (dVar 1) dNil))) (dSeq (dIfS (dB (dBin opEq (dVar 2) (dLst dNil))) (dRet (dC .non)) dSkip) (dSeq (dPar [3, 4] (dCons (dLst dNil) (dCons (dBin opIx (dVar 2) (dC (.int 0))) dNil))) (dSeq (dWhile (dB (dBin (opIn true) (dVar 4) (dVar 3))) bRr1) bRr2)))) := rfl
  obtain ⟨b1, hb1⟩ : ∃ b1, b1 = bRr1 := ⟨_, rfl⟩
  obtain ⟨b2, hb2⟩ : ∃ b2, b2 = bRr2 := ⟨_, rfl⟩
  rw [← hb1, ← hb2] at eb
  simp only [d_room_round, eb, startD, o_fn, o_seq, o_set, o_call, o_cons, o_nil, o_var]
  refine ⟨rfl, _, rfl, ?_⟩
  refine Ok.imp (r_rooms_ahead H) ?_
  rintro _ S1 ⟨k1, c, rfl, hcl, A⟩
  have A0 := A.nil
  refine ⟨_, rfl, ?_⟩
  refine Ok.imp (r_rooms_left (by omega) A0) ?_
  rintro _ S2 ⟨k2, lc, l, rfl, hlc, L⟩
  have A2 := A0.mono k2
  have k02 := k1.trans k2
  rw [o_ifS, o_B, o_bin]
  simp only [o_var]
  refine ⟨_, rfl, ?_⟩
  rw [o_lst, o_nil]
  refine ⟨by simp, ?_⟩
  have k3 : Kp [] S2 (S2 ++ [.lst []]) := Kp.app _ _ _
  have hlc3 := k3.get _ _ (by simp) hlc
  rw [p_eqNil hlc3 (rd_nats fun x hx => by have := L.lt x hx; omega) (by decide) (get_push _ _), Ok_ok]
  refine ⟨_, rfl, ?_⟩
  cases hle : l with
  | nil =>
    simp only [List.map_nil, List.isEmpty_nil, if_true, o_ret, o_c]
    exact ⟨k02.trans k3, .inl ⟨by trivial, fun h => L.has.mp h hle⟩⟩
  | cons x0 t =>
    have stk : HasStuck (pre ws R) R := L.has.mpr (by rw [hle]; simp)
    simp only [List.map_cons, List.isEmpty_cons, Bool.false_eq_true, if_false, o_skip, o_par, o_cons, o_nil, o_lst, o_bin, o_var, o_c]
    refine ⟨by simp, _, rfl, ?_⟩
    obtain ⟨S3, hS3⟩ : ∃ S3, S3 = S2 ++ [C.lst []] := ⟨_, rfl⟩
    rw [← hS3] at k3 hlc3 ⊢
    obtain ⟨F, hFd⟩ : ∃ F, F = S3.length := ⟨_, rfl⟩
    obtain ⟨S4, hS4⟩ : ∃ S4, S4 = S3 ++ [C.lst []] := ⟨_, rfl⟩
    rw [← hS4, ← hFd]
    have k34 : Kp [] S3 S4 := by rw [hS4]; exact Kp.app _ _ _
    have hlc4 := k34.get _ _ (by simp) hlc3
    have hF4 : S4[F]? = some (.lst (nats [])) := by rw [hS4, hFd]; exact get_push _ _
    have lcF : lc ≠ F := by have := lt_of_get hlc3; omega
    have A3 := A2.mono k3
    have A4 : AhAt [F] S4 c R ws := A3.fr (by omega) k34
    have kall : ∀ S5, Kp [F] S4 S5 → Kp [] S S5 := fun S5 k5 => k02.trans (k3.trans ⟨Nat.le_trans k34.le k5.le, fun n x hn hx => k5.get n x (by
      have := lt_of_get hx
      simp
      omega) (k34.get n x (by simp) hx)⟩)
    rw [p_ixL0 hlc4 (d := .int (x0 : Nat)) (by rw [hle]; rfl), Ok_ok]
    show ∃ δ', Tg.setAll [.nm 3, .nm 4] [.cell F, .int (x0 : Nat)] [some (houseD rs ws), some (.cell c), some (.cell lc), none, none, none] = some δ' ∧ _
    rw [setAll_cons, set_nm, Option.bind_some, setAll_cons, set_nm, Option.bind_some, setAll_nil]
    refine ⟨_, rfl, ?_⟩
    simp only [List.set_cons_succ, List.set_cons_zero]
    refine ok_while (fun m δ S' => Kp [F] S4 S' ∧ ∃ w x v5, δ = [some (houseD rs ws), some (.cell c), some (.cell lc), some (.cell F), some (.int (x : Nat)), v5] ∧ S'[F]? = some (.lst (nats w)) ∧ Wk (pre ws R) l w x ∧ m = R - w.length) R (by omega) ?_ ?_
    · exact ⟨Kp.refl _ _, [], x0, _, rfl, hF4, ⟨List.nodup_nil, (fun a ha => by cases ha), (by rw [hle]; exact List.mem_cons_self), (fun i a b h => by cases h), (by rw [hle]; rfl), (fun i a b h => by cases h)⟩, rfl⟩
    · rintro m δ S5 ⟨k5, w, x, v5, rfl, hF5, W, rfl⟩
      simp only [o_B, o_bin, o_var, List.getElem?_cons_succ, List.getElem?_cons_zero]
      refine ⟨_, rfl, _, rfl, ?_⟩
      rw [p_inN hF5, Ok_ok]
      refine ⟨_, rfl, ?_⟩
      have wl : w.length ≤ R := nodup_len R w W.nd fun a ha => L.lt a (W.mem a ha)
      by_cases hx : x ∈ w
      · rw [decide_eq_true hx]
        simp only [if_true, Bool.not_true, Bool.false_eq_true, if_false]
        rw [hb2]
        unfold bRr2
        have e1 := m_index_n hF5 hx
        simp only [o_ret, o_call, o_cons, o_nil]
        refine ok_revL ?_
        simp only [o_sl, o_part, o_noPart, o_mth, o_var, o_cons, o_nil, List.getElem?_cons_succ, List.getElem?_cons_zero]
        refine ⟨_, rfl, _, rfl, isL_cell hF5, _, rfl, ?_⟩
        rw [e1, Ok_ok]
        refine ⟨_, rfl, ?_⟩
        rw [ok_slL hF5, Ok_ok]
        have ed : (nats w).drop (w.idxOf x) = nats (w.drop (w.idxOf x)) := (List.map_drop ..).symm
        rw [ed]
        refine ⟨_, _, rfl, get_push _ _, ?_, ?_⟩
        · rw [List.length_map, List.length_drop, lim_eq]
          omega
        · have er : (nats (w.drop (w.idxOf x))).reverse = nats (w.drop (w.idxOf x)).reverse := List.map_reverse.symm
          rw [er, b_tupL (get_push _ _), Ok_ok]
          exact ⟨(kall _ k5).trans ((Kp.app _ _ _).push _), .inr ⟨_, rfl, W.fin H L.lt hx, ⟨l, w, x, L, W, hx, rfl⟩, stk⟩⟩
      · rw [decide_eq_false hx]
        simp only [if_true, Bool.not_false]
        rw [hb1]
        unfold bRr1
        have hwx := W.nd
        simp only [o_seq, o_drop, o_mth, o_var, o_cons, o_nil, List.getElem?_cons_succ, List.getElem?_cons_zero]
        refine ⟨_, rfl, isL_cell hF5, _, rfl, ?_⟩
        rw [m_app hF5 (by rw [List.length_map, lim_eq]; omega), Ok_ok]
        have ew : nats w ++ [D.int (x : Nat)] = nats (w ++ [x]) := by simp
        rw [ew]
        obtain ⟨S6, hS6⟩ : ∃ S6, S6 = S5.set F (C.lst (nats (w ++ [x]))) := ⟨_, rfl⟩
        rw [← hS6]
        have k6 : Kp [F] S4 S6 := by rw [hS6]; exact k5.set (.inr (by simp)) _
        have hF6 : S6[F]? = some (.lst (nats (w ++ [x]))) := by rw [hS6]; exact get_set hF5
        simp only [o_set, o_bin]
        have hxR := L.lt x W.xm
        obtain ⟨cj, ej, hcn, hcj⟩ := (A4.mono k6).row hxR
        have hlc6 := k6.get _ _ (by simp; exact lcF) hlc4
        have pl : (pre ws R x).length ≤ R := by
          have := List.length_filter_le (fun a => E ws a x) (List.range R)
          rw [List.length_range] at this
          exact this
        refine ok_lcAL (xs := nats (pre ws R x)) (c0 := cj) (intF fun a => decide (a ∈ l)) ?_ hcj (by rw [List.length_map, lim_eq]; omega) ?_ ?_
        · simp [ej, Kp.refl]
        · intro y hy S7 k7
          obtain ⟨a, ha, rfl⟩ := List.mem_map.mp hy
          refine ⟨_, set_nm, ?_⟩
          have := p_inN (neg := false) (k := a) (k7.get _ _ (by simp) hlc6)
          simp [wipeD, this, intF_n, Kp.refl]
          by_cases hm : a ∈ l <;> simp [hm, Kp.refl]
        · intro S7 c7 k7 hl7 hc7
          rw [intF_list] at hc7
          obtain ⟨y, ys, hys⟩ : ∃ y ys, (pre ws R x).filter (fun a => decide (a ∈ l)) = y :: ys := by
            obtain ⟨a, ha, hal⟩ := L.st x W.xm
            have : a ∈ (pre ws R x).filter (fun a => decide (a ∈ l)) := List.mem_filter.mpr ⟨ha, decide_eq_true hal⟩
            cases q : (pre ws R x).filter (fun a => decide (a ∈ l)) with
            | nil => rw [q] at this; cases this
            | cons y ys => exact ⟨y, ys, rfl⟩
          have hym : y ∈ (pre ws R x).filter (fun a => decide (a ∈ l)) := by rw [hys]; exact List.mem_cons_self
          obtain ⟨hy1, hy2⟩ := List.mem_filter.mp hym
          have hy2 := of_decide_eq_true hy2
          rw [hys] at hc7
          simp only [o_c]
          rw [p_ixL0 hc7 (d := .int (y : Nat)) rfl, Ok_ok]
          have W' := W.go hx hy1 hy2 (by rw [hys]; rfl)
          have wl' : (w ++ [x]).length ≤ R := nodup_len R _ W'.nd fun a ha => L.lt a (W'.mem a ha)
          refine ⟨R - (w ++ [x]).length, ?_, k6.trans k7.of, w ++ [x], y, _, rfl, k7.get _ _ (by simp) hF6, W', rfl⟩
          rw [List.length_append, List.length_singleton] at wl' ⊢
          omega
end
end Dn
set_option Elab.async false
set_option linter.all false
set_option maxRecDepth 100000
set_option maxHeartbeats 2000000
/-! Ba_k92: the bag. -/
noncomputable section
namespace Dn
open PySem L2
structure Deck (kd kg : Nat) (S : Sto) : Prop where
  ne : kd ≠ kg
  ex : ∃ (x y : Int) (gs : List Int), S[kd]? = some (.lst [.cell kg, .int x, .int y]) ∧ S[kg]? = some (.lst (gs.map D.int)) ∧ gs.length ≤ 63 ∧ (∀ g ∈ gs, 0 ≤ g) ∧ 0 ≤ x
section
variable {S S' : Sto} {kd kg : Nat} {δ : En} {Q : Po}
theorem allPy_ints {n : Nat} : ∀ l : List Int, allPy (toPy (n + 1) S) (l.map D.int) = some (l.map PyData.int)
  | [] => rfl
  | i :: l => by
    have ih := allPy_ints (n := n) l
    rw [List.map_cons, List.map_cons]
    unfold allPy
    rw [ih]
    rfl
theorem ints_lay : ∀ l : List Int, PyData.canLayAll0 (l.map PyData.int) = true ∧ PyData.depthAll (l.map PyData.int) = 0
  | [] => ⟨rfl, rfl⟩
  | i :: l => by
    obtain ⟨h1, h2⟩ := ints_lay l
    rw [List.map_cons]
    refine ⟨?_, ?_⟩
    · simp only [PyData.canLayAll0, PyData.canLay0, h1, Bool.and_self]
    · simp only [PyData.depthAll, PyData.depth, h2]
      rfl
/-- a list of any ints and the empty one -/
theorem eqI_nil {neg : Bool} {c c2 : Nat} {l : List Int} (hc : S[c]? = some (.lst (l.map D.int))) (hc2 : S[c2]? = some (.lst [])) : opEqG neg (.cell c) (.cell c2) S = .ok (.bl (if neg then !l.isEmpty else l.isEmpty)) S := by
  have e1 : toPy 60 S (.cell c) = some (.list (l.map PyData.int)) := by
    unfold toPy
    simp only [hc, allPy_ints (n := 58) l]
    rfl
  have e2 : toPy 60 S (.cell c2) = some (.list []) := by
    unfold toPy
    simp only [hc2]
    rfl
  obtain ⟨l1, l2⟩ := ints_lay l
  show opEqP neg (.cell c) (.cell c2) S = _
  unfold opEqP
  have s1 : SeqAt.shaped (.list (l.map PyData.int)) = true := by
    have hd : PyData.depth (.list (l.map PyData.int)) ≤ 64 := by
      simp only [PyData.depth]
      omega
    have hl : PyData.canLay0 (.list (l.map PyData.int)) = true := by simpa only [PyData.canLay0] using l1
    unfold SeqAt.shaped
    rw [hl, decide_eq_true hd]
    rfl
  have s2 : SeqAt.shaped (.list []) = true := by decide
  have e3 : PyData.eqv (.list (l.map PyData.int)) (.list []) = l.isEmpty := by
    cases l with
    | nil => simp [PyData.eqv, PyData.eqvAll]
    | cons x xs => simp [PyData.eqv, PyData.eqvAll]
  simp only [e1, e2, s1, s2, e3, Bool.and_self, if_true]
theorem p_neI0 {c c2 : Nat} {l : List Int} (hc : S[c]? = some (.lst (l.map D.int))) (hc2 : S[c2]? = some (.lst [])) : opNe (.cell c) (.cell c2) S = .ok (.bl (!l.isEmpty)) S := eqI_nil (neg := true) hc hc2
theorem Deck.keep (h : Deck kd kg S) (k : ∀ n c, (n = kd ∨ n = kg) → S[n]? = some c → S'[n]? = some c) : Deck kd kg S' := by
  obtain ⟨ne, x, y, gs, h1, h2, h3, h4, h5⟩ := h
  exact ⟨ne, x, y, gs, k _ _ (.inl rfl) h1, k _ _ (.inr rfl) h2, h3, h4, h5⟩
theorem Deck.kp (h : Deck kd kg S) (k : Kp [] S S') : Deck kd kg S' := h.keep fun n c _ e => k.get n c (by simp) e
theorem Deck.push (h : Deck kd kg S) (T : Sto) : Deck kd kg (S ++ T) := h.kp (Kp.app _ _ _)
theorem Deck.set (h : Deck kd kg S) {c : Nat} (hc : c ∉ [kd, kg]) (x : C) : Deck kd kg (S.set c x) := h.keep fun n c' hn e => by
  have : c ≠ n := fun z => hc (by rcases hn with rfl | rfl <;> simp [z])
  rw [List.getElem?_set_ne this]
  exact e
theorem Deck.lt (h : Deck kd kg S) : kd < S.length ∧ kg < S.length := by
  obtain ⟨ne, x, y, gs, h1, h2, _⟩ := h
  exact ⟨lt_of_get h1, lt_of_get h2⟩
theorem Deck.fresh (h : Deck kd kg S) {c : Nat} (hc : S.length ≤ c) : c ∉ [kd, kg] := by
  have := h.lt
  simp
  omega
theorem fmod_nat {x : Int} {n : Nat} (hn : 0 < n) : ∃ i : Nat, x.fmod (n : Int) = (i : Int) ∧ i < n := by
  have h1 : 0 ≤ x.fmod (n : Int) := Int.fmod_nonneg_of_pos x (by omega)
  have h2 : x.fmod (n : Int) < n := Int.fmod_lt_of_pos x (by omega)
  exact ⟨(x.fmod n).toNat, by omega, by omega⟩
theorem fmodI {x m : Int} (hm : 0 < m) : ∃ i : Nat, x.fmod m = (i : Int) ∧ (i : Int) < m := by
  have h1 : 0 ≤ x.fmod m := Int.fmod_nonneg_of_pos x hm
  have h2 : x.fmod m < m := Int.fmod_lt_of_pos x hm
  exact ⟨(x.fmod m).toNat, by omega, by omega⟩
theorem mb1 : (-(2 ^ 64) : Int) < 48271 ∧ (48271 : Int) < 2 ^ 64 := ⟨by omega, by omega⟩
theorem mz1 : (2147483647 : Int) ≠ 0 := by omega
theorem mz2 : (2147483629 : Int) ≠ 0 := by omega
theorem mp1 : (0 : Int) < 2147483647 := by omega
theorem ml1 {i : Nat} (h : (i : Int) < 2147483647) : (-(2 ^ 64) : Int) < i ∧ (i : Int) < 2 ^ 64 := ⟨by omega, by omega⟩
theorem mz7 : (7 : Int) ≠ 0 ∧ (7 : Int).natAbs < 1073741824 := ⟨by omega, by omega⟩
theorem mpow : (0 : Int) ≤ 9 ∧ (9 : Int) ≤ 1000000 ∧ (10 : Int).natAbs < 2 ^ 64 := ⟨by omega, by omega, by decide⟩
abbrev Dw (kd kg : Nat) (S S' : Sto) : Prop := Deck kd kg S' ∧ Kp [kd, kg] S S'
theorem ix3 {a b c : D} (h : S[kd]? = some (.lst [a, b, c])) : opIx (.cell kd) (.int 0) S = .ok a S ∧ opIx (.cell kd) (.int 1) S = .ok b S ∧ opIx (.cell kd) (.int 2) S = .ok c S := ⟨p_ix (n := 0) (it_cell h) rfl rfl, p_ix (n := 1) (it_cell h) rfl rfl, p_ix (n := 2) (it_cell h) rfl rfl⟩
theorem put3 {a b c d : D} (h : S[kd]? = some (.lst [a, b, c])) : putI (.cell kd) (.int 1) d S = some (S.set kd (.lst [a, d, c])) ∧ putI (.cell kd) (.int 2) d S = some (S.set kd (.lst [a, b, d])) := by
  constructor
  · exact putLI (j := 1) h (by simp)
  · exact putLI (j := 2) h (by simp)
def tD : DT := dAnd (dB (dBin opEq (dBin opIx (dVar 0) (dC (.int 1))) (dC (.int 0)))) (dB (dBin opNe (dBin opIx (dVar 0) (dC (.int 0))) (dLst dNil)))
def bD1 : DS := dSeq (dSet 2 (dMth mPop (dBin opIx (dVar 0) (dC (.int 0))) dNil)) (dIPut (dVar 0) (dC (.int 1)) (dIf (dB (dBin opGt (dVar 2) (dBin opPow (dC (.int 10)) (dC (.int 9))))) (dVar 2) (dC (.int 0))))
def bD2 : DS := dIfS (dB (dBin opGt (dBin opIx (dVar 0) (dC (.int 1))) (dC (.int 0)))) (dSeq (dSet 3 (dBin opMod (dBin opIx (dVar 0) (dC (.int 1))) (dVar 1))) (dSeq (dIPut (dVar 0) (dC (.int 1)) (dBin opFdiv (dBin opIx (dVar 0) (dC (.int 1))) (dVar 1))) (dRet (dVar 3)))) dSkip
def bD3 : DS := dIPut (dVar 0) (dC (.int 2)) (dBin opMod (dBin opAdd (dBin opMul (dBin opIx (dVar 0) (dC (.int 2))) (dC (.int 48271))) (dC (.int 11))) (dC (.int 2147483647)))
def bD4 : DS := dRet (dBin opMod (dBin opFdiv (dBin opMod (dBin opMul (dBin opIx (dVar 0) (dC (.int 2))) (dBin opIx (dVar 0) (dC (.int 2)))) (dC (.int 2147483629))) (dC (.int 7))) (dVar 1))
theorem t_bD1 {n : Int} {x y g : Int} {gs : List Int} {v2 v3 : Option D} (ne : kd ≠ kg) (h1 : S[kd]? = some (.lst [.cell kg, .int x, .int y])) (h2 : S[kg]? = some (.lst ((gs ++ [g]).map D.int))) (hg : 0 ≤ g)
    (hQ : ∀ S' x', 0 ≤ x' → Kp [kd, kg] S S' → S'[kd]? = some (.lst [.cell kg, .int x', .int y]) → S'[kg]? = some (.lst (gs.map D.int)) → Q.nx [some (.cell kd), some (.int n), some (.int g), v3] S') : OkS (bD1 [some (.cell kd), some (.int n), v2, v3] S) Q := by
  have h2' : S[kg]? = some (.lst (gs.map D.int ++ [.int g])) := by rw [h2]; simp
  unfold bD1
  simp only [o_seq, o_set, o_mth, o_bin, o_var, o_c, o_nil, List.getElem?_cons_succ, List.getElem?_cons_zero]
  refine ⟨_, rfl, ?_⟩
  rw [(ix3 h1).1, Ok_ok]
  refine ⟨isL_cell h2', ?_⟩
  rw [m_pop h2', Ok_ok]
  simp only [o_iput, o_if, o_B, o_bin, o_var, o_c, List.set_cons_succ, List.set_cons_zero, List.getElem?_cons_succ, List.getElem?_cons_zero]
  refine ⟨_, rfl, ?_⟩
  rw [p_pow mpow, Ok_ok]
  generalize (10 : Int) ^ (9 : Int).toNat = T
  rw [p_gt, Ok_ok]
  refine ⟨_, rfl, ?_⟩
  have e1 : (S.set kg (.lst (gs.map D.int)))[kd]? = some (.lst [.cell kg, .int x, .int y]) := by
    rw [List.getElem?_set_ne (Ne.symm ne)]
    exact h1
  have e2 := get_set (c' := C.lst (gs.map D.int)) h2'
  have k1 : Kp [kd, kg] S (S.set kg (.lst (gs.map D.int))) := (Kp.refl _ _).set (.inr (by simp)) _
  generalize S.set kg (.lst (gs.map D.int)) = S1 at e1 e2 k1
  have fin : ∀ x', 0 ≤ x' → ∃ S4, putI (.cell kd) (.int 1) (.int x') S1 = some S4 ∧ Q.nx [some (.cell kd), some (.int n), some (.int g), v3] S4 := fun x' hx => by
    refine ⟨_, (put3 e1).1, hQ _ x' hx (k1.set (.inr (by simp)) _) (get_set e1) ?_⟩
    rw [List.getElem?_set_ne ne]
    exact e2
  by_cases hT : T < g
  · rw [decide_eq_true hT, if_pos rfl]
    exact ⟨_, rfl, _, rfl, fin g hg⟩
  · rw [decide_eq_false hT, if_neg (by simp)]
    exact ⟨_, rfl, fin 0 (Int.le_refl _)⟩
theorem r_draw (Dk : Deck kd kg S) {n : Nat} (h1n : 1 ≤ n) (hn : n ≤ 1000000) : Ok (d_law_draw [.cell kd, .int (n : Nat)] S) fun r S' => ∃ i : Nat, r = .int (i : Nat) ∧ i < n ∧ Dw kd kg S S' := by
  have hn0 : ((n : Int)) ≠ 0 := by omega
  have eb : b_law_draw = dSeq (dWhile tD bD1) (dSeq bD2 (dSeq bD3 bD4)) := rfl
  obtain ⟨bd2, hb2⟩ : ∃ b, b = bD2 := ⟨_, rfl⟩
  obtain ⟨bd3, hb3⟩ : ∃ b, b = bD3 := ⟨_, rfl⟩
  obtain ⟨bd4, hb4⟩ : ∃ b, b = bD4 := ⟨_, rfl⟩
  rw [← hb2, ← hb3, ← hb4] at eb
  simp only [d_law_draw, eb, startD, o_fn, o_seq]
  refine ⟨rfl, ?_⟩
  obtain ⟨ne, x0, y0, gs0, e1, e2, hl, hg, hx⟩ := Dk
  refine ok_while (fun m δ S' => Kp [kd, kg] S S' ∧ ∃ (x : Int) (gs : List Int) (v2 v3 : Option D), δ = [some (.cell kd), some (.int (n : Nat)), v2, v3] ∧ S'[kd]? = some (.lst [.cell kg, .int x, .int y0]) ∧ S'[kg]? = some (.lst (gs.map D.int)) ∧ gs.length ≤ 63 ∧ (∀ g ∈ gs, 0 ≤ g) ∧ 0 ≤ x ∧ m = gs.length) gs0.length (by omega) ?_ ?_
  · exact ⟨Kp.refl _ _, x0, gs0, none, none, rfl, e1, e2, hl, hg, hx, rfl⟩
  · rintro m δ S1 ⟨k1, x, gs, v2, v3, rfl, e1, e2, hl, hg, hx, rfl⟩
    have done : ∀ S2, Kp [] S1 S2 → OkS (bd2 [some (.cell kd), some (.int (n : Nat)), v2, v3] S2) ⟨fun δ T => OkS (bd3 δ T) ⟨fun δ T => OkS (bd4 δ T) ⟨fun _ S' => ∃ i : Nat, D.non = .int (i : Nat) ∧ i < n ∧ Dw kd kg S S', fun r S' => ∃ i : Nat, r = .int (i : Nat) ∧ i < n ∧ Dw kd kg S S', noE, noE⟩, fun r S' => ∃ i : Nat, r = .int (i : Nat) ∧ i < n ∧ Dw kd kg S S', noE, noE⟩, fun r S' => ∃ i : Nat, r = .int (i : Nat) ∧ i < n ∧ Dw kd kg S S', noE, noE⟩ := by
      intro S2 k2
      have e1 := k2.get _ _ (by simp) e1
      have e2 := k2.get _ _ (by simp) e2
      have k02 := k1.trans k2.of
      rw [hb2]
      unfold bD2
      simp only [o_ifS, o_B, o_bin, o_var, o_c, List.getElem?_cons_succ, List.getElem?_cons_zero]
      refine ⟨_, rfl, ?_⟩
      rw [(ix3 e1).2.1, Ok_ok, p_gt, Ok_ok]
      refine ⟨_, rfl, ?_⟩
      by_cases hpos : 0 < x
      · rw [decide_eq_true hpos, if_pos rfl]
        simp only [o_seq, o_set, o_bin, o_var, o_c, List.getElem?_cons_succ, List.getElem?_cons_zero, List.set_cons_succ, List.set_cons_zero]
        refine ⟨_, rfl, ?_⟩
        rw [(ix3 e1).2.1, Ok_ok]
        refine ⟨_, rfl, ?_⟩
        rw [p_mod hn0, Ok_ok]
        obtain ⟨i, h5, h6⟩ := fmod_nat (x := x) (n := n) (by omega)
        rw [h5]
        simp only [o_iput, o_ret, o_bin, o_var, o_c, List.getElem?_cons_succ, List.getElem?_cons_zero, List.set_cons_succ, List.set_cons_zero]
        refine ⟨_, rfl, ?_⟩
        rw [(ix3 e1).2.1, Ok_ok]
        refine ⟨_, rfl, ?_⟩
        rw [p_fdiv hn0 (by omega), Ok_ok]
        refine ⟨_, rfl, _, (put3 e1).1, _, rfl, i, rfl, h6, ⟨ne, _, _, gs, get_set e1, ?_, hl, hg, Int.fdiv_nonneg hx (by omega)⟩, k02.set (.inr (by simp)) _⟩
        rw [List.getElem?_set_ne ne]
        exact e2
      · rw [decide_eq_false hpos, if_neg (by simp)]
        simp only [o_skip]
        rw [hb3]
        unfold bD3
        have hA := mb1
        have hM1 := mz1
        have hP1 := mp1
        have hL1 := @ml1
        have hZ := mz7
        generalize (48271 : Int) = A at *
        generalize (2147483647 : Int) = M1 at *
        simp only [o_iput, o_bin, o_var, o_c, List.getElem?_cons_succ, List.getElem?_cons_zero]
        refine ⟨_, rfl, ?_⟩
        rw [(ix3 e1).2.2, Ok_ok, p_mul (.inr hA), Ok_ok, p_add, Ok_ok, p_mod hM1, Ok_ok]
        obtain ⟨z, g1, g2⟩ := fmodI (x := y0 * A + 11) hP1
        rw [g1]
        refine ⟨_, rfl, _, (put3 e1).2, ?_⟩
        have f1 := get_set (c' := C.lst [.cell kg, .int x, .int (z : Int)]) e1
        have f2 : (S2.set kd (.lst [.cell kg, .int x, .int (z : Int)]))[kg]? = some (.lst (gs.map D.int)) := by
          rw [List.getElem?_set_ne ne]
          exact e2
        have k3 : Kp [kd, kg] S (S2.set kd (.lst [.cell kg, .int x, .int (z : Int)])) := k02.set (.inr (by simp)) _
        generalize S2.set kd (.lst [.cell kg, .int x, .int (z : Int)]) = S3 at f1 f2 k3
        rw [hb4]
        unfold bD4
        have hM2 := mz2
        generalize (2147483629 : Int) = M2 at *
        simp only [o_ret, o_bin, o_var, o_c, List.getElem?_cons_succ, List.getElem?_cons_zero]
        refine ⟨_, rfl, ?_⟩
        rw [(ix3 f1).2.2, Ok_ok]
        refine ⟨_, rfl, ?_⟩
        rw [(ix3 f1).2.2, Ok_ok, p_mul (.inl (hL1 g2)), Ok_ok, p_mod hM2, Ok_ok, p_fdiv hZ.1 hZ.2, Ok_ok]
        refine ⟨_, rfl, ?_⟩
        rw [p_mod hn0, Ok_ok]
        obtain ⟨i, h5, h6⟩ := fmod_nat (x := (((z : Int) * z).fmod M2).fdiv 7) (n := n) (by omega)
        exact ⟨i, by rw [h5], h6, ⟨ne, x, z, gs, f1, f2, hl, hg, hx⟩, k3⟩
    unfold tD
    simp only [o_and, o_B, o_bin, o_var, o_c, List.getElem?_cons_succ, List.getElem?_cons_zero]
    refine ⟨_, rfl, ?_⟩
    rw [(ix3 e1).2.1, Ok_ok, p_eqI, Ok_ok]
    refine ⟨_, rfl, ?_⟩
    by_cases hx0 : x = 0
    · rw [decide_eq_true hx0, if_pos rfl]
      simp only [o_B, o_bin, o_var, o_c, o_lst, o_nil, List.getElem?_cons_succ, List.getElem?_cons_zero]
      refine ⟨_, rfl, ?_⟩
      rw [(ix3 e1).1, Ok_ok]
      refine ⟨by simp, ?_⟩
      have kk : Kp [] S1 (S1 ++ [.lst []]) := Kp.app _ _ _
      rw [p_neI0 (kk.get _ _ (by simp) e2) (get_push _ _), Ok_ok]
      refine ⟨_, rfl, ?_⟩
      by_cases hgs : gs = []
      · subst hgs
        have ee : (!([] : List Int).isEmpty) = false := rfl
        rw [ee, if_neg (by simp)]
        exact done _ kk
      · obtain ⟨l, g, hlg⟩ : ∃ l g, gs = l ++ [g] := ⟨gs.dropLast, gs.getLast hgs, (List.dropLast_concat_getLast hgs).symm⟩
        subst hlg
        have ee : (!(l ++ [g]).isEmpty) = true := by simp
        rw [ee, if_pos rfl]
        refine t_bD1 ne (kk.get _ _ (by simp) e1) (kk.get _ _ (by simp) e2) (hg g (by simp)) ?_
        intro S3 x' hx' k3 e1' e2'
        refine ⟨l.length, by simp, (k1.trans kk.of).trans k3, x', l, _, _, rfl, e1', e2', by simp at hl; omega, fun z hz => hg z (by simp [hz]), hx', rfl⟩
    · rw [decide_eq_false hx0, if_neg (by simp)]
      rw [if_neg (by simp)]
      exact done _ (Kp.refl _ _)
theorem r_pick (Dk : Deck kd kg S) {c : Nat} {xs : List D} (hc : S[c]? = some (.lst xs)) (hn : c ∉ [kd, kg]) (hne : xs ≠ []) (hl : xs.length ≤ 1000) : Ok (d_law_pick [.cell kd, .cell c] S) fun r S' => r ∈ xs ∧ Dw kd kg S S' := by
  have hpos : 1 ≤ xs.length := List.length_pos_iff.mpr hne
  simp [d_law_pick, b_law_pick, startD, b_lenL hc]
  refine Ok.imp (r_draw Dk (n := xs.length) hpos (by omega)) ?_
  rintro r S1 ⟨i, rfl, hi', D1, k1⟩
  rw [p_ixL (k1.get _ _ hn hc) (List.getElem?_eq_getElem hi')]
  simp
  exact ⟨D1, k1⟩
end
end Dn
set_option Elab.async false
set_option linter.all false
set_option maxRecDepth 100000
set_option maxHeartbeats 2000000
/-! Bb_k92: the bag laid. -/
noncomputable section
namespace Dn
open PySem L2
section
variable {S S' : Sto} {kd kg : Nat} {δ : En} {Q : Po} {P : D → Sto → Prop}
theorem o_slRo {xs : List D} {lo hi : Option Int} : Ok (opSl (.ro xs) lo hi S) P = P (.cell S.length) (S ++ [.lst (cutD xs lo hi)]) := rfl
theorem ok_listRev {de : DE} (h : Ok (de δ S) fun d S1 => ∃ c xs, d = .cell c ∧ S1[c]? = some (.lst xs) ∧ xs.length ≤ lim ∧ P (.cell S1.length) (S1 ++ [.lst xs.reverse])) : Ok (dListRev de δ S) P := by
  unfold dListRev
  rw [Ok_bnd]
  refine Ok.imp h ?_
  rintro _ S1 ⟨c, xs, rfl, hc, hl, hP⟩
  have hT : isT (.cell c) = false := rfl
  simp only [hT, Bool.false_eq_true, if_false, it_cell hc]
  rw [o_mkL]
  exact ⟨by rw [List.length_reverse]; exact hl, hP⟩
def bO1 : DS := dSet 3 (dBin opAdd (dC (.int 2468)) (dCall bLen (dCons (dVar 2) dNil)))
def bO2 : DS := dSet 3 (dBin opMod (dBin opAdd (dBin opAdd (dBin opMul (dVar 3) (dC (.int 48271))) (dBin opMod (dVar 1) (dC (.int 2147483629)))) (dC (.int 7))) (dC (.int 2147483647)))
theorem r_own_bag {ns : List Int} : Ok (d_law_own_bag [.ro (ns.map D.int)] []) fun r S' => ∃ kd kg, r = .cell kd ∧ Deck kd kg S' := by
  have e63 : cutD (ns.map D.int) none (some 63) = (ns.take 63).map D.int := by
    have := cut_to (xs := ns.map D.int) (k := 63)
    rw [List.map_take]
    exact this
  have tl : (ns.take 63).length ≤ 63 := by rw [List.length_take]; omega
  generalize hl0 : ns.take 63 = l0 at e63 tl
  obtain ⟨b1, hb1⟩ : ∃ b, b = bO1 := ⟨_, rfl⟩
  obtain ⟨b2, hb2⟩ : ∃ b, b = bO2 := ⟨_, rfl⟩
  have eb : b_law_own_bag = dSeq (dSet 2 (dLc (srcA (dSl (dVar 0) dNoPart (dPart (dC (.int 63))))) (.nm 1) dYes (dCall bAbs (dCons (dVar 1) dNil)) [1])) (dSeq bO1 (dSeq (dFor (srcA (dVar 2)) (.nm 1) bO2) (dRet (dLst (dCons (dListRev (dVar 2)) (dCons (dC (.int 0)) (dCons (dVar 3) dNil))))))) := rfl
  rw [← hb1, ← hb2] at eb
  simp only [d_law_own_bag, eb, startD, o_fn, o_seq, o_set]
  refine ⟨rfl, ?_⟩
  refine ok_lc (s0 := .seq (.cell 0)) (N := l0.length) (c := 1) (item := fun i => .int (l0[i]?.getD 0)) (fun i S' acc => S'[0]? = some (.lst (l0.map D.int)) ∧ S'[1]? = some (.lst acc) ∧ acc.length = i ∧ ∃ gs : List Int, acc = gs.map D.int ∧ ∀ g ∈ gs, 0 ≤ g) ?_ ?_ ?_ ?_ ?_
  · simp only [o_srcA, o_sl, o_var, o_noPart, o_part, o_c]
    refine ⟨_, rfl, _, rfl, ?_⟩
    rw [o_slRo, e63]
    exact .inr ⟨rfl, .inl rfl, rfl, rfl, rfl, rfl, rfl, [], rfl, fun g hg => by cases hg⟩
  · rintro i S1 acc ⟨h0, _⟩
    simp [Src.len, it_cell h0]
  · rintro i S1 acc hi ⟨h0, _⟩
    simp [Src.item, it_cell h0, hi]
  · rintro i S1 acc hi ⟨h0, h1, hal, gs, rfl, hg⟩
    refine ⟨_, set_nm, ?_⟩
    simp [wipeD]
    have hal2 : gs.length = i := by rw [List.length_map] at hal; exact hal
    refine ⟨h1, by rw [lim_eq]; omega, ?_, get_set h1, hal2, gs ++ [if (l0[i]?.getD 0) < 0 then -(l0[i]?.getD 0) else l0[i]?.getD 0], by simp [hi], fun g hg2 => ?_⟩
    · exact h0
    · rcases List.mem_append.mp hg2 with h | h
      · exact hg g h
      · rw [List.mem_singleton.mp h]
        split <;> omega
  · rintro S1 acc ⟨h0, h1, hal, gs, rfl, hg⟩
    have hal2 : gs.length = l0.length := by rw [List.length_map] at hal; exact hal
    rw [hb1]
    unfold bO1
    simp only [o_set, o_bin, o_c, o_call, o_cons, o_nil, o_var, List.set_cons_succ, List.set_cons_zero, List.map_cons, List.map_nil]
    refine ⟨_, rfl, ?_⟩
    rw [b_lenL h1, Ok_ok, p_add, Ok_ok]
    generalize (2468 : Int) + _ = m0
    refine ok_forAL (xs := gs.map D.int) (c := 1) (fun i δ S' => S' = S1 ∧ ∃ v1 m, δ = [some (.ro (ns.map D.int)), v1, some (.cell 1), some (.int m)]) ?_ ?_ ?_ ?_
    · simp only [o_var]
      exact ⟨_, rfl, by trivial, by trivial, _, _, rfl⟩
    · rintro i δ S' ⟨rfl, _⟩
      exact h1
    · rintro i δ S' x hx ⟨rfl, v1, m, rfl⟩
      obtain ⟨z, hz, rfl⟩ := map_get hx
      refine ⟨_, set_nm, ?_⟩
      rw [hb2]
      unfold bO2
      have hA := mb1
      have hM1 := mz1
      have hM2 := mz2
      generalize (48271 : Int) = A at *
      generalize (2147483647 : Int) = M1 at *
      generalize (2147483629 : Int) = M2 at *
      simp only [o_set, o_bin, o_var, o_c, List.getElem?_cons_succ, List.getElem?_cons_zero, List.set_cons_succ, List.set_cons_zero]
      refine ⟨_, rfl, ?_⟩
      rw [p_mul (.inr hA), Ok_ok]
      refine ⟨_, rfl, ?_⟩
      rw [p_mod hM2, Ok_ok, p_add, Ok_ok, p_add, Ok_ok, p_mod hM1, Ok_ok]
      exact ⟨rfl, _, _, rfl⟩
    · rintro δ S' ⟨rfl, v1, m, rfl⟩
      simp only [o_ret, o_lst, o_cons, o_nil]
      refine ok_listRev ?_
      simp only [o_var]
      refine ⟨_, rfl, 1, gs.map D.int, rfl, h1, by rw [List.length_map, lim_eq]; omega, ?_⟩
      simp only [o_c, o_var]
      refine ⟨_, rfl, by simp [lim_eq], _, S'.length, rfl, ?_⟩
      have er : (gs.map D.int).reverse = gs.reverse.map D.int := List.map_reverse.symm
      rw [er]
      refine ⟨by simp, 0, m, gs.reverse, get_push _ _, (Kp.app [] (S' ++ [C.lst (gs.reverse.map D.int)]) _).get _ _ (by simp) (get_push _ _), by rw [List.length_reverse]; omega, fun g hg2 => hg g (List.mem_reverse.mp hg2), Int.le_refl _⟩
end
end Dn
set_option Elab.async false
set_option linter.all false
set_option maxRecDepth 100000
set_option maxHeartbeats 2000000
/-! Bc_k92: one way drawn, in plain lists; its steps in the walk. -/
noncomputable section
namespace Dn
open PySem L2
structure WayOk (R : Nat) (w : List Stp) : Prop where
  nest : Nest w
  inr : ∀ b t, Stp.inn b t ∈ w → t.1 < R
  outr : ∀ r, Stp.out r ∈ w → r < R
  len : w.length ≤ 24
  self : ∀ (k : Nat) (b : Bool) (t : Th), w[k]? = some (.inn b t) → t.1 ∉ (heldT w k).map (·.1)
structure WI (R most : Nat) (stack : List Nat) (way : List Stp) : Prop where
  st : (heldT way way.length).map (·.1) = stack
  nest : Nest way
  inr : ∀ b t, Stp.inn b t ∈ way → t.1 < R
  outr : ∀ r, Stp.out r ∈ way → r < R
  self : ∀ (k : Nat) (b : Bool) (t : Th), way[k]? = some (.inn b t) → t.1 ∉ (heldT way k).map (·.1)
  stR : ∀ a ∈ stack, a < R
  lenb : way.length + stack.length ≤ most
theorem heldT_app {w l : List Stp} {k : Nat} (h : k ≤ w.length) : heldT (w ++ l) k = heldT w k := by
  unfold heldT
  rw [List.take_append_of_le_length h]
theorem heldT_snoc {w : List Stp} {s : Stp} : heldT (w ++ [s]) (w.length + 1) = pushT (heldT w w.length) s := by
  have h : (w ++ [s])[w.length]? = some s := by simp
  rw [heldT_succ h, heldT_app (Nat.le_refl _)]
theorem snoc_get {w : List Stp} {s x : Stp} {k : Nat} (h : (w ++ [s])[k]? = some x) : (k < w.length ∧ w[k]? = some x) ∨ (k = w.length ∧ x = s) := by
  have hk := (List.getElem?_eq_some_iff.mp h).1
  rw [List.length_append, List.length_singleton] at hk
  by_cases hlt : k < w.length
  · rw [List.getElem?_append_left hlt] at h
    exact .inl ⟨hlt, h⟩
  · have : k = w.length := by omega
    subst this
    simp at h
    exact .inr ⟨rfl, h.symm⟩
theorem WI.push {R most r : Nat} {stack : List Nat} {way : List Stp} {b m : Bool} (h : WI R most stack way) (hr : r < R) (hn : r ∉ stack) (hl : way.length + stack.length + 2 ≤ most) : WI R most (stack ++ [r]) (way ++ [.inn b (r, m)]) := by
  refine ⟨?_, fun k q hk => ?_, fun b' t hm => ?_, fun q hm => ?_, fun k b' t hk => ?_, fun a ha => ?_, ?_⟩
  · rw [List.length_append, List.length_singleton, heldT_snoc]
    show ((heldT way way.length) ++ [(r, m)]).map _ = _
    rw [List.map_append, h.st]
    rfl
  · rcases snoc_get hk with ⟨h1, h2⟩ | ⟨h1, h2⟩
    · rw [heldT_app (Nat.le_of_lt h1)]
      exact h.nest k q h2
    · cases h2
  · rcases List.mem_append.mp hm with hm | hm
    · exact h.inr b' t hm
    · have := List.mem_singleton.mp hm
      cases this
      exact hr
  · rcases List.mem_append.mp hm with hm | hm
    · exact h.outr q hm
    · have := List.mem_singleton.mp hm
      cases this
  · rcases snoc_get hk with ⟨h1, h2⟩ | ⟨h1, h2⟩
    · rw [heldT_app (Nat.le_of_lt h1)]
      exact h.self k b' t h2
    · cases h2
      subst h1
      rw [heldT_app (Nat.le_refl _), h.st]
      exact hn
  · rcases List.mem_append.mp ha with ha | ha
    · exact h.stR a ha
    · rw [List.mem_singleton.mp ha]
      exact hr
  · simp
    omega
theorem WI.pop {R most r : Nat} {stack : List Nat} {way : List Stp} (h : WI R most (stack ++ [r]) way) : WI R most stack (way ++ [.out r]) := by
  have hr : r < R := h.stR r (by simp)
  refine ⟨?_, fun k q hk => ?_, fun b' t hm => ?_, fun q hm => ?_, fun k b' t hk => ?_, fun a ha => ?_, ?_⟩
  · rw [List.length_append, List.length_singleton, heldT_snoc]
    show ((heldT way way.length).dropLast).map _ = _
    rw [List.map_dropLast, h.st]
    simp
  · rcases snoc_get hk with ⟨h1, h2⟩ | ⟨h1, h2⟩
    · rw [heldT_app (Nat.le_of_lt h1)]
      exact h.nest k q h2
    · subst h1
      rw [heldT_app (Nat.le_refl _)]
      intro z
      have := h.st
      rw [z] at this
      simp at this
  · rcases List.mem_append.mp hm with hm | hm
    · exact h.inr b' t hm
    · have := List.mem_singleton.mp hm
      cases this
  · rcases List.mem_append.mp hm with hm | hm
    · exact h.outr q hm
    · have := List.mem_singleton.mp hm
      cases this
      exact hr
  · rcases snoc_get hk with ⟨h1, h2⟩ | ⟨h1, h2⟩
    · rw [heldT_app (Nat.le_of_lt h1)]
      exact h.self k b' t h2
    · cases h2
  · exact h.stR a (List.mem_append_left _ ha)
  · have := h.lenb
    simp at this ⊢
    omega
theorem WI.nil {R most : Nat} : WI R most [] [] := ⟨rfl, (fun k q h => by cases h), (fun b t h => by cases h), (fun r h => by cases h), (fun k b t h => by cases h), (fun a h => by cases h), Nat.zero_le _⟩
theorem WI.ok {R most : Nat} {stack : List Nat} {way : List Stp} (h : WI R most stack way) (hm : most ≤ 24) : WayOk R way := ⟨h.nest, h.inr, h.outr, by have := h.lenb; omega, h.self⟩
section
variable {S S' S0 : Sto} {kd kg s y rc R most : Nat} {δ : En} {Q : Po} {P : D → Sto → Prop} {K : List Nat}
theorem rd_sm {i : Nat} (h : i < 100) : Rd K 0 7 S (.int (i : Nat)) := rd_int (b := 6) (by omega) (by decide) (by decide)
theorem rd_mD {b : Bool} : Rd K 0 7 S (mD b) := by cases b <;> exact rd_str (by decide +kernel) (by decide +kernel)
theorem rd_wD {b : Bool} : Rd K 0 7 S (wD b) := by cases b <;> exact rd_str (by decide +kernel) (by decide +kernel)
theorem rd_out : Rd K 0 7 S (.str "out") := rd_str (by decide +kernel) (by decide +kernel)
theorem rd_stp {x : Stp} (h1 : ∀ b t, x = .inn b t → t.1 < 100) (h2 : ∀ r, x = .out r → r < 100) : Rd K 1 24 S x.d := by
  cases x with
  | out r => exact rd_tup (k := 0) (w := 7) (fun z hz => by
      simp at hz
      rcases hz with rfl | rfl
      · exact rd_out
      · exact rd_sm (h2 r rfl)) (Nat.le_refl _) (by simp)
  | inn b t => exact rd_tup (k := 0) (w := 7) (fun z hz => by
      simp at hz
      rcases hz with rfl | rfl | rfl
      · exact rd_wD
      · exact rd_sm (h1 b t rfl)
      · exact rd_mD) (Nat.le_refl _) (by simp)
theorem rd_stps {w : List Stp} (hR : R ≤ 100) (h1 : ∀ b t, Stp.inn b t ∈ w → t.1 < R) (h2 : ∀ r, Stp.out r ∈ w → r < R) : ∀ x ∈ w.map Stp.d, Rd K 1 24 S x := fun x hx => by
  obtain ⟨z, hz, rfl⟩ := List.mem_map.mp hx
  refine rd_stp (fun b t e => ?_) (fun r e => ?_)
  · have := h1 b t (e ▸ hz)
    omega
  · have := h2 r (e ▸ hz)
    omega
theorem rd_way {w : List Stp} (hR : R ≤ 100) (h : WayOk R w) : Rd K 2 600 S (wayD w) := rd_tup (k := 1) (w := 24) (rd_stps hR h.inr h.outr) (Nat.le_refl _) (by
  have := h.len
  rw [List.length_map]
  omega)
structure WC (kd kg s y rc : Nat) : Prop where
  hs : s ∉ [kd, kg]
  hy : y ∉ [kd, kg]
  sy : s ≠ y
  hrc : rc ∉ [s, y, kd, kg]
structure WS (kd kg s y rc R : Nat) (S0 S : Sto) (stack : List Nat) (way : List Stp) : Prop where
  dk : Deck kd kg S
  kp : Kp [s, y, kd, kg] S0 S
  st : S[s]? = some (.lst (nats stack))
  wy : S[y]? = some (.lst (way.map Stp.d))
  rm : S[rc]? = some (.lst (nats (List.range R)))
theorem WS.keep {stack : List Nat} {way : List Stp} (h : WS kd kg s y rc R S0 S stack way) (k : Kp [] S S') : WS kd kg s y rc R S0 S' stack way := ⟨h.dk.kp k, h.kp.trans k.of, k.get _ _ (by simp) h.st, k.get _ _ (by simp) h.wy, k.get _ _ (by simp) h.rm⟩
theorem Kp.sub {K K' : List Nat} (h : Kp K S S') (hs : ∀ x ∈ K, x ∈ K') : Kp K' S S' := ⟨h.le, fun n c hn e => h.get n c (fun z => hn (hs n z)) e⟩
theorem WS.dw {stack : List Nat} {way : List Stp} (c : WC kd kg s y rc) (h : WS kd kg s y rc R S0 S stack way) (d : Dw kd kg S S') : WS kd kg s y rc R S0 S' stack way := ⟨d.1, h.kp.trans (d.2.sub (by simp)), d.2.get _ _ c.hs h.st, d.2.get _ _ c.hy h.wy, d.2.get _ _ (fun z => c.hrc (by simp at z ⊢; omega)) h.rm⟩
theorem WS.draw {stack : List Nat} {way : List Stp} (c : WC kd kg s y rc) (h : WS kd kg s y rc R S0 S stack way) {n : Nat} (h1 : 1 ≤ n) (h2 : n ≤ 1000000) {P : D → Sto → Prop} (hP : ∀ (i : Nat) S', i < n → WS kd kg s y rc R S0 S' stack way → Kp [kd, kg] S S' → P (.int (i : Nat)) S') : Ok (d_law_draw [.cell kd, .int (n : Nat)] S) P := by
  refine Ok.imp (r_draw h.dk h1 h2) ?_
  rintro _ S1 ⟨i, rfl, hi, d⟩
  exact hP i S1 hi (h.dw c d) d.2
end
end Dn
set_option Elab.async false
set_option linter.all false
set_option maxRecDepth 100000
set_option maxHeartbeats 2000000
/-! Bd_k92: the way drawn: one step in, one step out. -/
noncomputable section
namespace Dn
open PySem L2
section
variable {S S' S0 : Sto} {kd kg s y rc R most : Nat} {δ : En} {Q : Po} {P : D → Sto → Prop} {K : List Nat}
theorem o_ifC {ta : DT} {x y : D} : Ok (dIf ta (dC x) (dC y) δ S) P = Ok (ta δ S) fun b S1 => P (if b = true then x else y) S1 := by
  rw [o_if]
  congr
  funext b S1
  cases b <;> rfl
def bW1 : DS := dSet 6 (dLc (srcA (dVar 1)) (.nm 10) (dB (dBin (opIn true) (dVar 10) (dVar 4))) (dVar 10) [10])
def bW2 : DS := dSet 7 (dAndV (dBin opNe (dVar 6) (dLst dNil)) (dAndV (dBin opLt (dCall bLen (dCons (dVar 4) dNil)) (dC (.int 3))) (dBin opLe (dBin opAdd (dBin opAdd (dCall bLen (dCons (dVar 5) dNil)) (dCall bLen (dCons (dVar 4) dNil))) (dC (.int 2))) (dVar 2))))
def tW2 : DT := dAnd (dB (dVar 7)) (dOr (dB (dBin opEq (dVar 4) (dLst dNil))) (dB (dBin opGt (dCall d_law_draw (dCons (dVar 0) (dCons (dC (.int 5)) dNil))) (dC (.int 1)))))
def bW3 : DS := dSeq (dSet 8 (dIf (dB (dBin opLt (dCall d_law_draw (dCons (dVar 0) (dCons (dC (.int 6)) dNil))) (dBin opIx (dVar 3) (dC (.int 0))))) (dC (.str "try")) (dC (.str "in")))) (dSeq (dSet 9 (dIf (dB (dBin opLt (dCall d_law_draw (dCons (dVar 0) (dCons (dC (.int 6)) dNil))) (dBin opIx (dVar 3) (dC (.int 1))))) (dC (.str "beside")) (dC (.str "alone")))) (dSeq (dDrop (dMth mAppend (dVar 4) (dCons (dCall d_law_pick (dCons (dVar 0) (dCons (dVar 6) dNil))) dNil))) (dDrop (dMth mAppend (dVar 5) (dCons (dTup (dCons (dVar 8) (dCons (dBin opIx (dVar 4) (dNeg (dC (.int 1)))) (dCons (dVar 9) dNil)))) dNil)))))
def bW4 : DS := dDrop (dMth mAppend (dVar 5) (dCons (dTup (dCons (dC (.str "out")) (dCons (dMth mPop (dVar 4) dNil) dNil))) dNil))
def tW : DT := dOr (dB (dBin opEq (dVar 5) (dLst dNil))) (dOr (dB (dBin opNe (dVar 4) (dLst dNil))) (dAnd (dB (dBin opLe (dBin opAdd (dCall bLen (dCons (dVar 5) dNil)) (dC (.int 2))) (dVar 2))) (dB (dBin opGt (dCall d_law_draw (dCons (dVar 0) (dCons (dC (.int 3)) dNil))) (dC (.int 0))))))
def bW : DS := dSeq bW1 (dSeq bW2 (dIfS tW2 bW3 bW4))
theorem t_push {fc : Nat} {q0 q1 : Int} {stack free : List Nat} {way : List Stp} {v7 v8 v9 v10 : Option D} (c : WC kd kg s y rc) (W : WS kd kg s y rc R S0 S stack way) (I : WI R most stack way)
    (hfc : S[fc]? = some (.lst (nats free))) (hfn : fc ∉ [s, y, kd, kg]) (hne : free ≠ []) (hfl : free.length ≤ 100) (hfr : ∀ a ∈ free, a < R ∧ a ∉ stack) (hl : way.length + stack.length + 2 ≤ most) (hm : most ≤ 24)
    (hQ : ∀ S' v8' v9' r b m, WS kd kg s y rc R S0 S' (stack ++ [r]) (way ++ [.inn b (r, m)]) → WI R most (stack ++ [r]) (way ++ [.inn b (r, m)]) → Q.nx [some (.cell kd), some (.cell rc), some (.int (most : Nat)), some (.tup [.int q0, .int q1]), some (.cell s), some (.cell y), some (.cell fc), v7, v8', v9', v10] S') :
    OkS (bW3 [some (.cell kd), some (.cell rc), some (.int (most : Nat)), some (.tup [.int q0, .int q1]), some (.cell s), some (.cell y), some (.cell fc), v7, v8, v9, v10] S) Q := by
  unfold bW3
  have hfn2 : fc ∉ [kd, kg] := fun z => hfn (by simp at z ⊢; omega)
  simp only [o_seq, o_set, o_drop, o_ifC, o_B, o_bin, o_call, o_cons, o_nil, o_var, o_c, o_mth, o_tup, o_neg, List.getElem?_cons_succ, List.getElem?_cons_zero, List.set_cons_succ, List.set_cons_zero]
  refine ⟨_, rfl, ?_⟩
  refine W.draw c (n := 6) (by decide) (by decide) ?_
  intro i1 S1 hi1 W1 k1
  refine ⟨_, rfl, ?_⟩
  rw [p_ixT0, Ok_ok, p_lt, Ok_ok]
  refine ⟨_, rfl, ?_⟩
  generalize decide ((i1 : Int) < q0) = b
  refine ⟨_, rfl, ?_⟩
  refine W1.draw c (n := 6) (by decide) (by decide) ?_
  intro i2 S2 hi2 W2 k2
  refine ⟨_, rfl, ?_⟩
  rw [p_ixT1, Ok_ok, p_lt, Ok_ok]
  refine ⟨_, rfl, ?_⟩
  generalize decide ((i2 : Int) < q1) = m
  refine ⟨_, rfl, isL_cell W2.st, _, rfl, _, rfl, ?_⟩
  have hfc2 := k2.get _ _ hfn2 (k1.get _ _ hfn2 hfc)
  refine Ok.imp (r_pick W2.dk hfc2 hfn2 (by cases free with | nil => exact absurd rfl hne | cons _ _ => simp) (by rw [List.length_map]; omega)) ?_
  rintro _ S3 ⟨hrm, d3⟩
  obtain ⟨r, hr, rfl⟩ := List.mem_map.mp hrm
  have W3 := W2.dw c d3
  obtain ⟨hrR, hrs⟩ := hfr r hr
  rw [m_app W3.st (by rw [List.length_map, lim_eq]; omega), Ok_ok]
  have e1 : nats stack ++ [D.int (r : Nat)] = nats (stack ++ [r]) := by simp
  have hs4 := get_set (c' := C.lst (nats stack ++ [D.int (r : Nat)])) W3.st
  have hy4 : (S3.set s (.lst (nats stack ++ [D.int (r : Nat)])))[y]? = some (.lst (way.map Stp.d)) := by
    rw [List.getElem?_set_ne c.sy]
    exact W3.wy
  have hrc4 : (S3.set s (.lst (nats stack ++ [D.int (r : Nat)])))[rc]? = some (.lst (nats (List.range R))) := by
    rw [List.getElem?_set_ne (fun z => c.hrc (by simp [z]))]
    exact W3.rm
  have d4 := W3.dk.set c.hs (.lst (nats stack ++ [D.int (r : Nat)]))
  have k4 : Kp [s, y, kd, kg] S0 (S3.set s (.lst (nats stack ++ [D.int (r : Nat)]))) := W3.kp.set (.inr (by simp)) _
  generalize S3.set s (.lst (nats stack ++ [D.int (r : Nat)])) = S4 at hs4 hy4 hrc4 d4 k4
  refine ⟨_, rfl, isL_cell hy4, _, rfl, _, rfl, _, rfl, ?_⟩
  rw [p_ixLast hs4, Ok_ok]
  refine ⟨_, rfl, by simp [lim_eq], ?_⟩
  rw [m_app hy4 (by rw [List.length_map, lim_eq]; omega), Ok_ok]
  have e2 : way.map Stp.d ++ [D.tup [if b = true then .str "try" else .str "in", .int (r : Nat), if m = true then .str "beside" else .str "alone"]] = (way ++ [Stp.inn b (r, m)]).map Stp.d := by
    rw [List.map_append]
    cases b <;> cases m <;> rfl
  rw [e2]
  refine hQ _ _ _ r b m ⟨d4.set c.hy _, k4.set (.inr (by simp)) _, ?_, get_set hy4, ?_⟩ (I.push hrR hrs hl)
  · rw [List.getElem?_set_ne (Ne.symm c.sy), hs4, e1]
  · rw [List.getElem?_set_ne (fun z => c.hrc (by simp [z]))]
    exact hrc4
theorem t_pop {q0 q1 : Int} {stack : List Nat} {r : Nat} {way : List Stp} {v6 v7 v8 v9 v10 : Option D} (c : WC kd kg s y rc) (W : WS kd kg s y rc R S0 S (stack ++ [r]) way) (I : WI R most (stack ++ [r]) way) (hm : most ≤ 24)
    (hQ : ∀ S', WS kd kg s y rc R S0 S' stack (way ++ [.out r]) → WI R most stack (way ++ [.out r]) → Q.nx [some (.cell kd), some (.cell rc), some (.int (most : Nat)), some (.tup [.int q0, .int q1]), some (.cell s), some (.cell y), v6, v7, v8, v9, v10] S') :
    OkS (bW4 [some (.cell kd), some (.cell rc), some (.int (most : Nat)), some (.tup [.int q0, .int q1]), some (.cell s), some (.cell y), v6, v7, v8, v9, v10] S) Q := by
  have hlb := I.lenb
  have hst : S[s]? = some (.lst (nats stack ++ [D.int (r : Nat)])) := by
    have := W.st
    rw [this]
    simp
  unfold bW4
  simp only [o_drop, o_cons, o_nil, o_var, o_c, o_mth, o_tup, List.getElem?_cons_succ, List.getElem?_cons_zero]
  refine ⟨_, rfl, isL_cell W.wy, _, rfl, isL_cell hst, ?_⟩
  rw [m_pop hst, Ok_ok]
  have hs4 := get_set (c' := C.lst (nats stack)) hst
  have hy4 : (S.set s (.lst (nats stack)))[y]? = some (.lst (way.map Stp.d)) := by
    rw [List.getElem?_set_ne c.sy]
    exact W.wy
  have hrc4 : (S.set s (.lst (nats stack)))[rc]? = some (.lst (nats (List.range R))) := by
    rw [List.getElem?_set_ne (fun z => c.hrc (by simp [z]))]
    exact W.rm
  have d4 := W.dk.set c.hs (.lst (nats stack))
  have k4 : Kp [s, y, kd, kg] S0 (S.set s (.lst (nats stack))) := W.kp.set (.inr (by simp)) _
  generalize S.set s (.lst (nats stack)) = S4 at hs4 hy4 hrc4 d4 k4
  refine ⟨by simp [lim_eq], ?_⟩
  rw [m_app hy4 (by rw [List.length_map, lim_eq]; omega), Ok_ok]
  have e2 : way.map Stp.d ++ [D.tup [.str "out", .int (r : Nat)]] = (way ++ [Stp.out r]).map Stp.d := by
    rw [List.map_append]
    rfl
  rw [e2]
  refine hQ _ ⟨d4.set c.hy _, k4.set (.inr (by simp)) _, ?_, get_set hy4, ?_⟩ I.pop
  · rw [List.getElem?_set_ne (Ne.symm c.sy), hs4]
  · rw [List.getElem?_set_ne (fun z => c.hrc (by simp [z]))]
    exact hrc4
end
end Dn
set_option Elab.async false
set_option linter.all false
set_option maxRecDepth 100000
set_option maxHeartbeats 2000000
/-! Be_k92: the way drawn. -/
noncomputable section
namespace Dn
open PySem L2
section
variable {S S' S0 : Sto} {kd kg s y rc R most : Nat} {δ : En} {Q : Po} {P : D → Sto → Prop} {K : List Nat}
theorem t_bW {q0 q1 : Int} {stack : List Nat} {way : List Stp} {v6 v7 v8 v9 v10 : Option D} (c : WC kd kg s y rc) (W : WS kd kg s y rc R S0 S stack way) (I : WI R most stack way) (h1 : 1 ≤ R) (hR : R ≤ 6) (hm : most ≤ 24) (hk : ∀ n, n ∈ [s, y, kd, kg] → n < S.length)
    (hcond : stack = [] → way.length + 2 ≤ most)
    (hQ : ∀ S' stack' way' v6 v7 v8 v9, WS kd kg s y rc R S0 S' stack' way' → WI R most stack' way' → way'.length = way.length + 1 → Q.nx [some (.cell kd), some (.cell rc), some (.int (most : Nat)), some (.tup [.int q0, .int q1]), some (.cell s), some (.cell y), v6, v7, v8, v9, v10] S') :
    OkS (bW [some (.cell kd), some (.cell rc), some (.int (most : Nat)), some (.tup [.int q0, .int q1]), some (.cell s), some (.cell y), v6, v7, v8, v9, v10] S) Q := by
  obtain ⟨b3, hb3⟩ : ∃ b, b = bW3 := ⟨_, rfl⟩
  obtain ⟨b4, hb4⟩ : ∃ b, b = bW4 := ⟨_, rfl⟩
  unfold bW
  rw [← hb3, ← hb4]
  unfold bW1 bW2
  simp only [o_seq, o_set]
  refine ok_lcAL (xs := nats (List.range R)) (c0 := rc) (intF fun r => !decide (r ∈ stack)) ?_ W.rm (by rw [List.length_map, List.length_range, lim_eq]; omega) ?_ ?_
  · simp [Kp.refl]
  · intro x hx S1 k1
    obtain ⟨r, hr, rfl⟩ := List.mem_map.mp hx
    refine ⟨_, set_nm, ?_⟩
    have := p_inN (neg := true) (k := r) (k1.get _ _ (by simp) W.st)
    simp [wipeD, this, intF_n, Kp.refl]
    by_cases hm : r ∈ stack <;> simp [hm, Kp.refl]
  · intro S1 fc k1 hl1 hfc
    rw [intF_list] at hfc
    generalize hfree : (List.range R).filter (fun r => !decide (r ∈ stack)) = free at hfc
    have hfr : ∀ a ∈ free, a < R ∧ a ∉ stack := fun a ha => by
      rw [← hfree] at ha
      obtain ⟨h1, h2⟩ := List.mem_filter.mp ha
      exact ⟨List.mem_range.mp h1, by simpa using h2⟩
    have hfl : free.length ≤ R := by
      rw [← hfree]
      have := List.length_filter_le (fun r => !decide (r ∈ stack)) (List.range R)
      rw [List.length_range] at this
      exact this
    have hfe : stack = [] → free ≠ [] := fun e z => by
      have : 0 ∈ free := by
        rw [← hfree, e]
        exact List.mem_filter.mpr ⟨List.mem_range.mpr (by omega), by simp⟩
      rw [z] at this
      cases this
    have hfn : fc ∉ [s, y, kd, kg] := fun z => by have := hk fc z; omega
    have W1 := W.keep k1
    have hlb := I.lenb
    simp only [o_andV, o_bin, o_lst, o_call, o_cons, o_nil, o_var, o_c, List.getElem?_cons_succ, List.getElem?_cons_zero, List.set_cons_succ, List.set_cons_zero]
    refine ⟨_, rfl, by simp, ?_⟩
    have k2 : Kp [] S1 (S1 ++ [.lst []]) := Kp.app _ _ _
    have W2 := W1.keep k2
    have hfc2 := k2.get _ _ (by simp) hfc
    rw [p_neNil hfc2 (rd_nats fun x hx => by have := (hfr x hx).1; omega) (by decide) (get_push _ _), Ok_ok]
    refine ⟨_, rfl, ?_⟩
    generalize S1 ++ [C.lst []] = S2 at k2 W2 hfc2
    -- the rest, from the value of may
    have rest : ∀ may : Bool, (may = true → free ≠ [] ∧ way.length + stack.length + 2 ≤ most) → (may = false → stack ≠ []) → OkS (dIfS tW2 b3 b4 [some (.cell kd), some (.cell rc), some (.int (most : Nat)), some (.tup [.int q0, .int q1]), some (.cell s), some (.cell y), some (.cell fc), some (.bl may), v8, v9, v10] S2) Q := by
      intro may hm1 hm0
      have push : ∀ S3, may = true → WS kd kg s y rc R S0 S3 stack way → S3[fc]? = some (.lst (nats free)) → OkS (b3 [some (.cell kd), some (.cell rc), some (.int (most : Nat)), some (.tup [.int q0, .int q1]), some (.cell s), some (.cell y), some (.cell fc), some (.bl may), v8, v9, v10] S3) Q := by
        intro S3 hm W3 hfc3
        rw [hb3]
        refine t_push c W3 I hfc3 hfn (hm1 hm).1 (by omega) hfr (hm1 hm).2 (by assumption) ?_
        intro S' v8' v9' r b m W' I'
        exact hQ S' _ _ _ _ _ _ W' I' (by simp)
      have pop : ∀ S3, stack ≠ [] → WS kd kg s y rc R S0 S3 stack way → OkS (b4 [some (.cell kd), some (.cell rc), some (.int (most : Nat)), some (.tup [.int q0, .int q1]), some (.cell s), some (.cell y), some (.cell fc), some (.bl may), v8, v9, v10] S3) Q := by
        intro S3 hne W3
        obtain ⟨l, g, hlg⟩ : ∃ l g, stack = l ++ [g] := ⟨stack.dropLast, stack.getLast hne, (List.dropLast_concat_getLast hne).symm⟩
        have W3' := W3
        have I' := I
        rw [hlg] at W3' I'
        rw [hb4]
        refine t_pop c W3' I' (by assumption) ?_
        intro S' W' I''
        exact hQ S' _ _ _ _ _ _ W' I'' (by simp)
      rw [o_ifS]
      unfold tW2
      simp only [o_and, o_or, o_B, o_bin, o_lst, o_call, o_cons, o_nil, o_var, o_c, List.getElem?_cons_succ, List.getElem?_cons_zero]
      refine ⟨_, rfl, may, rfl, ?_⟩
      cases may with
      | false =>
        simp only [Bool.false_eq_true, if_false]
        exact pop S2 (hm0 rfl) W2
      | true =>
        simp only [if_true]
        refine ⟨_, rfl, by simp, ?_⟩
        have k3 : Kp [] S2 (S2 ++ [.lst []]) := Kp.app _ _ _
        have W3 := W2.keep k3
        have hfc3 := k3.get _ _ (by simp) hfc2
        rw [p_eqNil W3.st (rd_nats fun x hx => by have := I.stR x hx; omega) (by decide) (get_push _ _), Ok_ok]
        refine ⟨_, rfl, ?_⟩
        generalize S2 ++ [C.lst []] = S3 at k3 W3 hfc3
        by_cases hs : stack = []
        · have e : (nats stack).isEmpty = true := by rw [hs]; rfl
          simp only [e, if_true]
          exact push S3 rfl W3 hfc3
        · have e : (nats stack).isEmpty = false := by
            cases stack with
            | nil => exact absurd rfl hs
            | cons _ _ => rfl
          rw [e, if_neg (by simp)]
          refine ⟨_, rfl, ?_⟩
          refine W3.draw c (n := 5) (by decide) (by decide) ?_
          intro i S4 hi W4 k4
          rw [p_gt, Ok_ok]
          refine ⟨_, rfl, ?_⟩
          have hfc4 := k4.get _ _ (fun z => hfn (by simp at z ⊢; omega)) hfc3
          by_cases hd : (1 : Int) < (i : Int)
          · rw [decide_eq_true hd, if_pos rfl]
            exact push S4 rfl W4 hfc4
          · rw [decide_eq_false hd, if_neg (by simp)]
            exact pop S4 hs W4
    by_cases hf : free = []
    · have e : (!(nats free).isEmpty) = false := by rw [hf]; rfl
      rw [e, if_neg (by simp)]
      exact rest false (by simp) (fun _ z => hfe z hf)
    · have e : (!(nats free).isEmpty) = true := by
        cases free with
        | nil => exact absurd rfl hf
        | cons _ _ => rfl
      rw [e, if_pos rfl]
      refine ⟨_, rfl, ?_⟩
      rw [b_lenL W2.st, Ok_ok, p_lt, Ok_ok]
      refine ⟨_, rfl, ?_⟩
      have hls : ((nats stack).length : Int) = (stack.length : Int) := by rw [List.length_map]
      have hlw : ((way.map Stp.d).length : Int) = (way.length : Int) := by rw [List.length_map]
      by_cases h3 : ((nats stack).length : Int) < 3
      · rw [decide_eq_true h3, if_pos rfl]
        refine ⟨_, rfl, ?_⟩
        rw [b_lenL W2.wy, Ok_ok]
        refine ⟨_, rfl, ?_⟩
        rw [b_lenL W2.st, Ok_ok, p_add, Ok_ok, p_add, Ok_ok]
        refine ⟨_, rfl, ?_⟩
        rw [p_le, Ok_ok, hls, hlw]
        refine rest _ (fun h => ⟨hf, ?_⟩) (fun h z => ?_)
        · have := of_decide_eq_true h
          omega
        · have h4 := of_decide_eq_false h
          have h5 := hcond z
          rw [z] at h4
          apply h4
          simp
          omega
      · rw [decide_eq_false h3, if_neg (by simp)]
        refine rest false (by simp) (fun _ z => ?_)
        rw [hls, z] at h3
        simp at h3
theorem WS.lt {stack : List Nat} {way : List Stp} (h : WS kd kg s y rc R S0 S stack way) : ∀ n, n ∈ [s, y, kd, kg] → n < S.length := fun n hn => by
  have := h.dk.lt
  have h1 := lt_of_get h.st
  have h2 := lt_of_get h.wy
  simp at hn
  omega
theorem r_own_way {q0 q1 : Int} (Dk : Deck kd kg S) (hrc : S[rc]? = some (.lst (nats (List.range R)))) (hrcn : rc ∉ [kd, kg]) (h1 : 1 ≤ R) (hR : R ≤ 6) (h2 : 2 ≤ most) (hm : most ≤ 24) : Ok (d_law_own_way [.cell kd, .cell rc, .int (most : Nat), .tup [.int q0, .int q1]] S) fun r S' => ∃ w, r = wayD w ∧ WayOk R w ∧ Dw kd kg S S' := by
  obtain ⟨bw, hbw⟩ : ∃ b, b = bW := ⟨_, rfl⟩
  obtain ⟨tw, htw⟩ : ∃ b, b = tW := ⟨_, rfl⟩
  have eb : b_law_own_way = dSeq (dAsg (.tp [(.nm 4), (.nm 5)]) (dTup (dCons (dLst dNil) (dCons (dLst dNil) dNil)))) (dSeq (dWhile tW bW) (dRet (dCall bTuple (dCons (dVar 5) dNil)))) := rfl
  rw [← hbw, ← htw] at eb
  simp only [d_law_own_way, eb, startD, o_fn, o_seq, o_asg, o_tup, o_cons, o_nil, o_lst]
  refine ⟨rfl, by simp, by simp, by simp [lim_eq], ?_⟩
  have k0 : Kp [] S ((S ++ [.lst []]) ++ [.lst []]) := (Kp.app _ _ _).push _
  have D0 := Dk.kp k0
  have hs0 : ((S ++ [C.lst []]) ++ [C.lst []])[S.length]? = some (.lst (nats [])) := (Kp.app [] (S ++ [C.lst []]) _).get _ _ (by simp) (get_push _ _)
  have hy0 : ((S ++ [C.lst []]) ++ [C.lst []])[(S ++ [C.lst []]).length]? = some (.lst (([] : List Stp).map Stp.d)) := get_push _ _
  have hll : (S ++ [C.lst []]).length = S.length + 1 := by simp
  rw [hll] at hy0 ⊢
  have hrc0 := k0.get _ _ (by simp) hrc
  have hrl := lt_of_get hrc
  generalize (S ++ [C.lst []]) ++ [C.lst []] = S0 at k0 D0 hs0 hy0 hrc0
  have c : WC kd kg S.length (S.length + 1) rc := ⟨Dk.fresh (Nat.le_refl _), Dk.fresh (by omega), by omega, by simp at hrcn ⊢; omega⟩
  have W0 : WS kd kg S.length (S.length + 1) rc R S0 S0 [] [] := ⟨D0, Kp.refl _ _, hs0, hy0, hrc0⟩
  have kfin : ∀ S1, Kp [S.length, S.length + 1, kd, kg] S0 S1 → Kp [kd, kg] S S1 := fun S1 k1 => ⟨Nat.le_trans k0.le k1.le, fun n x hn hx => k1.get n x (by
    have := lt_of_get hx
    simp at hn ⊢
    omega) (k0.get n x (by simp) hx)⟩
  show ∃ δ', Tg.set (.tp [.nm 4, .nm 5]) (.tup [.cell S.length, .cell (S.length + 1)]) [some (.cell kd), some (.cell rc), some (.int (most : Nat)), some (.tup [.int q0, .int q1]), none, none, none, none, none, none, none] = some δ' ∧ _
  rw [set_tp, setAll_cons, set_nm, Option.bind_some, setAll_cons, set_nm, Option.bind_some, setAll_nil]
  refine ⟨_, rfl, ?_⟩
  simp only [List.set_cons_succ, List.set_cons_zero]
  refine ok_while (fun m δ S' => ∃ stack way v6 v7 v8 v9 v10, δ = [some (.cell kd), some (.cell rc), some (.int (most : Nat)), some (.tup [.int q0, .int q1]), some (.cell S.length), some (.cell (S.length + 1)), v6, v7, v8, v9, v10] ∧ WS kd kg S.length (S.length + 1) rc R S0 S' stack way ∧ WI R most stack way ∧ m = most - way.length) most (by omega) ?_ ?_
  · exact ⟨[], [], _, _, _, _, _, rfl, W0, WI.nil, rfl⟩
  · rintro m δ S1 ⟨stack, way, v6, v7, v8, v9, v10, rfl, W, I, rfl⟩
    have hlb := I.lenb
    have go : ∀ S2 (Q : Po), WS kd kg S.length (S.length + 1) rc R S0 S2 stack way → (stack = [] → way.length + 2 ≤ most) → (∀ δ S', (∃ m', m' < most - way.length ∧ ∃ stack way v6 v7 v8 v9 v10, δ = [some (.cell kd), some (.cell rc), some (.int (most : Nat)), some (.tup [.int q0, .int q1]), some (.cell S.length), some (.cell (S.length + 1)), v6, v7, v8, v9, v10] ∧ WS kd kg S.length (S.length + 1) rc R S0 S' stack way ∧ WI R most stack way ∧ m' = most - way.length) → Q.nx δ S') → OkS (bw [some (.cell kd), some (.cell rc), some (.int (most : Nat)), some (.tup [.int q0, .int q1]), some (.cell S.length), some (.cell (S.length + 1)), v6, v7, v8, v9, v10] S2) Q := by
      intro S2 Q W2 hc hQ
      rw [hbw]
      refine t_bW c W2 I h1 hR hm W2.lt hc ?_
      intro S' stack' way' v6 v7 v8 v9 W' I' hl
      have hlb' := I'.lenb
      exact hQ _ _ ⟨most - way'.length, by omega, stack', way', v6, v7, v8, v9, v10, rfl, W', I', rfl⟩
    have fin : ∀ S2, WS kd kg S.length (S.length + 1) rc R S0 S2 stack way → ∃ d, [some (D.cell kd), some (.cell rc), some (.int (most : Nat)), some (.tup [.int q0, .int q1]), some (.cell S.length), some (.cell (S.length + 1)), v6, v7, v8, v9, v10][5]? = some (some d) ∧ Ok (bTuple [d] S2) fun r S' => ∃ w, r = wayD w ∧ WayOk R w ∧ Dw kd kg S S' := by
      intro S2 W2
      refine ⟨_, rfl, ?_⟩
      rw [b_tupL W2.wy, Ok_ok]
      exact ⟨way, rfl, I.ok hm, W2.dk, kfin _ W2.kp⟩
    rw [htw]
    unfold tW
    simp only [o_or, o_and, o_B, o_bin, o_lst, o_call, o_cons, o_nil, o_var, o_c, List.getElem?_cons_succ, List.getElem?_cons_zero]
    refine ⟨_, rfl, by simp, ?_⟩
    have k1 : Kp [] S1 (S1 ++ [.lst []]) := Kp.app _ _ _
    have W1 := W.keep k1
    rw [p_eqNil W1.wy (rd_stps (by omega) I.inr I.outr) (by decide) (get_push _ _), Ok_ok]
    refine ⟨_, rfl, ?_⟩
    generalize S1 ++ [C.lst []] = S2 at k1 W1
    by_cases hw : way = []
    · have e : (way.map Stp.d).isEmpty = true := by rw [hw]; rfl
      simp only [e, if_true]
      exact go S2 _ W1 (fun _ => by rw [hw]; simp; omega) (fun δ S' h => h)
    · have e : (way.map Stp.d).isEmpty = false := by
        cases way with
        | nil => exact absurd rfl hw
        | cons _ _ => rfl
      rw [e, if_neg (by simp)]
      refine ⟨_, rfl, by simp, ?_⟩
      have k2 : Kp [] S2 (S2 ++ [.lst []]) := Kp.app _ _ _
      have W2 := W1.keep k2
      rw [p_neNil W2.st (rd_nats fun x hx => by have := I.stR x hx; omega) (by decide) (get_push _ _), Ok_ok]
      refine ⟨_, rfl, ?_⟩
      generalize S2 ++ [C.lst []] = S3 at k2 W2
      by_cases hs : stack = []
      · have e : (!(nats stack).isEmpty) = false := by rw [hs]; rfl
        rw [e, if_neg (by simp)]
        refine ⟨_, rfl, ?_⟩
        rw [b_lenL W2.wy, Ok_ok, p_add, Ok_ok]
        refine ⟨_, rfl, ?_⟩
        rw [p_le, Ok_ok]
        refine ⟨_, rfl, ?_⟩
        have hlw : ((way.map Stp.d).length : Int) = (way.length : Int) := by rw [List.length_map]
        rw [hlw]
        by_cases hle : (way.length : Int) + 2 ≤ (most : Int)
        · rw [decide_eq_true hle, if_pos rfl]
          refine ⟨_, rfl, ?_⟩
          refine W2.draw c (n := 3) (by decide) (by decide) ?_
          intro i S4 hi W4 k4
          rw [p_gt, Ok_ok]
          refine ⟨_, rfl, ?_⟩
          by_cases hd : (0 : Int) < (i : Int)
          · rw [decide_eq_true hd, if_pos rfl]
            exact go S4 _ W4 (fun _ => by omega) (fun δ S' h => h)
          · rw [decide_eq_false hd, if_neg (by simp)]
            simp only [o_ret, o_call, o_cons, o_nil, o_var]
            exact fin S4 W4
        · rw [decide_eq_false hle, if_neg (by simp), if_neg (by simp)]
          simp only [o_ret, o_call, o_cons, o_nil, o_var]
          exact fin S3 W2
      · have e : (!(nats stack).isEmpty) = true := by
          cases stack with
          | nil => exact absurd rfl hs
          | cons _ _ => rfl
        simp only [e, if_true]
        exact go S3 _ W2 (fun z => absurd z hs) (fun δ S' h => h)
end
end Dn
set_option Elab.async false
set_option linter.all false
set_option maxRecDepth 100000
set_option maxHeartbeats 2000000
/-! Bf_k92: a house drawn. -/
noncomputable section
namespace Dn
open PySem L2
section
variable {S S' S0 : Sto} {kd kg s y rc R most : Nat} {δ : En} {Q : Po} {P : D → Sto → Prop} {K : List Nat}
theorem p_mulT1 {x : D} {n : Nat} (h1 : 1 ≤ n) (h2 : n ≤ 1000) : opMul (.tup [x]) (.int (n : Nat)) S = .ok (.tup (List.replicate n x)) S := by
  unfold opMul
  have h3 : decide ([x] ≠ [] ∧ 1 ≤ ((n : Nat) : Int) ∧ ((n : Nat) : Int) ≤ 1000 ∧ [x].length ≤ 100) = true := decide_eq_true ⟨by simp, by omega, by omega, by simp⟩
  have e : (List.replicate ((n : Nat) : Int).toNat [x]).flatten = List.replicate n x := by
    rw [Int.toNat_natCast]
    exact rep_one x n
  simp only [h3, if_true, e]
def storeD : D := .tup [.str "store", .non]
structure WsOk (R hands : Nat) (ws : List (List Stp)) : Prop where
  len : ws.length = hands
  ok : ∀ w ∈ ws, WayOk R w
theorem kpf {c : Nat} (k : Kp [c, kd, kg] S S') (hc : S.length ≤ c) : Kp [kd, kg] S S' := ⟨k.le, fun n x hn hx => k.get n x (by
  have := lt_of_get hx
  simp at hn ⊢
  omega) hx⟩
theorem r_own_house {hands : Nat} {q0 q1 : Int} (Dk : Deck kd kg S) (h1 : 1 ≤ R) (hR : R ≤ 6) (hh : hands ≤ 5) (h2 : 2 ≤ most) (hm : most ≤ 24) : Ok (d_law_own_house [.cell kd, .int (hands : Nat), .int (R : Nat), .int (most : Nat), .tup [.int q0, .int q1]] S) fun r S' => ∃ ws, r = houseD (List.replicate R storeD) ws ∧ WsOk R hands ws ∧ Dw kd kg S S' := by
  simp only [d_law_own_house, b_law_own_house, startD, o_fn, o_seq, o_set, o_call, o_cons, o_nil]
  refine ⟨rfl, ?_⟩
  refine ok_lc (s0 := .rng 0 (hands : Nat)) (N := hands) (c := S.length) (item := fun i => .int (i : Nat)) (fun i S' acc => Deck kd kg S' ∧ Kp [S.length, kd, kg] S S' ∧ S'[S.length]? = some (.lst acc) ∧ ∃ ws, acc = ws.map wayD ∧ WsOk R i ws) ?_ ?_ ?_ ?_ ?_
  · simp only [o_rng1, o_cons, o_nil, o_var]
    refine ⟨_, rfl, _, rfl, inRng_of (by omega) (by omega), by trivial, by trivial, Dk.push _, Kp.app _ _ _, get_push _ _, [], rfl, rfl, fun w hw => by cases hw⟩
  · intro i S' acc h
    simp [Src.len]
  · intro i S' acc hi h
    simp [Src.item, hi]
  · rintro i S1 acc hi ⟨D1, k1, hc, ws, rfl, W⟩
    refine ⟨_, set_nm, ?_⟩
    simp only [wipeD, List.foldl_cons, List.foldl_nil, o_yes, if_true, o_call, o_cons, o_nil, o_var]
    refine ⟨_, rfl, ?_⟩
    refine ok_listRg (n := R) (by omega) ?_
    simp only [o_var]
    refine ⟨_, rfl, rfl, _, rfl, _, rfl, ?_⟩
    have ka : Kp [] S1 (S1 ++ [.lst (nats (List.range R))]) := Kp.app _ _ _
    refine Ok.imp (r_own_way (D1.kp ka) (get_push _ _) (D1.fresh (Nat.le_refl _)) h1 hR h2 hm) ?_
    rintro _ S3 ⟨w, rfl, hw, D3, k3⟩
    have hcn : S.length ∉ [kd, kg] := Dk.fresh (Nat.le_refl _)
    have hc3 := k3.get _ _ hcn (ka.get _ _ (by simp) hc)
    have k13 : Kp [S.length, kd, kg] S S3 := (k1.trans ka.of).trans (k3.sub (by simp))
    refine ⟨hc3, by rw [List.length_map, W.len, lim_eq]; omega, D3.set hcn _, k13.set (.inr (by simp)) _, get_set hc3, ws ++ [w], by simp, by rw [List.length_append, W.len]; rfl, fun u hu => ?_⟩
    rcases List.mem_append.mp hu with h | h
    · exact W.ok u h
    · rw [List.mem_singleton.mp h]
      exact hw
  · rintro S1 acc ⟨D1, k1, hc, ws, rfl, W⟩
    rw [b_tupL hc, Ok_ok]
    simp only [o_ret, o_tup, o_cons, o_nil, o_bin, o_c, o_var, List.map_cons, List.map_nil]
    refine ⟨by simp [lim_eq], by simp [lim_eq], _, rfl, ?_⟩
    rw [p_mulT1 h1 (by omega), Ok_ok]
    refine ⟨_, rfl, by simp [lim_eq], ws, rfl, W, D1, kpf k1 (Nat.le_refl _)⟩
end
end Dn
set_option Elab.async false
set_option linter.all false
set_option maxRecDepth 100000
set_option maxHeartbeats 2000000
/-! Bg_k92: crossed paths. -/
noncomputable section
namespace Dn
open PySem L2
structure PairOk (R : Nat) (l : List Nat) : Prop where
  nd : l.Nodup
  lt : ∀ a ∈ l, a < R
  len : l.length ≤ 3
theorem WI.pops {R most : Nat} : ∀ (n : Nat) {stack : List Nat} {way : List Stp}, stack.length = n → WI R most stack way → WI R most [] (way ++ stack.reverse.map Stp.out)
  | 0, stack, way, h, I => by
    cases stack with
    | nil => simpa using I
    | cons _ _ => cases h
  | n + 1, stack, way, h, I => by
    have hne : stack ≠ [] := fun z => by rw [z] at h; cases h
    obtain ⟨l, g, hlg⟩ : ∃ l g, stack = l ++ [g] := ⟨stack.dropLast, stack.getLast hne, (List.dropLast_concat_getLast hne).symm⟩
    subst hlg
    have := WI.pops n (stack := l) (by simp at h; exact h) I.pop
    simpa using this
section
variable {S S' S0 : Sto} {kd kg s y rc R most : Nat} {δ : En} {Q : Po} {P : D → Sto → Prop} {K : List Nat}
theorem m_rev {c : Nat} {xs : List D} (h : S[c]? = some (.lst xs)) : mReverse (.cell c) [] S = .ok .non (S.set c (.lst xs.reverse)) := by
  unfold mReverse
  simp only [h]
theorem m_ext {c m : Nat} {xs ys : List D} (h : S[c]? = some (.lst xs)) (h2 : S[m]? = some (.lst ys)) (hl : xs.length + ys.length ≤ lim) : mExtend (.cell c) [.cell m] S = .ok .non (S.set c (.lst (xs ++ ys))) := by
  unfold mExtend
  simp only [h, h2, hl, if_true]
def bP1 : DS := dSet 5 (dLst (dCons (dVar 4) (dCons (dBin opMod (dBin opAdd (dVar 4) (dC (.int 1))) (dVar 1)) dNil)))
def bP2 : DS := dIfS (dB (dBin opEq (dCall d_law_draw (dCons (dVar 0) (dCons (dC (.int 4)) dNil))) (dC (.int 0)))) (dDrop (dMth mReverse (dVar 5) dNil)) dSkip
def bP3 : DS := dIfS (dB (dBin opEq (dCall d_law_draw (dCons (dVar 0) (dCons (dC (.int 5)) dNil))) (dC (.int 0)))) (dSet 5 (dBin opAdd (dLst (dCons (dVar 1) dNil)) (dVar 5))) dSkip
def bX1 : DS := dSeq (dSet 8 (dIf (dAnd (dB (dBin opLt (dCall d_law_draw (dCons (dVar 0) (dCons (dC (.int 6)) dNil))) (dBin opIx (dVar 2) (dC (.int 0))))) (dB (dBin opNe (dVar 6) (dLst dNil)))) (dC (.str "try")) (dC (.str "in")))) (dDrop (dMth mAppend (dVar 6) (dCons (dTup (dCons (dVar 8) (dCons (dVar 7) (dCons (dIf (dB (dBin opLt (dCall d_law_draw (dCons (dVar 0) (dCons (dC (.int 8)) dNil))) (dBin opIx (dVar 2) (dC (.int 1))))) (dC (.str "beside")) (dC (.str "alone"))) dNil)))) dNil)))
def bX2 : DS := dDrop (dMth mExtend (dVar 6) (dCons (dLc (srcV (dVar 5)) (.nm 7) dYes (dTup (dCons (dC (.str "out")) (dCons (dVar 7) dNil))) [7]) dNil))
def bX3 : DS := dDrop (dMth mAppend (dVar 3) (dCons (dCall bTuple (dCons (dVar 6) dNil)) dNil))
theorem nxt {hands hand : Nat} (h2 : 2 ≤ hands) (hh : hand < hands) : ∃ n : Nat, ((hand : Int) + 1).fmod (hands : Int) = (n : Int) ∧ n < hands ∧ n ≠ hand := by
  rw [Int.fmod_eq_emod_of_nonneg _ (by omega)]
  by_cases h : hand + 1 < hands
  · exact ⟨hand + 1, by rw [Int.emod_eq_of_lt (by omega) (by omega)]; omega, h, by omega⟩
  · have e : (hand : Int) + 1 = (hands : Int) := by omega
    exact ⟨0, by rw [e, Int.emod_self]; rfl, by omega, by omega⟩
theorem t_pair {hands hand : Nat} {v2 v3 v5 v6 v7 v8 : Option D} (Dk : Deck kd kg S) (h2 : 2 ≤ hands) (h4 : hands ≤ 4) (hh : hand < hands)
    (hQ : ∀ S' a pair, Dw kd kg S S' → S.length ≤ a → S'[a]? = some (.lst (nats pair)) → PairOk (hands + 1) pair → Q.nx [some (.cell kd), some (.int (hands : Nat)), v2, v3, some (.int (hand : Nat)), some (.cell a), v6, v7, v8] S') :
    OkS (dSeq bP1 (dSeq bP2 bP3) [some (.cell kd), some (.int (hands : Nat)), v2, v3, some (.int (hand : Nat)), v5, v6, v7, v8] S) Q := by
  obtain ⟨b3, hb3⟩ : ∃ b, b = bP3 := ⟨_, rfl⟩
  rw [← hb3]
  unfold bP1 bP2
  simp only [o_seq, o_set, o_lst, o_cons, o_nil, o_bin, o_var, o_c, List.getElem?_cons_succ, List.getElem?_cons_zero, List.set_cons_succ, List.set_cons_zero]
  refine ⟨_, rfl, _, rfl, ?_⟩
  rw [p_add, Ok_ok]
  refine ⟨_, rfl, ?_⟩
  rw [p_mod (by omega), Ok_ok]
  obtain ⟨n, hn, hnl, hnh⟩ := nxt h2 hh
  rw [hn]
  refine ⟨by simp [lim_eq], ?_⟩
  have D1 := Dk.push [C.lst [D.int (hand : Nat), D.int (n : Nat)]]
  have k1 : Kp [kd, kg] S (S ++ [C.lst [D.int (hand : Nat), D.int (n : Nat)]]) := Kp.app _ _ _
  have ha1 : (S ++ [C.lst [D.int (hand : Nat), D.int (n : Nat)]])[S.length]? = some (.lst (nats [hand, n])) := get_push _ _
  have han : S.length ∉ [kd, kg] := Dk.fresh (Nat.le_refl _)
  generalize S ++ [C.lst [D.int (hand : Nat), D.int (n : Nat)]] = S1 at D1 k1 ha1
  -- the third part, from either order
  have third : ∀ S2 pair, Dw kd kg S S2 → S2[S.length]? = some (.lst (nats pair)) → PairOk hands pair → pair.length = 2 → OkS (b3 [some (.cell kd), some (.int (hands : Nat)), v2, v3, some (.int (hand : Nat)), some (.cell S.length), v6, v7, v8] S2) Q := by
    intro S2 pair d2 ha2 pk pl
    rw [hb3]
    unfold bP3
    rw [o_ifS]
    simp only [o_B, o_set, o_lst, o_call, o_cons, o_nil, o_bin, o_var, o_c, List.getElem?_cons_succ, List.getElem?_cons_zero, List.set_cons_succ, List.set_cons_zero]
    refine ⟨_, rfl, ?_⟩
    refine Ok.imp (r_draw d2.1 (n := 5) (by decide) (by decide)) ?_
    rintro _ S3 ⟨i, rfl, hi, d3⟩
    rw [p_eqI, Ok_ok]
    refine ⟨_, rfl, ?_⟩
    have ha3 := d3.2.get _ _ han ha2
    have k3 := d2.2.trans d3.2
    by_cases h0 : (i : Int) = 0
    · rw [decide_eq_true h0, if_pos rfl]
      refine ⟨_, rfl, by simp [lim_eq], _, rfl, ?_⟩
      have ka : Kp [] S3 (S3 ++ [.lst [D.int (hands : Nat)]]) := Kp.app _ _ _
      rw [p_addL (get_push S3 (.lst [D.int (hands : Nat)])) (ka.get _ _ (by simp) ha3), o_mkL]
      refine ⟨by simp [lim_eq]; omega, ?_⟩
      have kb : Kp [] S3 ((S3 ++ [.lst [D.int (hands : Nat)]]) ++ [.lst ([D.int (hands : Nat)] ++ nats pair)]) := ka.push _
      refine hQ _ _ (hands :: pair) ⟨d3.1.kp kb, k3.trans kb.of⟩ ?_ (get_push _ _) ⟨?_, fun a ha => ?_, by simp; omega⟩
      · have := k3.le
        simp
        omega
      · rw [List.nodup_cons]
        exact ⟨fun z => by have := pk.lt _ z; omega, pk.nd⟩
      · rcases List.mem_cons.mp ha with rfl | ha
        · omega
        · have := pk.lt a ha
          omega
    · rw [decide_eq_false h0, if_neg (by simp), o_skip]
      exact hQ S3 _ pair ⟨d3.1, k3⟩ (Nat.le_refl _) ha3 ⟨pk.nd, fun a ha => by have := pk.lt a ha; omega, by omega⟩
  have pk0 : PairOk hands [hand, n] := ⟨by simp; exact fun z => hnh z.symm, fun a ha => by simp at ha; omega, by simp⟩
  have pk1 : PairOk hands [n, hand] := ⟨by simp; exact hnh, fun a ha => by simp at ha; omega, by simp⟩
  rw [o_ifS]
  simp only [o_B, o_drop, o_call, o_cons, o_nil, o_bin, o_var, o_c, o_mth, List.getElem?_cons_succ, List.getElem?_cons_zero]
  refine ⟨_, rfl, ?_⟩
  refine Ok.imp (r_draw D1 (n := 4) (by decide) (by decide)) ?_
  rintro _ S2 ⟨i, rfl, hi, d2⟩
  rw [p_eqI, Ok_ok]
  refine ⟨_, rfl, ?_⟩
  have ha2 := d2.2.get _ _ han ha1
  have k2 := k1.trans d2.2
  by_cases h0 : (i : Int) = 0
  · rw [decide_eq_true h0, if_pos rfl]
    refine ⟨_, rfl, isL_cell ha2, ?_⟩
    rw [m_rev ha2, Ok_ok]
    exact third _ [n, hand] ⟨d2.1.set han _, k2.set (.inl (Nat.le_refl _)) _⟩ (get_set ha2) pk1 rfl
  · rw [decide_eq_false h0, if_neg (by simp), o_skip]
    exact third S2 [hand, n] ⟨d2.1, k2⟩ ha2 pk0 rfl
theorem t_ins {a : Nat} {pair : List Nat} {q0 q1 : Int} {v1 v3 v4 v7 v8 : Option D} (Dk : Deck kd kg S) (hR : R ≤ 6) (ha : S[a]? = some (.lst (nats pair))) (han : a ∉ [y, kd, kg]) (hyn : y ∉ [kd, kg]) (hy : S[y]? = some (.lst [])) (pk : PairOk R pair)
    (hQ : ∀ S' way v7 v8, Deck kd kg S' → Kp [y, kd, kg] S S' → S'[y]? = some (.lst (way.map Stp.d)) → WI R 24 pair way → way.length = pair.length → Q.nx [some (.cell kd), v1, some (.tup [.int q0, .int q1]), v3, v4, some (.cell a), some (.cell y), v7, v8] S') :
    OkS (dFor (srcA (dVar 5)) (.nm 7) bX1 [some (.cell kd), v1, some (.tup [.int q0, .int q1]), v3, v4, some (.cell a), some (.cell y), v7, v8] S) Q := by
  obtain ⟨b1, hb1⟩ : ∃ b, b = bX1 := ⟨_, rfl⟩
  rw [← hb1]
  refine ok_forAL (xs := nats pair) (c := a) (fun i δ S' => (∃ v7 v8, δ = [some (.cell kd), v1, some (.tup [.int q0, .int q1]), v3, v4, some (.cell a), some (.cell y), v7, v8]) ∧ Deck kd kg S' ∧ Kp [y, kd, kg] S S' ∧ ∃ way, S'[y]? = some (.lst (way.map Stp.d)) ∧ WI R 24 (pair.take i) way ∧ way.length = i) ?_ ?_ ?_ ?_
  · simp only [o_var]
    exact ⟨_, rfl, by trivial, ⟨_, _, rfl⟩, Dk, Kp.refl _ _, [], hy, by simpa using WI.nil, rfl⟩
  · rintro i δ S' ⟨_, _, k, _⟩
    exact k.get _ _ han ha
  · rintro i δ S1 x hx ⟨⟨v7, v8, rfl⟩, D1, k1, way, hy1, I, wl⟩
    obtain ⟨r, hr, rfl⟩ := nats_get hx
    refine ⟨_, set_nm, ?_⟩
    rw [hb1]
    unfold bX1
    have hpl := pk.len
    have hil : i < pair.length := (List.getElem?_eq_some_iff.mp hr).1
    have etk : pair.take (i + 1) = pair.take i ++ [r] := by rw [List.take_succ, hr]; rfl
    have hrn : r ∉ pair.take i := fun z => by
      have nd : (pair.take (i + 1)).Nodup := List.Nodup.sublist (List.take_sublist _ _) pk.nd
      rw [etk, List.nodup_append] at nd
      exact nd.2.2 r z r (by simp) rfl
    have tl : (pair.take i).length ≤ 3 := by rw [List.length_take]; omega
    have hif : ∀ bb : Bool, ∀ S2, Deck kd kg S2 → Kp [y, kd, kg] S1 S2 → S2[y]? = some (.lst (way.map Stp.d)) → OkS (dDrop (dMth mAppend (dVar 6) (dCons (dTup (dCons (dVar 8) (dCons (dVar 7) (dCons (dIf (dB (dBin opLt (dCall d_law_draw (dCons (dVar 0) (dCons (dC (.int 8)) dNil))) (dBin opIx (dVar 2) (dC (.int 1))))) (dC (.str "beside")) (dC (.str "alone"))) dNil)))) dNil)) [some (.cell kd), v1, some (.tup [.int q0, .int q1]), v3, v4, some (.cell a), some (.cell y), some (.int (r : Nat)), some (if bb = true then .str "try" else .str "in")] S2) ⟨fun δ S' => (∃ v7 v8, δ = [some (.cell kd), v1, some (.tup [.int q0, .int q1]), v3, v4, some (.cell a), some (.cell y), v7, v8]) ∧ Deck kd kg S' ∧ Kp [y, kd, kg] S S' ∧ ∃ way, S'[y]? = some (.lst (way.map Stp.d)) ∧ WI R 24 (pair.take (i + 1)) way ∧ way.length = i + 1, Q.rt, Q.nx, fun δ S' => (∃ v7 v8, δ = [some (.cell kd), v1, some (.tup [.int q0, .int q1]), v3, v4, some (.cell a), some (.cell y), v7, v8]) ∧ Deck kd kg S' ∧ Kp [y, kd, kg] S S' ∧ ∃ way, S'[y]? = some (.lst (way.map Stp.d)) ∧ WI R 24 (pair.take (i + 1)) way ∧ way.length = i + 1⟩ := by
      intro bb S2 D2 k2 hy2
      simp only [o_drop, o_mth, o_tup, o_cons, o_nil, o_ifC, o_B, o_bin, o_call, o_var, o_c, List.getElem?_cons_succ, List.getElem?_cons_zero]
      refine ⟨_, rfl, isL_cell hy2, _, rfl, _, rfl, _, rfl, ?_⟩
      refine Ok.imp (r_draw D2 (n := 8) (by decide) (by decide)) ?_
      rintro _ S3 ⟨i2, rfl, hi2, d3⟩
      refine ⟨_, rfl, ?_⟩
      rw [p_ixT1, Ok_ok, p_lt, Ok_ok]
      refine ⟨_, rfl, ?_⟩
      generalize decide ((i2 : Int) < q1) = m
      refine ⟨by simp [lim_eq], ?_⟩
      have hy3 := d3.2.get _ _ hyn hy2
      rw [m_app hy3 (by rw [List.length_map, lim_eq]; omega), Ok_ok]
      have e2 : way.map Stp.d ++ [D.tup [if bb = true then .str "try" else .str "in", .int (r : Nat), if m = true then .str "beside" else .str "alone"]] = (way ++ [Stp.inn bb (r, m)]).map Stp.d := by
        rw [List.map_append]
        cases bb <;> cases m <;> rfl
      rw [e2]
      refine ⟨⟨_, _, rfl⟩, d3.1.set hyn _, ((k1.trans k2).trans (d3.2.sub (by simp))).set (.inr (by simp)) _, _, get_set hy3, ?_, by simp [wl]⟩
      rw [etk]
      exact I.push (pk.lt r (List.mem_of_getElem? hr)) hrn (by omega)
    simp only [o_seq, o_set, o_ifC, o_and, o_B, o_bin, o_call, o_cons, o_nil, o_lst, o_var, o_c, List.getElem?_cons_succ, List.getElem?_cons_zero, List.set_cons_succ, List.set_cons_zero]
    refine ⟨_, rfl, ?_⟩
    refine Ok.imp (r_draw D1 (n := 6) (by decide) (by decide)) ?_
    rintro _ S2 ⟨i1, rfl, hi1, d2⟩
    refine ⟨_, rfl, ?_⟩
    rw [p_ixT0, Ok_ok, p_lt, Ok_ok]
    refine ⟨_, rfl, ?_⟩
    have hy2 := d2.2.get _ _ hyn hy1
    have k2 : Kp [y, kd, kg] S1 S2 := d2.2.sub (by simp)
    cases decide ((i1 : Int) < q0) with
    | false =>
      rw [if_neg (by simp)]
      exact hif false S2 d2.1 k2 hy2
    | true =>
      rw [if_pos rfl]
      refine ⟨_, rfl, by simp, ?_⟩
      have k3 : Kp [] S2 (S2 ++ [.lst []]) := Kp.app _ _ _
      have hy3 := k3.get _ _ (by simp) hy2
      rw [p_neNil hy3 (rd_stps (by omega) I.inr I.outr) (by decide) (get_push _ _), Ok_ok]
      exact ⟨_, rfl, hif _ _ (d2.1.kp k3) (k2.trans k3.of) hy3⟩
  · rintro δ S1 ⟨⟨v7, v8, rfl⟩, D1, k1, way, hy1, I, wl⟩
    have hl : (nats pair).length = pair.length := List.length_map ..
    rw [hl] at I wl
    rw [List.take_length] at I
    exact hQ S1 way v7 v8 D1 k1 hy1 I wl
end
end Dn
set_option Elab.async false
set_option linter.all false
set_option maxRecDepth 100000
set_option maxHeartbeats 2000000
/-! Bh_k92: crossed paths, whole. -/
noncomputable section
namespace Dn
open PySem L2
section
variable {S S' S0 : Sto} {kd kg s y rc R most : Nat} {δ : En} {Q : Po} {P : D → Sto → Prop} {K : List Nat}
theorem seq3 {x y z w : DS} (h : OkS (dSeq x (dSeq y z) δ S) ⟨fun δ S => OkS (w δ S) Q, Q.rt, Q.bk, Q.ct⟩) : OkS (dSeq x (dSeq y (dSeq z w)) δ S) Q := by
  simp only [o_seq] at h ⊢
  exact h
def bX : DS := dSeq (dSet 6 (dLst dNil)) (dSeq (dFor (srcA (dVar 5)) (.nm 7) bX1) (dSeq bX2 bX3))
def outF : D → Option D
  | .int i => some (.tup [.str "out", .int i])
  | _ => none
theorem out_list : ∀ l : List Nat, (nats l).filterMap outF = (l.map Stp.out).map Stp.d
  | [] => rfl
  | a :: l => by
    have ih := out_list l
    show (D.int (a : Nat) :: nats l).filterMap outF = _
    rw [List.filterMap_cons]
    show D.tup [.str "out", .int (a : Nat)] :: _ = _
    rw [ih]
    rfl
theorem t_bX {p a : Nat} {pair : List Nat} {q0 q1 : Int} {ws : List (List Stp)} {v1 v4 v6 v7 v8 : Option D} (Dk : Deck kd kg S) (hR : R ≤ 6) (ha : S[a]? = some (.lst (nats pair))) (han : a ∉ [p, kd, kg]) (hpn : p ∉ [kd, kg]) (hp : S[p]? = some (.lst (ws.map wayD))) (hw : ws.length ≤ 5) (pk : PairOk R pair)
    (hQ : ∀ S' w v6 v7 v8, Deck kd kg S' → Kp [p, kd, kg] S S' → S'[p]? = some (.lst ((ws ++ [w]).map wayD)) → WayOk R w → Q.nx [some (.cell kd), v1, some (.tup [.int q0, .int q1]), some (.cell p), v4, some (.cell a), v6, v7, v8] S') :
    OkS (bX [some (.cell kd), v1, some (.tup [.int q0, .int q1]), some (.cell p), v4, some (.cell a), v6, v7, v8] S) Q := by
  obtain ⟨b2, hb2⟩ : ∃ b, b = bX2 := ⟨_, rfl⟩
  obtain ⟨b3, hb3⟩ : ∃ b, b = bX3 := ⟨_, rfl⟩
  unfold bX
  rw [← hb2, ← hb3]
  simp only [o_seq, o_set, o_lst, o_nil, List.set_cons_succ, List.set_cons_zero]
  refine ⟨by simp, ?_⟩
  have k1 : Kp [] S (S ++ [.lst []]) := Kp.app _ _ _
  have D1 := Dk.kp k1
  have ha1 := k1.get _ _ (by simp) ha
  have hp1 := k1.get _ _ (by simp) hp
  have hy1 : (S ++ [C.lst []])[S.length]? = some (.lst []) := get_push _ _
  have hyn : S.length ∉ [kd, kg] := Dk.fresh (Nat.le_refl _)
  have hpl := lt_of_get hp
  have hal := lt_of_get ha
  generalize S ++ [C.lst []] = S1 at k1 D1 ha1 hp1 hy1
  refine t_ins D1 hR ha1 (by simp at han ⊢; omega) hyn hy1 pk ?_
  intro S2 way v7 v8 D2 k2 hy2 I wl
  have hpl3 := pk.len
  have ha2 := k2.get _ _ (by simp at han ⊢; omega) ha1
  have hp2 := k2.get _ _ (by simp at hpn ⊢; omega) hp1
  have k02 : Kp [kd, kg] S S2 := kpf (k1.of.trans k2) (Nat.le_refl _)
  rw [hb2]
  unfold bX2
  simp only [o_drop, o_mth, o_var, o_cons, o_nil, List.getElem?_cons_succ, List.getElem?_cons_zero]
  refine ⟨_, rfl, isL_cell hy2, ?_⟩
  refine ok_lcP (s0 := .rv (.cell a) pair.length) (xs := nats pair.reverse) outF ?_ (fun S' k => ?_) (fun S' i k hi => ?_) (by rw [List.length_map, List.length_reverse, lim_eq]; omega) ?_ ?_
  · unfold srcV
    rw [Ok_bnd, o_var]
    refine ⟨_, rfl, ?_⟩
    rw [isL_cell ha2, if_pos rfl, it_cell ha2]
    have : (nats pair).length = pair.length := List.length_map ..
    show _ = _ ∧ _
    rw [this]
    exact ⟨rfl, Kp.refl _ _⟩
  · simp [Src.len, it_cell (k.get _ _ (by simp) ha2)]
  · have hi2 : i < pair.length := by rw [List.length_map, List.length_reverse] at hi; exact hi
    have er : nats pair.reverse = (nats pair).reverse := List.map_reverse
    rw [er, List.getElem?_reverse (by rw [List.length_map]; exact hi2), List.length_map]
    simp [Src.item, it_cell (k.get _ _ (by simp) ha2)]
    try rw [Nat.sub_right_comm]
  · intro x hx S3 k3
    obtain ⟨r, hr, rfl⟩ := List.mem_map.mp hx
    refine ⟨_, set_nm, ?_⟩
    simp [wipeD, Kp.refl, outF, lim_eq]
  · intro S3 c3 k3 hl3 hc3
    rw [out_list] at hc3
    have hy3 := k3.get _ _ (by simp) hy2
    rw [m_ext hy3 hc3 (by simp [lim_eq]; omega), Ok_ok, ← List.map_append]
    have I' := WI.pops pair.length rfl I
    generalize way ++ pair.reverse.map Stp.out = w at I'
    have hy4 := get_set (c' := C.lst (w.map Stp.d)) hy3
    have hpy : S.length ≠ p := by omega
    have hp4 : (S3.set S.length (.lst (w.map Stp.d)))[p]? = some (.lst (ws.map wayD)) := by
      rw [List.getElem?_set_ne hpy]
      exact k3.get _ _ (by simp) hp2
    have D4 := (D2.kp k3).set hyn (.lst (w.map Stp.d))
    have k4 : Kp [kd, kg] S (S3.set S.length (.lst (w.map Stp.d))) := (k02.trans k3.of).set (.inl (Nat.le_refl _)) _
    generalize S3.set S.length (.lst (w.map Stp.d)) = S4 at hy4 hp4 D4 k4
    rw [hb3]
    unfold bX3
    simp only [o_drop, o_mth, o_var, o_cons, o_nil, o_call, List.getElem?_cons_succ, List.getElem?_cons_zero]
    refine ⟨_, rfl, isL_cell hp4, _, rfl, ?_⟩
    rw [b_tupL hy4, Ok_ok, m_app hp4 (by rw [List.length_map, lim_eq]; omega), Ok_ok]
    have ew : ws.map wayD ++ [D.tup (w.map Stp.d)] = (ws ++ [w]).map wayD := by rw [List.map_append]; rfl
    rw [ew]
    exact hQ _ w _ _ _ (D4.set hpn _) ((k4.sub (by simp)).set (.inr (by simp)) _) (get_set hp4) (I'.ok (by decide))
theorem r_crossed {hands : Nat} {q0 q1 : Int} (Dk : Deck kd kg S) (h2 : 2 ≤ hands) (h4 : hands ≤ 4) : Ok (d_law_crossed [.cell kd, .int (hands : Nat), .tup [.int q0, .int q1]] S) fun r S' => ∃ ws, r = houseD (List.replicate (hands + 1) storeD) ws ∧ WsOk (hands + 1) hands ws ∧ Dw kd kg S S' := by
  obtain ⟨bx, hbx⟩ : ∃ b, b = bX := ⟨_, rfl⟩
  obtain ⟨p1, hp1⟩ : ∃ b, b = bP1 := ⟨_, rfl⟩
  obtain ⟨p2, hp2⟩ : ∃ b, b = bP2 := ⟨_, rfl⟩
  obtain ⟨p3, hp3⟩ : ∃ b, b = bP3 := ⟨_, rfl⟩
  have eb : b_law_crossed = dSeq (dSet 3 (dLst dNil)) (dSeq (dFor (rng1 (dCons (dVar 1) dNil)) (.nm 4) (dSeq bP1 (dSeq bP2 (dSeq bP3 bX)))) (dRet (dTup (dCons (dBin opMul (dTup (dCons (dTup (dCons (dC (.str "store")) (dCons (dC .non) dNil))) dNil)) (dBin opAdd (dVar 1) (dC (.int 1)))) (dCons (dCall bTuple (dCons (dVar 3) dNil)) dNil))))) := rfl
  rw [← hbx, ← hp1, ← hp2, ← hp3] at eb
  simp only [d_law_crossed, eb, startD, o_fn]
  refine ⟨rfl, ?_⟩
  simp only [o_seq, o_set, o_lst, o_nil]
  refine ⟨by simp, ?_⟩
  have hpn : S.length ∉ [kd, kg] := Dk.fresh (Nat.le_refl _)
  refine ok_forR (n := hands) (by omega) (fun i δ S' => (∃ v4 v5 v6 v7 v8, δ = [some (.cell kd), some (.int (hands : Nat)), some (.tup [.int q0, .int q1]), some (.cell S.length), v4, v5, v6, v7, v8]) ∧ Deck kd kg S' ∧ Kp [S.length, kd, kg] S S' ∧ ∃ ws, S'[S.length]? = some (.lst (ws.map wayD)) ∧ WsOk (hands + 1) i ws) ?_ ?_ ?_
  · simp only [o_cons, o_nil, o_var]
    exact ⟨_, rfl, rfl, ⟨_, _, _, _, _, rfl⟩, Dk.push _, Kp.app _ _ _, [], get_push _ _, rfl, fun w hw => by cases hw⟩
  · rintro i δ S1 hi ⟨⟨v4, v5, v6, v7, v8, rfl⟩, D1, k1, ws, hw1, W⟩
    refine ⟨_, set_nm, seq3 ?_⟩
    simp only [List.set_cons_succ, List.set_cons_zero]
    rw [hp1, hp2, hp3]
    refine t_pair D1 h2 h4 hi ?_
    intro S2 a pair d2 hal ha2 pk
    have hw2 := d2.2.get _ _ hpn hw1
    have hwl := lt_of_get hw1
    rw [hbx]
    refine t_bX d2.1 (R := hands + 1) (by omega) ha2 ?_ hpn hw2 (by rw [W.len]; omega) pk ?_
    · have := D1.fresh hal
      simp at this ⊢
      omega
    · intro S3 w v6 v7 v8 D3 k3 hw3 hwok
      refine ⟨⟨_, _, _, _, _, rfl⟩, D3, (k1.trans (d2.2.sub (by simp))).trans k3, ws ++ [w], hw3, by rw [List.length_append, W.len]; rfl, fun u hu => ?_⟩
      rcases List.mem_append.mp hu with h | h
      · exact W.ok u h
      · rw [List.mem_singleton.mp h]
        exact hwok
  · rintro δ S1 ⟨⟨v4, v5, v6, v7, v8, rfl⟩, D1, k1, ws, hw1, W⟩
    simp only [o_ret, o_tup, o_cons, o_nil, o_bin, o_c, o_var, o_call, List.getElem?_cons_succ, List.getElem?_cons_zero]
    refine ⟨by simp [lim_eq], by simp [lim_eq], _, rfl, ?_⟩
    rw [p_add, Ok_ok]
    have e1 : (hands : Int) + 1 = ((hands + 1 : Nat) : Int) := by omega
    rw [e1, p_mulT1 (by omega) (by omega), Ok_ok]
    refine ⟨_, rfl, ?_⟩
    rw [b_tupL hw1, Ok_ok]
    exact ⟨by simp [lim_eq], ws, rfl, W, D1, kpf k1 (Nat.le_refl _)⟩
end
end Dn
set_option Elab.async false
set_option linter.all false
set_option maxRecDepth 100000
set_option maxHeartbeats 2000000
/-! Bi_k92: a door drawn. -/
noncomputable section
namespace Dn
open PySem L2
def RoomV (x : D) : Prop := ∀ K S, Rd K 4 600 S x
def SV (x : D) : Prop := x = .str "-" ∨ x = .str "even" ∨ x = .str "bow" ∨ x = .str "stand"
structure Tab (hands L tc : Nat) (S : Sto) : Prop where
  lt : L ≤ tc
  ex : ∃ cs : List Nat, S[tc]? = some (.lst (cs.map D.cell)) ∧ cs.length = hands ∧ ∀ c ∈ cs, L ≤ c ∧ c ≠ tc ∧ ∃ row : List D, S[c]? = some (.lst row) ∧ row.length = hands ∧ ∀ x ∈ row, SV x
section
variable {S S' S0 : Sto} {kd kg hands L tc : Nat} {δ : En} {Q : Po} {P : D → Sto → Prop} {K : List Nat}
theorem sv_rd {x : D} (h : SV x) : Rd K 0 7 S x := by
  rcases h with rfl | rfl | rfl | rfl <;> exact rd_str (by decide +kernel) (by decide +kernel)
theorem Tab.keep (h : Tab hands L tc S) (k : Kp K S S') (hK : ∀ n, L ≤ n → n ∉ K) : Tab hands L tc S' := by
  obtain ⟨hl, cs, h1, h2, h3⟩ := h
  refine ⟨hl, cs, k.get _ _ (hK _ hl) h1, h2, fun c hc => ?_⟩
  obtain ⟨a1, a2, row, a3, a4, a5⟩ := h3 c hc
  exact ⟨a1, a2, row, k.get _ _ (hK _ a1) a3, a4, a5⟩
theorem Tab.row {i : Nat} (h : Tab hands L tc S) (hi : i < hands) : ∃ c row, opIx (.cell tc) (.int (i : Nat)) S = .ok (.cell c) S ∧ L ≤ c ∧ c ≠ tc ∧ S[c]? = some (.lst row) ∧ row.length = hands ∧ (∀ x ∈ row, SV x) := by
  obtain ⟨hl, cs, h1, h2, h3⟩ := h
  have hi2 : cs[i]? = some (cs[i]'(by omega)) := List.getElem?_eq_getElem (by omega)
  obtain ⟨a1, a2, row, a3, a4, a5⟩ := h3 _ (List.mem_of_getElem? hi2)
  exact ⟨cs[i]'(by omega), row, p_ixL h1 (by simp [hi2]), a1, a2, a3, a4, a5⟩
theorem Tab.set {c : Nat} {row : List D} (h : Tab hands L tc S) (hc : c ≠ tc) (hcl : c < S.length) (hr : row.length = hands) (hv : ∀ x ∈ row, SV x) : Tab hands L tc (S.set c (.lst row)) := by
  obtain ⟨hl, cs, h1, h2, h3⟩ := h
  refine ⟨hl, cs, by rw [List.getElem?_set_ne hc]; exact h1, h2, fun c' hc' => ?_⟩
  obtain ⟨a1, a2, row', a3, a4, a5⟩ := h3 c' hc'
  refine ⟨a1, a2, ?_⟩
  by_cases e : c = c'
  · subst e
    exact ⟨row, List.getElem?_set_self hcl, hr, hv⟩
  · exact ⟨row', by rw [List.getElem?_set_ne e]; exact a3, a4, a5⟩
def bT1 : DS := dSeq (dSet 5 (dCall d_law_pick (dCons (dVar 0) (dCons (dLst (dCons (dC (.str "even")) (dCons (dC (.str "bow")) (dCons (dC (.str "stand")) (dCons (dC (.str "stand")) dNil))))) dNil)))) (dSeq (dIPut (dBin opIx (dVar 2) (dVar 3)) (dVar 4) (dVar 5)) (dIPut (dBin opIx (dVar 2) (dVar 4)) (dVar 3) (dIf (dB (dBin opEq (dVar 5) (dC (.str "even")))) (dVar 5) (dCall d_law_pick (dCons (dVar 0) (dCons (dLst (dCons (dC (.str "bow")) (dCons (dC (.str "stand")) dNil))) dNil))))))
theorem t_bT1 {i j : Nat} {v1 v5 v6 v7 v8 v9 : Option D} (Dk : Deck kd kg S) (hL : kd < L ∧ kg < L) (k0 : Kp [kd, kg] S0 S) (h0 : S0.length = L) (T : Tab hands L tc S) (hi : i < hands) (hj : j < hands)
    (hQ : ∀ S' v5, Deck kd kg S' → Kp [kd, kg] S0 S' → Tab hands L tc S' → Q.nx [some (.cell kd), v1, some (.cell tc), some (.int (i : Nat)), some (.int (j : Nat)), v5, v6, v7, v8, v9] S') :
    OkS (bT1 [some (.cell kd), v1, some (.cell tc), some (.int (i : Nat)), some (.int (j : Nat)), v5, v6, v7, v8, v9] S) Q := by
  have hn : ∀ n, L ≤ n → n ∉ [kd, kg] := fun n hn => by simp; omega
  have put : ∀ S1 a b x, Deck kd kg S1 → Kp [kd, kg] S0 S1 → Tab hands L tc S1 → a < hands → b < hands → SV x → ∃ c S2, opIx (.cell tc) (.int (a : Nat)) S1 = .ok (.cell c) S1 ∧ putI (.cell c) (.int (b : Nat)) x S1 = some S2 ∧ Deck kd kg S2 ∧ Kp [kd, kg] S0 S2 ∧ Tab hands L tc S2 := fun S1 a b x D1 k1 T1 ha hb hx => by
    obtain ⟨c, row, e1, e2, e3, e4, e5, e6⟩ := T1.row ha
    refine ⟨c, _, e1, putLI e4 (by omega), D1.set (hn c e2) _, k1.set (.inl (by omega)) _, T1.set e3 (lt_of_get e4) (by rw [List.length_set]; exact e5) fun z hz => ?_⟩
    rcases List.mem_or_eq_of_mem_set hz with h | h
    · exact e6 z h
    · exact h ▸ hx
  have pick : ∀ S1 (xs : List D), Deck kd kg S1 → Kp [kd, kg] S0 S1 → Tab hands L tc S1 → xs ≠ [] → xs.length ≤ 4 → (∀ x ∈ xs, SV x) → Ok (d_law_pick [.cell kd, .cell S1.length] (S1 ++ [.lst xs])) fun r S2 => SV r ∧ Deck kd kg S2 ∧ Kp [kd, kg] S0 S2 ∧ Tab hands L tc S2 := fun S1 xs D1 k1 T1 hne hl hv => by
    refine Ok.imp (r_pick (D1.push _) (get_push _ _) (D1.fresh (Nat.le_refl _)) hne (by omega)) ?_
    rintro r S2 ⟨hr, D2, k2⟩
    have ka : Kp [] S1 (S1 ++ [.lst xs]) := Kp.app _ _ _
    exact ⟨hv r hr, D2, (k1.trans ka.of).trans k2, (T1.keep ka (by simp)).keep k2 hn⟩
  unfold bT1
  simp only [o_seq, o_set, o_call, o_cons, o_nil, o_lst, o_var, o_c, List.getElem?_cons_succ, List.getElem?_cons_zero, List.set_cons_succ, List.set_cons_zero]
  refine ⟨_, rfl, by simp [lim_eq], ?_⟩
  refine Ok.imp (pick S _ Dk k0 T (by simp) (by simp) (fun x hx => by
    simp at hx
    rcases hx with rfl | rfl | rfl
    · exact .inr (.inl rfl)
    · exact .inr (.inr (.inl rfl))
    · exact .inr (.inr (.inr rfl)))) ?_
  rintro r S1 ⟨hr, D1, k1, T1⟩
  simp only [o_iput, o_bin, o_var, List.getElem?_cons_succ, List.getElem?_cons_zero]
  refine ⟨_, rfl, _, rfl, _, rfl, ?_⟩
  obtain ⟨c, S2, e1, e2, D2, k2, T2⟩ := put S1 i j r D1 k1 T1 hi hj hr
  rw [e1, Ok_ok]
  refine ⟨_, rfl, S2, e2, ?_⟩
  -- the mirror
  have last : ∀ S3 x, Deck kd kg S3 → Kp [kd, kg] S0 S3 → Tab hands L tc S3 → SV x → ∃ d, [some (D.cell kd), v1, some (.cell tc), some (.int (i : Nat)), some (.int (j : Nat)), some r, v6, v7, v8, v9][2]? = some (some d) ∧ ∃ d1, [some (D.cell kd), v1, some (.cell tc), some (.int (i : Nat)), some (.int (j : Nat)), some r, v6, v7, v8, v9][4]? = some (some d1) ∧ Ok (opIx d d1 S3) fun x2 S4 => ∃ d2, [some (D.cell kd), v1, some (.cell tc), some (.int (i : Nat)), some (.int (j : Nat)), some r, v6, v7, v8, v9][3]? = some (some d2) ∧ ∃ S5, putI x2 d2 x S4 = some S5 ∧ Q.nx [some (D.cell kd), v1, some (.cell tc), some (.int (i : Nat)), some (.int (j : Nat)), some r, v6, v7, v8, v9] S5 := fun S3 x D3 k3 T3 hx => by
    obtain ⟨c, S4, e1, e2, D4, k4, T4⟩ := put S3 j i x D3 k3 T3 hj hi hx
    refine ⟨_, rfl, _, rfl, ?_⟩
    rw [e1, Ok_ok]
    exact ⟨_, rfl, S4, e2, hQ S4 _ D4 k4 T4⟩
  simp only [o_if, o_B, o_call, o_cons, o_nil, o_lst, o_bin, o_var, o_c, List.getElem?_cons_succ, List.getElem?_cons_zero]
  refine ⟨_, rfl, ?_⟩
  obtain ⟨pr, hpr⟩ : ∃ p, r = .str p := by rcases hr with h | h | h | h <;> exact ⟨_, h⟩
  rw [hpr, p_eqS, Ok_ok, ← hpr]
  refine ⟨_, rfl, ?_⟩
  cases decide (pr = "even") with
  | true =>
    rw [if_pos rfl]
    exact ⟨_, rfl, last S2 r D2 k2 T2 hr⟩
  | false =>
    rw [if_neg (by simp)]
    refine ⟨_, rfl, by simp [lim_eq], ?_⟩
    refine Ok.imp (pick S2 _ D2 k2 T2 (by simp) (by simp) (fun x hx => by
      simp at hx
      rcases hx with rfl | rfl
      · exact .inr (.inr (.inl rfl))
      · exact .inr (.inr (.inr rfl)))) ?_
    rintro x S3 ⟨hx, D3, k3, T3⟩
    exact last S3 x D3 k3 T3 hx
end
end Dn
set_option Elab.async false
set_option linter.all false
set_option maxRecDepth 100000
set_option maxHeartbeats 2000000
/-! Bj_k92: a door drawn, whole. -/
noncomputable section
namespace Dn
open PySem L2
section
variable {S S' S0 : Sto} {kd kg hands L tc : Nat} {δ : En} {Q : Po} {P : D → Sto → Prop} {K : List Nat}
theorem m_popI {c i : Nat} {xs : List D} {d : D} (h : S[c]? = some (.lst xs)) (hi : xs[i]? = some d) (hl : xs.length ≤ lim) : mPop (.cell c) [.int (i : Nat)] S = .ok d (S.set c (.lst (xs.eraseIdx i))) := by
  have hlt := (List.getElem?_eq_some_iff.mp hi).1
  unfold mPop
  have e : decide (0 ≤ (i : Int) ∧ (i : Int) < (xs.length : Int) ∧ xs.length ≤ lim) = true := decide_eq_true ⟨by omega, by omega, hl⟩
  simp only [h, e, if_true, Int.toNat_natCast, hi]
theorem erase_nats : ∀ (l : List Nat) (i : Nat), (nats l).eraseIdx i = nats (l.eraseIdx i)
  | [], _ => rfl
  | _ :: _, 0 => rfl
  | a :: l, i + 1 => by
    show D.int (a : Nat) :: (nats l).eraseIdx i = D.int (a : Nat) :: nats (l.eraseIdx i)
    rw [erase_nats l i]
def bT3 : DS := dDrop (dMth mAppend (dVar 8) (dCons (dMth mPop (dVar 7) (dCons (dCall d_law_draw (dCons (dVar 0) (dCons (dCall bLen (dCons (dVar 7) dNil)) dNil))) dNil)) dNil))
def bT2 : DS := dSeq (dPar [7, 8] (dCons (dLc (rng1 (dCons (dVar 1) dNil)) (.nm 4) (dB (dBin opNe (dVar 4) (dVar 3))) (dVar 4) [4]) (dCons (dLst dNil) dNil))) (dSeq (dWhile (dB (dBin opNe (dVar 7) (dLst dNil))) bT3) (dDrop (dMth mAppend (dVar 6) (dCons (dCall bTuple (dCons (dVar 8) dNil)) dNil))))
def ordD (l : List Nat) : D := .tup (nats l)
structure OrdOk (hands : Nat) (l : List Nat) : Prop where
  lt : ∀ a ∈ l, a < hands
  len : l.length ≤ hands
theorem t_bT2 {i oc : Nat} {os : List (List Nat)} {v2 v4 v5 v7 v8 v9 : Option D} (Dk : Deck kd kg S) (h5 : hands ≤ 5) (hi : i < hands) (hoc : S[oc]? = some (.lst (os.map ordD))) (hon : oc ∉ [kd, kg]) (hos : os.length ≤ 5)
    (hQ : ∀ S' v4 v5 v7 v8 v9 l, Deck kd kg S' → Kp [oc, kd, kg] S S' → S'[oc]? = some (.lst ((os ++ [l]).map ordD)) → OrdOk hands l → Q.nx [some (.cell kd), some (.int (hands : Nat)), v2, some (.int (i : Nat)), v4, v5, some (.cell oc), v7, v8, v9] S') :
    OkS (bT2 [some (.cell kd), some (.int (hands : Nat)), v2, some (.int (i : Nat)), v4, v5, some (.cell oc), v7, v8, v9] S) Q := by
  obtain ⟨b3, hb3⟩ : ∃ b, b = bT3 := ⟨_, rfl⟩
  unfold bT2
  rw [← hb3]
  simp only [o_seq, o_par, o_cons, o_nil, o_lst]
  refine ok_lcR (n := hands) (intF fun j => !decide (j = i)) (by omega) ?_ ?_ ?_
  · simp [Kp.refl]
  · intro j hj S1 k1
    refine ⟨_, set_nm, ?_⟩
    have e : decide ((j : Int) = (i : Int)) = decide (j = i) := decide_eq_decide.mpr ⟨fun h => by omega, fun h => by omega⟩
    rw [intF_n]
    simp [wipeD, e, Kp.refl]
    by_cases h : j = i
    · have h' : (j : Int) = (i : Int) := by omega
      simp [h, Kp.refl]
    · have h' : ¬ (j : Int) = (i : Int) := by omega
      simp [h, Kp.refl]
  · intro S1 a k1 hal ha
    have ha : S1[a]? = some (.lst (nats ((List.range hands).filter fun j => !decide (j = i)))) := by
      rw [← intF_list]
      exact ha
    have rl : ((List.range hands).filter fun j => !decide (j = i)).length ≤ hands := by
      have := List.length_filter_le (fun j => !decide (j = i)) (List.range hands)
      rw [List.length_range] at this
      exact this
    have rlt : ∀ x ∈ (List.range hands).filter fun j => !decide (j = i), x < hands := fun x hx => List.mem_range.mp (List.mem_filter.mp hx).1
    generalize (List.range hands).filter (fun j => !decide (j = i)) = rest0 at ha rl rlt
    refine ⟨by simp, ?_⟩
    obtain ⟨b, hbd⟩ : ∃ b, b = S1.length := ⟨_, rfl⟩
    rw [← hbd]
    have k2 : Kp [] S1 (S1 ++ [.lst []]) := Kp.app _ _ _
    have D2 := (Dk.kp k1).kp k2
    have ha2 := k2.get _ _ (by simp) ha
    have hb2 : (S1 ++ [C.lst []])[b]? = some (.lst (nats [])) := by rw [hbd]; exact get_push _ _
    have hab : a ≠ b := by have := lt_of_get ha; omega
    have k02 : Kp [] S (S1 ++ [.lst []]) := k1.trans k2
    have hbl : S.length ≤ b := by have := k1.le; omega
    generalize S1 ++ [C.lst []] = S2 at k2 D2 ha2 hb2 k02
    show ∃ δ', Tg.setAll [.nm 7, .nm 8] [.cell a, .cell b] _ = some δ' ∧ _
    rw [setAll_cons, set_nm, Option.bind_some, setAll_cons, set_nm, Option.bind_some, setAll_nil]
    refine ⟨_, rfl, ?_⟩
    simp only [List.set_cons_succ, List.set_cons_zero]
    have han : a ∉ [kd, kg] := Dk.fresh hal
    have hbn : b ∉ [kd, kg] := Dk.fresh hbl
    refine ok_while (fun m δ S' => δ = [some (.cell kd), some (.int (hands : Nat)), v2, some (.int (i : Nat)), v4, v5, some (.cell oc), some (.cell a), some (.cell b), v9] ∧ Deck kd kg S' ∧ Kp [kd, kg] S S' ∧ ∃ rest row, S'[a]? = some (.lst (nats rest)) ∧ S'[b]? = some (.lst (nats row)) ∧ (∀ x ∈ rest, x < hands) ∧ (∀ x ∈ row, x < hands) ∧ rest.length + row.length ≤ hands ∧ m = rest.length) rest0.length (by omega) ?_ ?_
    · exact ⟨rfl, D2, k02.of, rest0, [], ha2, hb2, rlt, (fun x hx => by cases hx), by simpa using rl, rfl⟩
    · rintro m δ S3 ⟨rfl, D3, k3, rest, row, ha3, hb3', hr1, hr2, hl, rfl⟩
      simp only [o_B, o_bin, o_lst, o_nil, o_var, List.getElem?_cons_succ, List.getElem?_cons_zero]
      refine ⟨_, rfl, by simp, ?_⟩
      have k4 : Kp [] S3 (S3 ++ [.lst []]) := Kp.app _ _ _
      have ha4 := k4.get _ _ (by simp) ha3
      have hb4 := k4.get _ _ (by simp) hb3'
      rw [p_neNil ha4 (rd_nats fun x hx => by have := hr1 x hx; omega) (by decide) (get_push _ _), Ok_ok]
      refine ⟨_, rfl, ?_⟩
      have D4 := D3.kp k4
      have k04 : Kp [kd, kg] S (S3 ++ [.lst []]) := k3.trans k4.of
      generalize S3 ++ [C.lst []] = S4 at k4 ha4 hb4 D4 k04
      by_cases hne : rest = []
      · have e : (!(nats rest).isEmpty) = false := by rw [hne]; rfl
        rw [e, if_neg (by simp)]
        have hoc4 := k04.get _ _ hon hoc
        simp only [o_drop, o_mth, o_cons, o_nil, o_call, o_var, List.getElem?_cons_succ, List.getElem?_cons_zero]
        refine ⟨_, rfl, isL_cell hoc4, _, rfl, ?_⟩
        rw [b_tupL hb4, Ok_ok, m_app hoc4 (by rw [List.length_map, lim_eq]; omega), Ok_ok]
        have ew : os.map ordD ++ [D.tup (nats row)] = (os ++ [row]).map ordD := by rw [List.map_append]; rfl
        rw [ew]
        exact hQ _ _ _ _ _ _ row (D4.set hon _) ((k04.sub (by simp)).set (.inr (by simp)) _) (get_set hoc4) ⟨hr2, by omega⟩
      · have e : (!(nats rest).isEmpty) = true := by
          cases rest with
          | nil => exact absurd rfl hne
          | cons _ _ => rfl
        rw [e, if_pos rfl, hb3]
        unfold bT3
        simp only [o_drop, o_mth, o_cons, o_nil, o_call, o_var, List.getElem?_cons_succ, List.getElem?_cons_zero]
        refine ⟨_, rfl, isL_cell hb4, _, rfl, isL_cell ha4, _, rfl, _, rfl, ?_⟩
        have hpos : 1 ≤ rest.length := List.length_pos_iff.mpr hne
        have hll : ((nats rest).length : Int) = ((rest.length : Nat) : Int) := by rw [List.length_map]
        rw [b_lenL ha4, Ok_ok, hll]
        refine Ok.imp (r_draw D4 (n := rest.length) hpos (by omega)) ?_
        rintro _ S5 ⟨x, rfl, hx, d5⟩
        have ha5 := d5.2.get _ _ han ha4
        have hb5 := d5.2.get _ _ hbn hb4
        have hg : (nats rest)[x]? = some (.int (rest[x] : Nat)) := by simp [hx]
        rw [m_popI ha5 hg (by rw [List.length_map, lim_eq]; omega), Ok_ok, erase_nats]
        have ha6 := get_set (c' := C.lst (nats (rest.eraseIdx x))) ha5
        have hb6 : (S5.set a (.lst (nats (rest.eraseIdx x))))[b]? = some (.lst (nats row)) := by
          rw [List.getElem?_set_ne hab]
          exact hb5
        have D6 := d5.1.set han (.lst (nats (rest.eraseIdx x)))
        have k6 : Kp [kd, kg] S (S5.set a (.lst (nats (rest.eraseIdx x)))) := (k04.trans d5.2).set (.inl hal) _
        generalize S5.set a (.lst (nats (rest.eraseIdx x))) = S6 at ha6 hb6 D6 k6
        rw [m_app hb6 (by rw [List.length_map, lim_eq]; omega), Ok_ok]
        have er : nats row ++ [D.int (rest[x] : Nat)] = nats (row ++ [rest[x]]) := by simp
        rw [er]
        have le : (rest.eraseIdx x).length = rest.length - 1 := List.length_eraseIdx_of_lt hx
        refine ⟨(rest.eraseIdx x).length, by omega, by trivial, D6.set hbn _, k6.set (.inl hbl) _, _, _, by rw [List.getElem?_set_ne (Ne.symm hab)]; exact ha6, get_set hb6, fun z hz => hr1 z (List.mem_of_mem_eraseIdx hz), fun z hz => ?_, by simp; omega, rfl⟩
        rcases List.mem_append.mp hz with h | h
        · exact hr2 z h
        · rw [List.mem_singleton.mp h]
          exact hr1 _ (List.getElem_mem hx)
end
end Dn
set_option Elab.async false
set_option linter.all false
set_option maxRecDepth 100000
set_option maxHeartbeats 2000000
/-! Bk_k92: the door, joined. -/
noncomputable section
namespace Dn
open PySem L2
section
variable {S S' S0 : Sto} {kd kg hands L tc : Nat} {δ : En} {Q : Po} {P : D → Sto → Prop} {K : List Nat}
theorem sv_rd5 {x : D} (h : SV x) : Rd K 0 5 S x := by
  rcases h with rfl | rfl | rfl | rfl <;> exact rd_str (by decide +kernel) (by decide +kernel)
theorem rd_tiny {i : Nat} (h : i < 8) : Rd K 0 3 S (.int (i : Nat)) := rd_int (b := 2) (by omega) (by decide) (by decide)
theorem ord_rd {l : List Nat} (h5 : hands ≤ 5) (h : OrdOk hands l) : Rd K 1 20 S (ordD l) := rd_tup (k := 0) (w := 3) (fun x hx => by
  obtain ⟨a, ha, rfl⟩ := List.mem_map.mp hx
  have := h.lt a ha
  exact rd_tiny (by omega)) (Nat.le_refl _) (by rw [List.length_map]; have := h.len; omega)
def rowOf (S : Sto) : D → Option D
  | .cell c => match S[c]? with
    | some (.lst row) => some (.tup row)
    | _ => none
  | _ => none
theorem door_room {rows : List D} {os : List (List Nat)} (h5 : hands ≤ 5) (h1 : rows.length ≤ 5) (h2 : ∀ x ∈ rows, ∃ row, x = .tup row ∧ row.length ≤ 5 ∧ ∀ y ∈ row, SV y) (h3 : os.length ≤ 5) (h4 : ∀ l ∈ os, OrdOk hands l) : RoomV (.tup [.str "door", .tup rows, .tup (os.map ordD)]) := fun K S => by
  refine rd_tup (k := 2) (w := 155) (fun x hx => ?_) (by decide) (by simp)
  simp at hx
  rcases hx with rfl | rfl | rfl
  · exact rd_str (by decide +kernel) (by decide +kernel)
  · refine rd_tup (k := 1) (w := 30) (fun x hx => ?_) (by decide) (by omega)
    obtain ⟨row, rfl, hl, hv⟩ := h2 x hx
    exact rd_tup (k := 0) (w := 5) (fun y hy => sv_rd5 (hv y hy)) (Nat.le_refl _) (by omega)
  · refine rd_tup (k := 1) (w := 20) (fun x hx => ?_) (by decide) (by rw [List.length_map]; omega)
    obtain ⟨l, hl, rfl⟩ := List.mem_map.mp hx
    exact ord_rd h5 (h4 l hl)
theorem r_door (Dk : Deck kd kg S) (h1 : 1 ≤ hands) (h5 : hands ≤ 5) : Ok (d_law_door [.cell kd, .int (hands : Nat)] S) fun r S' => RoomV r ∧ Dw kd kg S S' := by
  obtain ⟨b1, hb1⟩ : ∃ b, b = bT1 := ⟨_, rfl⟩
  obtain ⟨b2, hb2⟩ : ∃ b, b = bT2 := ⟨_, rfl⟩
  have eb : b_law_door = dSeq (dSet 2 (dLc (rng1 (dCons (dVar 1) dNil)) (.nm 9) dYes (dBin opMul (dLst (dCons (dC (.str "-")) dNil)) (dVar 1)) [9])) (dSeq (dFor (rng1 (dCons (dVar 1) dNil)) (.nm 3) (dFor (rng1 (dCons (dVar 3) dNil)) (.nm 4) bT1)) (dSeq (dSet 6 (dLst dNil)) (dSeq (dFor (rng1 (dCons (dVar 1) dNil)) (.nm 3) bT2) (dRet (dTup (dCons (dC (.str "door")) (dCons (dCall bTuple (dCons (dLc (srcA (dVar 2)) (.nm 8) dYes (dCall bTuple (dCons (dVar 8) dNil)) [8]) dNil)) (dCons (dCall bTuple (dCons (dVar 6) dNil)) dNil)))))))) := rfl
  rw [← hb1, ← hb2] at eb
  simp only [d_law_door, eb, startD, o_fn]
  refine ⟨rfl, ?_⟩
  simp only [o_seq, o_set, o_lst, o_nil]
  have hL := Dk.lt
  have hnL : ∀ n, S.length ≤ n → n ∉ [kd, kg] := fun n hn => Dk.fresh hn
  refine ok_lc (s0 := .rng 0 (hands : Nat)) (N := hands) (c := S.length) (item := fun i => .int (i : Nat)) (fun i S' acc => Kp [] S S' ∧ S'[S.length]? = some (.lst acc) ∧ ∃ cs : List Nat, acc = cs.map D.cell ∧ cs.length = i ∧ ∀ c ∈ cs, S.length < c ∧ ∃ row : List D, S'[c]? = some (.lst row) ∧ row.length = hands ∧ ∀ x ∈ row, SV x) ?_ ?_ ?_ ?_ ?_
  · simp only [o_rng1, o_cons, o_nil, o_var]
    exact ⟨_, rfl, _, rfl, inRng_of (by omega) (by omega), by trivial, by trivial, Kp.app _ _ _, get_push _ _, [], rfl, rfl, fun c hc => by cases hc⟩
  · intro i S' acc h
    simp [Src.len]
  · intro i S' acc hi h
    simp [Src.item, hi]
  · rintro i S1 acc hi ⟨k1, hc, cs, rfl, hcl, hcs⟩
    refine ⟨_, set_nm, ?_⟩
    simp only [wipeD, List.foldl_cons, List.foldl_nil, o_yes, if_true, o_bin, o_lst, o_cons, o_nil, o_c, o_var]
    refine ⟨by simp [lim_eq], _, rfl, ?_⟩
    rw [p_mulL (get_push S1 (.lst [D.str "-"])) (by simp) (by omega), o_mkL, rep_one]
    refine ⟨by rw [List.length_replicate, lim_eq]; omega, ?_⟩
    have ka : Kp [] S1 ((S1 ++ [.lst [D.str "-"]]) ++ [.lst (List.replicate hands (D.str "-"))]) := (Kp.app _ _ _).push _
    have hn : ((S1 ++ [C.lst [D.str "-"]]) ++ [C.lst (List.replicate hands (D.str "-"))])[(S1 ++ [C.lst [D.str "-"]]).length]? = some (.lst (List.replicate hands (D.str "-"))) := get_push _ _
    have hcl1 := lt_of_get hc
    have hnl : (S1 ++ [C.lst [D.str "-"]]).length = S1.length + 1 := by simp
    rw [hnl] at hn ⊢
    have hc' := ka.get _ _ (by simp) hc
    generalize (S1 ++ [C.lst [D.str "-"]]) ++ [C.lst (List.replicate hands (D.str "-"))] = S2 at ka hn hc'
    refine ⟨hc', by rw [List.length_map, lim_eq]; omega, (k1.trans ka).set (.inl (Nat.le_refl _)) _, get_set hc', cs ++ [S1.length + 1], by simp, by simp [hcl], fun c hcm => ?_⟩
    rcases List.mem_append.mp hcm with h | h
    · obtain ⟨a1, row, a2, a3, a4⟩ := hcs c h
      exact ⟨a1, row, by rw [List.getElem?_set_ne (by omega)]; exact ka.get _ _ (by simp) a2, a3, a4⟩
    · rw [List.mem_singleton.mp h]
      exact ⟨by omega, _, by rw [List.getElem?_set_ne (by omega)]; exact hn, List.length_replicate .., fun x hx => .inl (List.mem_replicate.mp hx).2⟩
  · rintro S1 acc ⟨k1, hc, cs, rfl, hcl, hcs⟩
    have D1 := Dk.kp k1
    have T1 : Tab hands S.length S.length S1 := ⟨Nat.le_refl _, cs, hc, hcl, fun c hcm => by
      obtain ⟨a1, row, a2, a3, a4⟩ := hcs c hcm
      exact ⟨by omega, by omega, row, a2, a3, a4⟩⟩
    refine ok_forR (n := hands) (by omega) (fun i δ S' => (∃ v3 v4 v5 v6 v7 v8 v9, δ = [some (.cell kd), some (.int (hands : Nat)), some (.cell S.length), v3, v4, v5, v6, v7, v8, v9]) ∧ Deck kd kg S' ∧ Kp [kd, kg] S S' ∧ Tab hands S.length S.length S') ?_ ?_ ?_
    · simp only [o_cons, o_nil, o_var]
      exact ⟨_, rfl, by trivial, ⟨_, _, _, _, _, _, _, rfl⟩, D1, k1.of, T1⟩
    · rintro i δ S2 hi ⟨⟨v3, v4, v5, v6, v7, v8, v9, rfl⟩, D2, k2, T2⟩
      refine ⟨_, set_nm, ?_⟩
      simp only [List.set_cons_succ, List.set_cons_zero]
      refine ok_forR (n := i) (by omega) (fun j δ S' => (∃ v4 v5 v6 v7 v8 v9, δ = [some (.cell kd), some (.int (hands : Nat)), some (.cell S.length), some (.int (i : Nat)), v4, v5, v6, v7, v8, v9]) ∧ Deck kd kg S' ∧ Kp [kd, kg] S S' ∧ Tab hands S.length S.length S') ?_ ?_ ?_
      · simp only [o_cons, o_nil, o_var]
        exact ⟨_, rfl, by trivial, ⟨_, _, _, _, _, _, rfl⟩, D2, k2, T2⟩
      · rintro j δ S3 hj ⟨⟨v4, v5, v6, v7, v8, v9, rfl⟩, D3, k3, T3⟩
        refine ⟨_, set_nm, ?_⟩
        simp only [List.set_cons_succ, List.set_cons_zero]
        rw [hb1]
        refine t_bT1 D3 hL k3 rfl T3 hi (by omega) ?_
        intro S4 v5' D4 k4 T4
        exact ⟨⟨_, _, _, _, _, _, rfl⟩, D4, k4, T4⟩
      · rintro δ S3 ⟨⟨v4, v5, v6, v7, v8, v9, rfl⟩, D3, k3, T3⟩
        exact ⟨⟨_, _, _, _, _, _, _, rfl⟩, D3, k3, T3⟩
    · rintro δ S2 ⟨⟨v3, v4, v5, v6, v7, v8, v9, rfl⟩, D2, k2, T2⟩
      simp only [List.set_cons_succ, List.set_cons_zero]
      refine ⟨by simp, ?_⟩
      obtain ⟨oc, hoc⟩ : ∃ oc, oc = S2.length := ⟨_, rfl⟩
      rw [← hoc]
      have k3 : Kp [] S2 (S2 ++ [.lst []]) := Kp.app _ _ _
      have D3 := D2.kp k3
      have ho3 : (S2 ++ [C.lst []])[oc]? = some (.lst (([] : List (List Nat)).map ordD)) := by rw [hoc]; exact get_push _ _
      have hon : oc ∉ [kd, kg] := D2.fresh (by omega)
      generalize S2 ++ [C.lst []] = S3 at k3 D3 ho3
      refine ok_forR (n := hands) (by omega) (fun i δ S' => (∃ v3 v4 v5 v7 v8 v9, δ = [some (.cell kd), some (.int (hands : Nat)), some (.cell S.length), v3, v4, v5, some (.cell oc), v7, v8, v9]) ∧ Deck kd kg S' ∧ Kp [oc, kd, kg] S2 S' ∧ ∃ os : List (List Nat), S'[oc]? = some (.lst (os.map ordD)) ∧ os.length = i ∧ ∀ l ∈ os, OrdOk hands l) ?_ ?_ ?_
      · simp only [o_cons, o_nil, o_var]
        exact ⟨_, rfl, by trivial, ⟨_, _, _, _, _, _, rfl⟩, D3, k3.of, [], ho3, rfl, fun l hl => by cases hl⟩
      · rintro i δ S4 hi ⟨⟨v3, v4, v5, v7, v8, v9, rfl⟩, D4, k4, os, ho4, hol, hok⟩
        refine ⟨_, set_nm, ?_⟩
        simp only [List.set_cons_succ, List.set_cons_zero]
        rw [hb2]
        refine t_bT2 D4 h5 hi ho4 hon (by omega) ?_
        intro S5 v4 v5 v7 v8 v9 l D5 k5 ho5 hlok
        refine ⟨⟨_, _, _, _, _, _, rfl⟩, D5, k4.trans k5, os ++ [l], ho5, by simp [hol], fun z hz => ?_⟩
        rcases List.mem_append.mp hz with h | h
        · exact hok z h
        · rw [List.mem_singleton.mp h]
          exact hlok
      · rintro δ S4 ⟨⟨v3, v4, v5, v7, v8, v9, rfl⟩, D4, k4, os, ho4, hol, hok⟩
        have k24 : Kp [kd, kg] S2 S4 := kpf k4 (by omega)
        have T4 := T2.keep k24 hnL
        obtain ⟨_, cs, t1, t2, t3⟩ := T4
        simp only [o_ret, o_tup, o_cons, o_nil, o_c, o_call]
        refine ok_lcAL (xs := cs.map D.cell) (c0 := S.length) (rowOf S4) ?_ t1 (by rw [List.length_map, lim_eq]; omega) ?_ ?_
        · simp [Kp.refl]
        · intro x hx S5 k5
          obtain ⟨c, hcm, rfl⟩ := List.mem_map.mp hx
          obtain ⟨a1, a2, row, a3, a4, a5⟩ := t3 c hcm
          refine ⟨_, set_nm, ?_⟩
          have e1 : rowOf S4 (.cell c) = some (.tup row) := by
            unfold rowOf
            simp only [a3]
          have e2 := b_tupL (k5.get _ _ (by simp) a3)
          simp [wipeD, e2, e1, Kp.refl]
        · intro S5 c5 k5 hl5 hc5
          have mem : ∀ x ∈ (cs.map D.cell).filterMap (rowOf S4), ∃ row, x = .tup row ∧ row.length ≤ 5 ∧ ∀ y ∈ row, SV y := fun x hx => by
            obtain ⟨z, hz, hzx⟩ := List.mem_filterMap.mp hx
            obtain ⟨c, hcm, rfl⟩ := List.mem_map.mp hz
            obtain ⟨a1, a2, row, a3, a4, a5⟩ := t3 c hcm
            have e1 : rowOf S4 (.cell c) = some (.tup row) := by
              unfold rowOf
              simp only [a3]
            rw [e1] at hzx
            cases hzx
            exact ⟨row, rfl, by omega, a5⟩
          have len : ((cs.map D.cell).filterMap (rowOf S4)).length ≤ 5 := by
            have := List.length_filterMap_le (rowOf S4) (cs.map D.cell)
            rw [List.length_map] at this
            omega
          generalize (cs.map D.cell).filterMap (rowOf S4) = rows at hc5 mem len
          rw [b_tupL hc5, Ok_ok]
          simp only [o_var]
          refine ⟨_, rfl, ?_⟩
          rw [b_tupL (k5.get _ _ (by simp) ho4), Ok_ok]
          exact ⟨by simp [lim_eq], door_room h5 len mem (by omega) hok, D4.kp k5, (k2.trans k24).trans k5.of⟩
end
end Dn
set_option Elab.async false
set_option linter.all false
set_option maxRecDepth 100000
set_option maxHeartbeats 2000000
/-! Bl_k92: mixed rooms. -/
noncomputable section
namespace Dn
open PySem L2
section
variable {S S' S0 : Sto} {kd kg hands R : Nat} {δ : En} {Q : Po} {P : D → Sto → Prop} {K : List Nat}
theorem kp_any (S : Sto) : Kp [] [] S := ⟨Nat.zero_le _, fun n c _ h => by cases h⟩
theorem shown_small : ∀ r, r < 6 → (PyData.int (r : Nat)).shown.length ≤ 20 := by decide +kernel
theorem repr_room {r : Nat} (h : r < 6) : ∃ x : Str, (∀ S', bRepr [.int (r : Nat)] S' = .ok (.str x) S') ∧ x.length ≤ 20 := by
  obtain ⟨p, h1, h2, h3⟩ := b_repr (rd_tiny (K := []) (S := []) (i := r) (by omega)) (by decide) (by decide)
  have e : toPy 60 [] (.int (r : Nat)) = some (.int (r : Nat)) := rfl
  have e2 := h1 [] (Kp.refl _ _)
  rw [e] at e2
  have e3 : PyData.int (r : Nat) = p := Option.some.inj e2
  refine ⟨p.shown, fun S' => h3 S' (kp_any S'), ?_⟩
  rw [← e3]
  exact shown_small r h
theorem besd : (", 'beside'" : Str).length ≤ 20 := by decide +kernel
def fairD : D := .tup [.str "ahead", .str "kept", .str "first", .str "one", .str "given", .str "back", .str "left", .str "passes", .str "behind", .str "first"]
def oneD : D := .tup [.str "ahead", .str "kept", .str "first", .str "one", .str "tries", .str "back", .str "left", .str "passes", .str "free", .str "first"]
theorem fair_rd : Rd K 1 80 S fairD := rd_tup (k := 0) (w := 7) (fun x hx => by
  simp at hx
  rcases hx with rfl | rfl | rfl | rfl | rfl | rfl | rfl | rfl | rfl | rfl <;> exact rd_str (by decide +kernel) (by decide +kernel)) (Nat.le_refl _) (by simp)
theorem one_rd : Rd K 1 80 S oneD := rd_tup (k := 0) (w := 7) (fun x hx => by
  simp at hx
  rcases hx with rfl | rfl | rfl | rfl | rfl | rfl | rfl | rfl | rfl | rfl <;> exact rd_str (by decide +kernel) (by decide +kernel)) (Nat.le_refl _) (by simp)
theorem store_room {x : D} (h : x = .non ∨ x = fairD ∨ x = oneD) : RoomV (.tup [.str "store", x]) := fun K S => by
  refine rd_tup (k := 1) (w := 80) (fun z hz => ?_) (by decide) (by simp)
  simp at hz
  rcases hz with rfl | rfl
  · exact rd_str (by decide +kernel) (by decide +kernel)
  · rcases h with rfl | rfl | rfl
    · exact rd_non
    · exact fair_rd
    · exact one_rd
theorem okV_fair {P : D → Sto → Prop} (h : P fairD S) : Ok (d_fair [] S) P := by
  simp [d_fair, b_fair, startD, lim_eq]
  exact h
theorem ok_one {P : D → Sto → Prop} (h : P oneD S) : Ok (d_notify_one [] S) P := by
  simp [d_notify_one, b_notify_one, startD, lim_eq]
  exact h
theorem filt_bl {F : D → Option D} : ∀ {xs : List D}, (∀ x ∈ xs, ∃ b, F x = some (.bl b)) → ∃ l : List Bool, xs.filterMap F = l.map D.bl
  | [], _ => ⟨[], rfl⟩
  | x :: xs, h => by
    obtain ⟨b, hb⟩ := h x List.mem_cons_self
    obtain ⟨l, hl⟩ := filt_bl (xs := xs) fun z hz => h z (List.mem_cons_of_mem _ hz)
    exact ⟨b :: l, by rw [List.filterMap_cons, hb, hl]; rfl⟩
def occF (a : Str) (S : Sto) (x : D) : Option D := match toPy 60 S x with
  | some p => some (.bl (!(Builtin.Str.occurrences p.shown a 0 p.shown.length 1).isEmpty))
  | none => none
def bM1 : DS := dSet 6 (dCall bAny (dCons (dLc (srcA (dVar 2)) (.nm 5) dYes (dBin opInS (dBin opAddS (dCall bRepr (dCons (dVar 4) dNil)) (dC (.str ", 'beside'"))) (dCall bRepr (dCons (dVar 5) dNil))) [5]) dNil))
def bM2 : DS := dDrop (dMth mAppend (dVar 3) (dCons (dCall d_law_door (dCons (dVar 0) (dCons (dCall bLen (dCons (dVar 2) dNil)) dNil))) dNil))
def bM3 : DS := dDrop (dMth mAppend (dVar 3) (dCons (dTup (dCons (dC (.str "store")) (dCons (dIf (dB (dBin opEq (dVar 5) (dC (.int 1)))) (dCall d_law_pick (dCons (dVar 0) (dCons (dLst (dCons (dC .non) (dCons (dCallK d_fair [] dNil) (dCons (dCallK d_notify_one [] dNil) dNil)))) dNil))) (dC .non)) dNil))) dNil))
def bM : DS := dSeq bM1 (dSeq (dSet 5 (dCall d_law_draw (dCons (dVar 0) (dCons (dC (.int 4)) dNil)))) (dIfS (dAnd (dB (dBin opEq (dVar 5) (dC (.int 0)))) (dNot (dB (dVar 6)))) bM2 bM3))
theorem t_bM1 {r : Nat} {ws : List (List Stp)} {v0 v1 v3 v5 v6 : Option D} (hr : r < 6) (hR : R ≤ 100) (W : WsOk R hands ws) (h5 : hands ≤ 5)
    (hQ : ∀ S' b, Kp [] S S' → Q.nx [v0, v1, some (.tup (ws.map wayD)), v3, some (.int (r : Nat)), v5, some (.bl b)] S') : OkS (bM1 [v0, v1, some (.tup (ws.map wayD)), v3, some (.int (r : Nat)), v5, v6] S) Q := by
  obtain ⟨x, hx1, hx2⟩ := repr_room hr
  have hb := besd
  unfold bM1
  simp only [o_set, o_call, o_cons, o_nil]
  generalize (", 'beside'" : Str) = bs at hb
  have cases' : ∀ z ∈ ws.map wayD, ∃ p, (∀ S', Kp [] S S' → toPy 60 S' z = some p) ∧ ∀ S', Kp [] S S' → bRepr [z] S' = .ok (.str p.shown) S' := fun z hz => by
    obtain ⟨w, hw, rfl⟩ := List.mem_map.mp hz
    obtain ⟨p, h1, _, h3⟩ := b_repr (rd_way (K := []) (S := S) hR (W.ok w hw)) (by decide) (by decide)
    exact ⟨p, h1, h3⟩
  refine ok_lcAT (xs := ws.map wayD) (occF (x ++ bs) S) ?_ (by rw [List.length_map, W.len, lim_eq]; omega) ?_ ?_
  · simp [Kp.refl]
  · intro z hz S1 k1
    refine ⟨_, set_nm, ?_⟩
    obtain ⟨p, h1, h3⟩ := cases' z hz
    have e1 : opAddS (.str x) (.str bs) S1 = .ok (.str (x ++ bs)) S1 := by
      unfold opAddS
      simp only []
      rw [if_pos (by rw [lim_eq]; omega)]
    have e2 : occF (x ++ bs) S z = some (.bl (!(Builtin.Str.occurrences p.shown (x ++ bs) 0 p.shown.length 1).isEmpty)) := by
      unfold occF
      rw [h1 S (Kp.refl _ _)]
    simp only [wipeD, List.foldl_cons, List.foldl_nil, List.set_cons_succ, List.set_cons_zero, o_yes, if_true, o_bin, o_call, o_cons, o_nil, o_var, o_c, List.getElem?_cons_succ, List.getElem?_cons_zero]
    refine ⟨Kp.refl _ _, _, rfl, ?_⟩
    rw [hx1, Ok_ok, e1, Ok_ok]
    refine ⟨_, rfl, ?_⟩
    rw [h3 S1 k1, Ok_ok, e2]
    unfold opInS
    simp only [Ok_ok]
    exact ⟨Kp.refl _ _, by trivial⟩
  · intro S1 c k1 hl1 hc
    obtain ⟨l, hl⟩ := filt_bl (F := occF (x ++ bs) S) (xs := ws.map wayD) fun z hz => by
      obtain ⟨p, h1, h3⟩ := cases' z hz
      exact ⟨_, by unfold occF; rw [h1 S (Kp.refl _ _)]⟩
    rw [hl] at hc
    rw [b_anyL hc, Ok_ok]
    exact hQ S1 _ k1
theorem t_bM {fc i : Nat} {ws : List (List Stp)} {rs : List D} {v1 v4 v5 v6 : Option D} (D1 : Deck kd kg S) (h1 : 1 ≤ hands) (h5 : hands ≤ 5) (hR : R ≤ 6) (hi : i < 6) (W : WsOk R hands ws) (hfn : fc ∉ [kd, kg]) (hc1 : S[fc]? = some (.lst rs)) (hl : rs.length ≤ 6)
    (hQ : ∀ S' v4 v5 v6 x, Deck kd kg S' → Kp [fc, kd, kg] S S' → S'[fc]? = some (.lst (rs ++ [x])) → RoomV x → Q.nx [some (.cell kd), v1, some (.tup (ws.map wayD)), some (.cell fc), v4, v5, v6] S') :
    OkS (bM [some (.cell kd), v1, some (.tup (ws.map wayD)), some (.cell fc), some (.int (i : Nat)), v5, v6] S) Q := by
  have fin : ∀ (S2 : Sto) (x : D) (v4 v5 v6 : Option D), Deck kd kg S2 → Kp [kd, kg] S S2 → RoomV x → Ok (mAppend (.cell fc) [x] S2) fun _ S' => Q.nx [some (D.cell kd), v1, some (.tup (ws.map wayD)), some (.cell fc), v4, v5, v6] S' := by
    intro S2 x v4 v5 v6 D2 k2 hx
    have hc2 := k2.get _ _ hfn hc1
    rw [m_app hc2 (by rw [lim_eq]; omega), Ok_ok]
    exact hQ _ _ _ _ x (D2.set hfn _) ((k2.sub (by simp)).set (.inr (by simp)) _) (get_set hc2) hx
  obtain ⟨b2, hb2⟩ : ∃ b, b = bM2 := ⟨_, rfl⟩
  obtain ⟨b3, hb3⟩ : ∃ b, b = bM3 := ⟨_, rfl⟩
  unfold bM
  rw [← hb2, ← hb3, o_seq]
  refine t_bM1 hi (by omega) W h5 ?_
  intro S2 bb k2
  simp only [o_seq, o_set, o_call, o_cons, o_nil, o_var, o_c, List.getElem?_cons_succ, List.getElem?_cons_zero, List.set_cons_succ, List.set_cons_zero]
  refine ⟨_, rfl, ?_⟩
  refine Ok.imp (r_draw (D1.kp k2) (n := 4) (by decide) (by decide)) ?_
  rintro _ S3 ⟨n, rfl, hn, d3⟩
  have k13 : Kp [kd, kg] S S3 := k2.of.trans d3.2
  have hc3 := k13.get _ _ hfn hc1
  have store : OkS (b3 [some (.cell kd), v1, some (.tup (ws.map wayD)), some (.cell fc), some (.int (i : Nat)), some (.int (n : Nat)), some (.bl bb)] S3) Q := by
    rw [hb3]
    unfold bM3
    simp only [o_drop, o_mth, o_tup, o_if, o_B, o_bin, o_call, o_callK, o_lst, o_cons, o_nil, o_var, o_c, List.getElem?_cons_succ, List.getElem?_cons_zero]
    refine ⟨_, rfl, isL_cell hc3, _, rfl, ?_⟩
    rw [p_eqI, Ok_ok]
    refine ⟨_, rfl, ?_⟩
    cases decide ((n : Int) = 1) with
    | false =>
      rw [if_neg (by simp)]
      exact ⟨by simp [lim_eq], fin S3 _ _ _ _ d3.1 k13 (store_room (.inl rfl))⟩
    | true =>
      rw [if_pos rfl]
      refine ⟨_, rfl, rfl, ?_⟩
      refine okV_fair ?_
      refine ⟨rfl, ?_⟩
      refine ok_one ?_
      refine ⟨by simp [lim_eq], ?_⟩
      refine Ok.imp (r_pick (d3.1.push _) (get_push _ _) (d3.1.fresh (Nat.le_refl _)) (by simp) (by simp)) ?_
      rintro x S4 ⟨hx, D4, k4⟩
      refine ⟨by simp [lim_eq], fin S4 _ _ _ _ D4 ((k13.trans (Kp.app _ _ _)).trans k4) (store_room ?_)⟩
      simpa using hx
  rw [o_ifS]
  simp only [o_and, o_not, o_B, o_bin, o_var, o_c, List.getElem?_cons_succ, List.getElem?_cons_zero]
  refine ⟨_, rfl, ?_⟩
  rw [p_eqI, Ok_ok]
  refine ⟨_, rfl, ?_⟩
  cases decide ((n : Int) = 0) with
  | false =>
    rw [if_neg (by simp), if_neg (by simp)]
    exact store
  | true =>
    rw [if_pos rfl]
    refine ⟨_, rfl, bb, rfl, ?_⟩
    cases bb with
    | true =>
      rw [if_neg (by simp)]
      exact store
    | false =>
      have ef : (!false) = true := rfl
      rw [if_pos ef, hb2]
      unfold bM2
      simp only [o_drop, o_mth, o_call, o_cons, o_nil, o_var, List.getElem?_cons_succ, List.getElem?_cons_zero]
      refine ⟨_, rfl, isL_cell hc3, _, rfl, _, rfl, ?_⟩
      have hll : ((ws.map wayD).length : Int) = (hands : Int) := by rw [List.length_map, W.len]
      rw [b_lenT, Ok_ok, hll]
      refine Ok.imp (r_door d3.1 h1 h5) ?_
      rintro x S4 ⟨hx, D4, k4⟩
      exact fin S4 x _ _ _ D4 (k13.trans k4) hx
theorem r_own_mixed {ws : List (List Stp)} (Dk : Deck kd kg S) (h1 : 1 ≤ hands) (h5 : hands ≤ 5) (hR : R ≤ 6) (W : WsOk R hands ws) : Ok (d_law_own_mixed [.cell kd, .int (R : Nat), .tup (ws.map wayD)] S) fun r S' => ∃ rs, r = houseD rs ws ∧ rs.length = R ∧ (∀ x ∈ rs, RoomV x) ∧ Dw kd kg S S' := by
  obtain ⟨bm, hbm⟩ : ∃ b, b = bM := ⟨_, rfl⟩
  have eb : b_law_own_mixed = dSeq (dSet 3 (dLst dNil)) (dSeq (dFor (rng1 (dCons (dVar 1) dNil)) (.nm 4) bM) (dRet (dTup (dCons (dCall bTuple (dCons (dVar 3) dNil)) (dCons (dVar 2) dNil))))) := rfl
  rw [← hbm] at eb
  simp only [d_law_own_mixed, eb, startD, o_fn]
  refine ⟨rfl, ?_⟩
  simp only [o_seq, o_set, o_lst, o_nil]
  refine ⟨by simp, ?_⟩
  have hfn : S.length ∉ [kd, kg] := Dk.fresh (Nat.le_refl _)
  refine ok_forR (n := R) (by omega) (fun i δ S' => (∃ v4 v5 v6, δ = [some (.cell kd), some (.int (R : Nat)), some (.tup (ws.map wayD)), some (.cell S.length), v4, v5, v6]) ∧ Deck kd kg S' ∧ Kp [S.length, kd, kg] S S' ∧ ∃ rs : List D, S'[S.length]? = some (.lst rs) ∧ rs.length = i ∧ ∀ x ∈ rs, RoomV x) ?_ ?_ ?_
  · simp only [o_cons, o_nil, o_var]
    exact ⟨_, rfl, by trivial, ⟨_, _, _, rfl⟩, Dk.push _, Kp.app _ _ _, [], get_push _ _, rfl, fun x hx => by cases hx⟩
  · rintro i δ S1 hi ⟨⟨v4, v5, v6, rfl⟩, D1, k1, rs, hc1, hl, hv⟩
    refine ⟨_, set_nm, ?_⟩
    simp only [List.set_cons_succ, List.set_cons_zero]
    rw [hbm]
    refine t_bM (v4 := v4) D1 h1 h5 hR (by omega) W hfn hc1 (by omega) ?_
    intro S2 v4 v5 v6 x D2 k2 hc2 hx
    refine ⟨⟨_, _, _, rfl⟩, D2, k1.trans k2, rs ++ [x], hc2, by simp [hl], fun z hz => ?_⟩
    rcases List.mem_append.mp hz with h | h
    · exact hv z h
    · rw [List.mem_singleton.mp h]
      exact hx
  · rintro δ S1 ⟨⟨v4, v5, v6, rfl⟩, D1, k1, rs, hc1, hl, hv⟩
    simp only [o_ret, o_tup, o_cons, o_nil, o_call, o_var, List.getElem?_cons_succ, List.getElem?_cons_zero]
    refine ⟨_, rfl, ?_⟩
    rw [b_tupL hc1, Ok_ok]
    exact ⟨_, rfl, by simp [lim_eq], rs, rfl, hl, hv, D1, kpf k1 (Nat.le_refl _)⟩
end
end Dn
set_option Elab.async false
set_option linter.all false
set_option maxRecDepth 100000
set_option maxHeartbeats 2000000
/-! Ca_k92: the law's pairs. -/
noncomputable section
namespace Dn
open PySem L2
abbrev Row := Nat × Nat × Nat × List Nat
def rowAt (h : Nat) (w : List Stp) (p : Nat) : Option Row := match w[p]? with
  | some (.inn false t) => some (h, p, t.1, roomsH w p)
  | _ => none
def pairsWN (h : Nat) (w : List Stp) (n : Nat) : List Row := (List.range n).filterMap (rowAt h w)
def pairsN (ws : List (List Stp)) (n : Nat) : List Row := (List.range n).flatMap fun h => match ws[h]? with
  | some w => pairsWN h w w.length
  | none => []
def pairsT (ws : List (List Stp)) : List Row := pairsN ws ws.length
theorem pairsN_succ {ws : List (List Stp)} {n : Nat} {w : List Stp} (h : ws[n]? = some w) : pairsN ws (n + 1) = pairsN ws n ++ pairsWN n w w.length := by
  unfold pairsN
  rw [List.range_succ, List.flatMap_append]
  simp [h]
theorem pairsWN_succ {h n : Nat} {w : List Stp} : pairsWN h w (n + 1) = pairsWN h w n ++ (rowAt h w n).toList := by
  unfold pairsWN
  rw [List.range_succ, List.filterMap_append]
  simp only [List.filterMap_cons, List.filterMap_nil]
  cases rowAt h w n <;> rfl
theorem mem_pairsT {ws : List (List Stp)} {row : Row} : row ∈ pairsT ws ↔ ∃ h w p, ws[h]? = some w ∧ rowAt h w p = some row := by
  unfold pairsT pairsN
  rw [List.mem_flatMap]
  constructor
  · rintro ⟨h, hh, hm⟩
    have hlt := List.mem_range.mp hh
    rw [List.getElem?_eq_getElem hlt] at hm
    obtain ⟨p, _, hp⟩ := List.mem_filterMap.mp hm
    exact ⟨h, _, p, List.getElem?_eq_getElem hlt, hp⟩
  · rintro ⟨h, w, p, hw, hp⟩
    refine ⟨h, List.mem_range.mpr (List.getElem?_eq_some_iff.mp hw).1, ?_⟩
    rw [hw]
    refine List.mem_filterMap.mpr ⟨p, List.mem_range.mpr ?_, hp⟩
    unfold rowAt at hp
    cases q : w[p]? with
    | none => rw [q] at hp; cases hp
    | some s => exact (List.getElem?_eq_some_iff.mp q).1
def entR (rows : List Row) (one other : Nat) : Bool := rows.any fun r => decide (r.2.2.1 = other) && decide (one ∈ r.2.2.2)
theorem rowAt_some {h p : Nat} {w : List Stp} {row : Row} (e : rowAt h w p = some row) : ∃ t, w[p]? = some (.inn false t) ∧ row = (h, p, t.1, roomsH w p) := by
  unfold rowAt at e
  split at e
  · rename_i t ht
    exact ⟨t, ht, (Option.some.inj e).symm⟩
  · cases e
theorem E_of {ws : List (List Stp)} {one other : Nat} {w : List Stp} {k : Nat} {t : Th} (hw : w ∈ ws) (ht : w[k]? = some (.inn false t)) (h1 : t.1 = other) (h2 : one ∈ roomsH w k) : E ws one other = true := by
  refine List.any_eq_true.mpr ⟨w, hw, List.any_eq_true.mpr ⟨k, List.mem_filter.mpr ⟨List.mem_range.mpr (List.getElem?_eq_some_iff.mp ht).1, ?_⟩, ?_⟩⟩
  · unfold isIn
    rw [ht]
  · unfold entB insAt
    rw [ht]
    simp [h1, h2]
theorem ent_E {ws : List (List Stp)} {one other : Nat} : entR (pairsT ws) one other = E ws one other := by
  rw [Bool.eq_iff_iff]
  constructor
  · intro h
    obtain ⟨row, hr, h1⟩ := List.any_eq_true.mp h
    obtain ⟨hh, w, p, hw, hp⟩ := mem_pairsT.mp hr
    obtain ⟨t, ht, rfl⟩ := rowAt_some hp
    rw [Bool.and_eq_true] at h1
    exact E_of (List.mem_of_getElem? hw) ht (of_decide_eq_true h1.1) (of_decide_eq_true h1.2)
  · intro h
    obtain ⟨w, hw, k, t, ht, h1, h2⟩ := E_hit h
    obtain ⟨hh, hlt, he⟩ := List.getElem_of_mem hw
    refine List.any_eq_true.mpr ⟨(hh, k, t.1, roomsH w k), mem_pairsT.mpr ⟨hh, w, k, by rw [List.getElem?_eq_getElem hlt, he], by unfold rowAt; rw [ht]⟩, ?_⟩
    simp [h1, h2]
def rowD (x : Row × Nat) : D := .tup [.int (x.1.1 : Nat), .int (x.1.2.1 : Nat), .int (x.1.2.2.1 : Nat), .cell x.2]
structure PA (K : List Nat) (S : Sto) (pc : Nat) (rows : List Row) : Prop where
  cn : pc ∉ K
  ex : ∃ rc : List (Row × Nat), rc.map (·.1) = rows ∧ S[pc]? = some (.lst (rc.map rowD)) ∧ ∀ x ∈ rc, x.2 ∉ K ∧ S[x.2]? = some (.lst (nats x.1.2.2.2))
section
variable {S S' S0 : Sto} {kd kg hands R pc : Nat} {δ : En} {Q : Po} {P : D → Sto → Prop} {K : List Nat} {rows : List Row}
theorem PA.mono (h : PA K S pc rows) (k : Kp K S S') : PA K S' pc rows := by
  obtain ⟨cn, rc, h1, h2, h3⟩ := h
  exact ⟨cn, rc, h1, k.get _ _ cn h2, fun x hx => ⟨(h3 x hx).1, k.get _ _ (h3 x hx).1 (h3 x hx).2⟩⟩
theorem PA.nil (h : PA K S pc rows) : PA [] S pc rows := by
  obtain ⟨cn, rc, h1, h2, h3⟩ := h
  exact ⟨by simp, rc, h1, h2, fun x hx => ⟨by simp, (h3 x hx).2⟩⟩
theorem r_law_held {w : List Stp} {k : Nat} (hn : Nest w) (hk : k ≤ w.length) (hw : w.length ≤ 1000) : Ok (d_law_held [wayD w, .int (k : Nat)] S) fun r S' => Kp [] S S' ∧ r = .cell S.length ∧ S'[S.length]? = some (.lst ((heldT w k).map Th.d)) := by
  simp [d_law_held, b_law_held, startD, wayD, lim_eq]
  refine ok_forAT (xs := (w.take k).map Stp.d) (fun i δ S' => Kp [] S S' ∧ (∃ v, δ = [some (wayD w), some (.int (k : Nat)), some (.cell S.length), v]) ∧ S'[S.length]? = some (.lst ((heldT w i).map Th.d))) ?_ ?_ ?_
  · simp [cut_to, wayD, List.map_take]
    exact ⟨Kp.app _ _ _, by simp [heldT]⟩
  · rintro i δ S' x hx ⟨kp, ⟨v, rfl⟩, hc⟩
    have hi : i < k := by
      have := (List.getElem?_eq_some_iff.mp hx).1
      simp at this
      omega
    obtain ⟨s, hs, rfl⟩ : ∃ s, w[i]? = some s ∧ x = s.d := by
      simp [List.getElem?_take, hi] at hx
      obtain ⟨s, h1, h2⟩ := hx
      exact ⟨s, h1, h2.symm⟩
    have e := heldT_succ hs
    have hl : (heldT w i).length ≤ i := heldT_len w i
    cases s with
    | out r =>
      have hne := hn i r hs
      obtain ⟨l, t, hlt⟩ : ∃ l t, heldT w i = l ++ [t] := ⟨(heldT w i).dropLast, (heldT w i).getLast hne, (List.dropLast_concat_getLast hne).symm⟩
      have hc' : S'[S.length]? = some (.lst (l.map Th.d ++ [t.d])) := by rw [hc, hlt]; simp
      simp [Stp.d, isL_cell hc', m_pop hc']
      refine ⟨kp.set (.inl (Nat.le_refl _)) _, ?_⟩
      rw [get_set hc', e, hlt]
      simp [pushT]
    | inn b t =>
      have hw' : decide ((if b = true then ("try" : Str) else "in") = "out") = false := by cases b <;> simp
      have hw2 : ((if b = true then ("try" : Str) else "in") = "out") = False := eq_false (by cases b <;> simp)
      have ec : cutD [wD b, .int (t.1 : Nat), mD t.2] (some 1) none = [.int (t.1 : Nat), mD t.2] := cut_from (k := 1)
      have ec' : cutD [D.str (if b = true then ("try" : Str) else "in"), .int (t.1 : Nat), mD t.2] (some 1) none = [.int (t.1 : Nat), mD t.2] := ec
      simp [Stp.d, wD, hw', hw2, isL_cell hc, lim_eq, ec', m_app (d := .tup [.int (t.1 : Nat), mD t.2]) hc (by simp [lim_eq]; omega)]
      refine ⟨kp.set (.inl (Nat.le_refl _)) _, ?_⟩
      rw [get_set hc, e]
      simp [pushT, Th.d]
  · rintro δ S' ⟨kp, ⟨v, rfl⟩, hc⟩
    simp
    refine ⟨kp, ?_⟩
    have : min k w.length = k := by omega
    rw [hc]
    simp [this]
end
end Dn
set_option Elab.async false
set_option linter.all false
set_option maxRecDepth 100000
set_option maxHeartbeats 2000000
/-! Cb_k92: the law's pairs, walked. -/
noncomputable section
namespace Dn
open PySem L2
section
variable {S S' S0 : Sto} {kd kg hands R pc : Nat} {δ : En} {Q : Po} {P : D → Sto → Prop} {K : List Nat} {rows : List Row}
theorem lc_src {a : DE} {g : Tg} {t : DT} {elt : DE} {own : List Nat} {c0 : Nat} {S1 : Sto} (e : a δ S = .ok (.cell c0) S1) : dLc (srcA a) g t elt own δ S = dLc (srcA (dC (.cell c0))) g t elt own δ S1 := by
  unfold dLc srcA
  rw [e]
  rfl
theorem wn_len {h n : Nat} {w : List Stp} : (pairsWN h w n).length ≤ n := by
  have := List.length_filterMap_le (rowAt h w) (List.range n)
  rw [List.length_range] at this
  exact this
theorem pn_len {ws : List (List Stp)} (H : ∀ w ∈ ws, w.length ≤ 24) : ∀ n, n ≤ ws.length → (pairsN ws n).length ≤ 24 * n
  | 0, _ => by simp [pairsN]
  | n + 1, h => by
    have ih := pn_len H n (by omega)
    have hw : ws[n]? = some (ws[n]'(by omega)) := List.getElem?_eq_getElem (by omega)
    have h2 := H _ (List.mem_of_getElem? hw)
    rw [pairsN_succ hw, List.length_append]
    have := wn_len (h := n) (w := ws[n]'(by omega)) (n := (ws[n]'(by omega)).length)
    omega
def bO : DS := dIfS (dB (dBin opEq (dBin opIx (dVar 5) (dC (.int 0))) (dC (.str "in")))) (dDrop (dMth mAppend (dVar 1) (dCons (dTup (dCons (dVar 2) (dCons (dVar 4) (dCons (dBin opIx (dVar 5) (dC (.int 1))) (dCons (dLc (srcA (dCall d_law_held (dCons (dVar 3) (dCons (dVar 4) dNil)))) (.tp [(.nm 6), (.nm 7)]) dYes (dVar 6) [6, 7]) dNil))))) dNil))) dSkip
structure PB (L pc : Nat) (S : Sto) (rows : List Row) : Prop where
  lt : L ≤ pc
  ex : ∃ rc : List (Row × Nat), rc.map (·.1) = rows ∧ S[pc]? = some (.lst (rc.map rowD)) ∧ ∀ x ∈ rc, pc < x.2 ∧ S[x.2]? = some (.lst (nats x.1.2.2.2))
theorem t_bO {h k : Nat} {w : List Stp} {s : Stp} {v0 v6 v7 : Option D} (hs : w[k]? = some s) (hn : Nest w) (hw : w.length ≤ 1000) (hB : PB S0.length pc S rows) (k0 : Kp [] S0 S) (hl : rows.length ≤ 1000)
    (hQ : ∀ S' v6 v7, Kp [] S0 S' → PB S0.length pc S' (rows ++ (rowAt h w k).toList) → Q.nx [v0, some (.cell pc), some (.int (h : Nat)), some (wayD w), some (.int (k : Nat)), some s.d, v6, v7] S') :
    OkS (bO [v0, some (.cell pc), some (.int (h : Nat)), some (wayD w), some (.int (k : Nat)), some s.d, v6, v7] S) Q := by
  have hk := (List.getElem?_eq_some_iff.mp hs).1
  unfold bO
  rw [o_ifS]
  simp only [o_B, o_bin, o_var, o_c, List.getElem?_cons_succ, List.getElem?_cons_zero]
  refine ⟨_, rfl, ?_⟩
  have key : ∀ x : Str, opIx s.d (.int 0) S = .ok (.str x) S → (x = "in" ↔ ∃ t, s = .inn false t) → Ok (opIx s.d (.int 0) S) fun x S_1 => Ok (opEq x (.str "in") S_1) fun d S_2 => ∃ k_1, d = D.bl k_1 ∧ if k_1 = true then OkS (dDrop (dMth mAppend (dVar 1) (dCons (dTup (dCons (dVar 2) (dCons (dVar 4) (dCons (dBin opIx (dVar 5) (dC (.int 1))) (dCons (dLc (srcA (dCall d_law_held (dCons (dVar 3) (dCons (dVar 4) dNil)))) (.tp [(.nm 6), (.nm 7)]) dYes (dVar 6) [6, 7]) dNil))))) dNil)) [v0, some (.cell pc), some (.int (h : Nat)), some (wayD w), some (.int (k : Nat)), some s.d, v6, v7] S_2) Q else OkS (dSkip [v0, some (.cell pc), some (.int (h : Nat)), some (wayD w), some (.int (k : Nat)), some s.d, v6, v7] S_2) Q := by
    intro x ex hx
    rw [ex, Ok_ok, p_eqS, Ok_ok]
    refine ⟨_, rfl, ?_⟩
    by_cases hin : x = "in"
    · rw [decide_eq_true hin, if_pos rfl]
      obtain ⟨t, rfl⟩ := hx.mp hin
      obtain ⟨hlt, rc, r1, r2, r3⟩ := hB
      have er : rowAt h w k = some (h, k, t.1, roomsH w k) := by unfold rowAt; rw [hs]
      simp only [o_drop, o_mth, o_tup, o_cons, o_nil, o_bin, o_var, o_c, List.getElem?_cons_succ, List.getElem?_cons_zero]
      refine ⟨_, rfl, isL_cell r2, _, rfl, _, rfl, _, rfl, ?_⟩
      have ei : opIx (Stp.inn false t).d (.int 1) S = .ok (.int (t.1 : Nat)) S := rfl
      rw [ei, Ok_ok]
      obtain ⟨d, S1, e1, k1, rfl, hc1⟩ := (r_law_held (S := S) hn (Nat.le_of_lt hk) hw).ex
      have es : (dCall d_law_held (dCons (dVar 3) (dCons (dVar 4) dNil))) [v0, some (.cell pc), some (.int (h : Nat)), some (wayD w), some (.int (k : Nat)), some (Stp.inn false t).d, v6, v7] S = .ok (.cell S.length) S1 := e1
      rw [lc_src es]
      have hhl := heldT_len w k
      refine ok_lcAL (xs := (heldT w k).map Th.d) (c0 := S.length) fstF ?_ hc1 (by rw [List.length_map, lim_eq]; omega) ?_ ?_
      · simp [Kp.refl]
      · intro x hx S' kp
        obtain ⟨t, ht, rfl⟩ := List.mem_map.mp hx
        simp only [Th.d, set_tp, setAll_cons, set_nm, setAll_nil, Option.bind_some]
        refine ⟨_, rfl, ?_⟩
        simp [wipeD, fstF, Kp.refl]
      · intro S2 c2 k2 hl2 hc2
        rw [fst_list] at hc2
        have k02 := k1.trans k2
        have r2' := k02.get _ _ (by simp) r2
        have hpl := lt_of_get r2
        have hrl : rc.length ≤ 1000 := by
          have : (rc.map (·.1)).length = rows.length := by rw [r1]
          rw [List.length_map] at this
          omega
        refine ⟨by simp [lim_eq], ?_⟩
        rw [m_app r2' (by rw [List.length_map, lim_eq]; omega), Ok_ok]
        have k1l := k1.le
        have eD : rc.map rowD ++ [D.tup [.int (h : Nat), .int (k : Nat), .int (t.1 : Nat), .cell c2]] = (rc ++ [((h, k, t.1, roomsH w k), c2)]).map rowD := by rw [List.map_append]; rfl
        rw [eD]
        have hbase := hlt
        refine hQ _ _ _ ((k0.trans k02).set (.inl hbase) _) ⟨hlt, rc ++ [((h, k, t.1, roomsH w k), c2)], ?_, get_set r2', fun y hy => ?_⟩
        · rw [List.map_append, r1, er]
          rfl
        · rcases List.mem_append.mp hy with hy | hy
          · have := r3 y hy
            refine ⟨this.1, ?_⟩
            rw [List.getElem?_set_ne (by omega)]
            exact k02.get _ _ (by simp) this.2
          · rw [List.mem_singleton.mp hy]
            refine ⟨by show pc < c2; omega, ?_⟩
            rw [List.getElem?_set_ne (by show pc ≠ c2; omega)]
            exact hc2
    · rw [decide_eq_false hin, if_neg (by simp), o_skip]
      have er : rowAt h w k = none := by
        unfold rowAt
        rw [hs]
        cases s with
        | out r => rfl
        | inn b t => cases b with
          | true => rfl
          | false => exact absurd (hx.mpr ⟨t, rfl⟩) hin
      refine hQ S _ _ k0 ?_
      rw [er]
      simpa using hB
  cases s with
  | out r => exact key "out" rfl ⟨fun h => by simp at h, fun ⟨t, ht⟩ => by cases ht⟩
  | inn b t => cases b with
    | true => exact key "try" rfl ⟨fun h => by simp at h, fun ⟨t, ht⟩ => by cases ht⟩
    | false => exact key "in" rfl ⟨fun _ => ⟨t, rfl⟩, fun _ => rfl⟩
theorem r_own_pairs {rs : List D} {ws : List (List Stp)} (H : HOk R rs ws) : Ok (d_law_own_pairs [.tup (ws.map wayD)] S) fun r S' => Kp [] S S' ∧ ∃ pc, r = .cell pc ∧ PB S.length pc S' (pairsT ws) := by
  obtain ⟨bo, hbo⟩ : ∃ b, b = bO := ⟨_, rfl⟩
  have eb : b_law_own_pairs = dSeq (dSet 1 (dLst dNil)) (dSeq (dFor (enA (dCons (dVar 0) dNil)) (.tp [(.nm 2), (.nm 3)]) (dFor (enA (dCons (dVar 3) dNil)) (.tp [(.nm 4), (.nm 5)]) bO)) (dRet (dVar 1))) := rfl
  rw [← hbo] at eb
  simp only [d_law_own_pairs, eb, startD, o_fn]
  refine ⟨rfl, ?_⟩
  simp only [o_seq, o_set, o_lst, o_nil]
  refine ⟨by simp, ?_⟩
  have w5 := H.w5
  refine ok_forEAT (xs := ws.map wayD) (fun i δ S' => (∃ v2 v3 v4 v5 v6 v7, δ = [some (.tup (ws.map wayD)), some (.cell S.length), v2, v3, v4, v5, v6, v7]) ∧ Kp [] S S' ∧ PB S.length S.length S' (pairsN ws i)) ?_ ?_ ?_
  · simp only [o_cons, o_nil, o_var]
    exact ⟨_, rfl, by trivial, ⟨_, _, _, _, _, _, rfl⟩, Kp.app _ _ _, Nat.le_refl _, [], rfl, get_push _ _, fun x hx => by cases hx⟩
  · rintro i δ S1 x hx ⟨⟨v2, v3, v4, v5, v6, v7, rfl⟩, k1, B⟩
    obtain ⟨w, hw, rfl⟩ := map_get hx
    have hwm := List.mem_of_getElem? hw
    have hlen := H.len w hwm
    have hiw := (List.getElem?_eq_some_iff.mp hw).1
    have pnl := pn_len H.len i (Nat.le_of_lt hiw)
    simp only [set_tp, setAll_cons, set_nm, setAll_nil, Option.bind_some]
    refine ⟨_, rfl, ?_⟩
    simp only [List.set_cons_succ, List.set_cons_zero]
    refine ok_forEAT (xs := w.map Stp.d) (fun k δ S' => (∃ v4 v5 v6 v7, δ = [some (.tup (ws.map wayD)), some (.cell S.length), some (.int (i : Nat)), some (wayD w), v4, v5, v6, v7]) ∧ Kp [] S S' ∧ PB S.length S.length S' (pairsN ws i ++ pairsWN i w k)) ?_ ?_ ?_
    · simp only [o_cons, o_nil, o_var]
      exact ⟨_, rfl, by trivial, ⟨_, _, _, _, rfl⟩, k1, by simpa [pairsWN] using B⟩
    · rintro k δ S2 x hx ⟨⟨v4, v5, v6, v7, rfl⟩, k2, B2⟩
      obtain ⟨s, hs, rfl⟩ := map_get hx
      have hkw := (List.getElem?_eq_some_iff.mp hs).1
      have wnl := wn_len (h := i) (w := w) (n := k)
      simp only [set_tp, setAll_cons, set_nm, setAll_nil, Option.bind_some]
      refine ⟨_, rfl, ?_⟩
      simp only [List.set_cons_succ, List.set_cons_zero]
      rw [hbo]
      refine t_bO (h := i) hs (H.nest w hwm) (by omega) B2 k2 (by rw [List.length_append]; omega) ?_
      intro S3 v6 v7 k3 B3
      refine ⟨⟨_, _, _, _, rfl⟩, k3, ?_⟩
      rw [pairsWN_succ, ← List.append_assoc]
      exact B3
    · rintro δ S2 ⟨⟨v4, v5, v6, v7, rfl⟩, k2, B2⟩
      refine ⟨⟨_, _, _, _, _, _, rfl⟩, k2, ?_⟩
      have hl : (w.map Stp.d).length = w.length := List.length_map ..
      rw [hl] at B2
      rw [pairsN_succ hw]
      exact B2
  · rintro δ S1 ⟨⟨v2, v3, v4, v5, v6, v7, rfl⟩, k1, B⟩
    have hl : (ws.map wayD).length = ws.length := List.length_map ..
    rw [hl] at B
    simp only [o_ret, o_var]
    exact ⟨_, rfl, k1, _, rfl, B⟩
theorem PB.pa (h : PB S0.length pc S rows) (hK : ∀ n ∈ K, n < S0.length) : PA K S pc rows := by
  obtain ⟨hl, rc, h1, h2, h3⟩ := h
  refine ⟨fun z => by have := hK _ z; omega, rc, h1, h2, fun x hx => ⟨fun z => ?_, (h3 x hx).2⟩⟩
  have := hK _ z
  have := (h3 x hx).1
  omega
end
end Dn
set_option Elab.async false
set_option linter.all false
set_option maxRecDepth 100000
set_option maxHeartbeats 2000000
/-! Cc_k92: is entered, after the law. -/
noncomputable section
namespace Dn
open PySem L2
section
variable {S S' S0 : Sto} {kd kg hands R pc : Nat} {δ : En} {Q : Po} {P : D → Sto → Prop} {K : List Nat} {rows : List Row}
theorem ok_lcM {xs : List D} {c0 : Nat} {a : DE} {g : Tg} {elt : DE} {own : List Nat} (G : Nat → D) (hs : Ok (a δ S) fun d S1 => (d = .cell c0 ∧ S[c0]? = some (.lst xs) ∨ d = .tup xs) ∧ S1 = S) (hl : xs.length ≤ lim)
    (step : ∀ i x, xs[i]? = some x → ∀ S', Kp [] S S' → ∃ δ', g.set x (wipeD δ own) = some δ' ∧ Ok (elt δ' S') fun y S3 => Kp [] S' S3 ∧ y = G i)
    (done : ∀ S' c, Kp [] S S' → S.length ≤ c → S'[c]? = some (.lst ((List.range xs.length).map G)) → P (.cell c) S') : Ok (dLc (srcA a) g dYes elt own δ S) P := by
  obtain ⟨d, S1, e, hd, hS⟩ := hs.ex
  rw [hS] at e
  have hit : ∀ S', Kp [] S S' → items S' d = some xs := fun S' k => by
    rcases hd with ⟨rfl, h⟩ | rfl
    · exact it_cell (k.get _ _ (by simp) h)
    · rfl
  refine ok_lc (s0 := .seq d) (N := xs.length) (c := S.length) (item := fun i => xs[i]?.getD .non) (fun i S' acc => Kp [] S S' ∧ S'[S.length]? = some (.lst acc) ∧ acc = (List.range i).map G) ?_ ?_ ?_ ?_ ?_
  · rw [o_srcA, e, Ok_ok]
    refine .inr ⟨?_, ?_, rfl, rfl, Kp.app _ _ _, get_push _ _, rfl⟩
    · rcases hd with ⟨rfl, h⟩ | rfl <;> rfl
    · rcases hd with ⟨rfl, h⟩ | rfl
      · exact .inl (isL_cell h)
      · exact .inr rfl
  · rintro i S' acc ⟨k, _⟩
    simp [Src.len, hit S' k]
  · rintro i S' acc hi ⟨k, _⟩
    simp [Src.item, hit S' k, hi]
  · rintro i S' acc hi ⟨k, hc, rfl⟩
    have hx : xs[i]? = some xs[i] := List.getElem?_eq_getElem hi
    obtain ⟨δ', h1, h2⟩ := step i xs[i] hx S' k
    rw [hx, Option.getD_some]
    refine ⟨δ', h1, ?_⟩
    simp only [o_yes, if_true]
    refine Ok.imp h2 ?_
    rintro _ S3 ⟨k3, rfl⟩
    have hc3 := k3.get _ _ (by simp) hc
    refine ⟨hc3, by rw [List.length_map, List.length_range]; omega, (k.trans k3).set (.inl (Nat.le_refl _)) _, ?_, ?_⟩
    · rw [get_set hc3]
    · rw [List.range_succ, List.map_append]
      rfl
  · rintro S' acc ⟨k, hc, rfl⟩
    exact done S' _ k (Nat.le_refl _) hc
theorem any_range {α : Type} {l : List α} {p : α → Bool} {f : Nat → Bool} (h : ∀ i x, l[i]? = some x → f i = p x) : ((List.range l.length).map f).any id = l.any p := by
  rw [Bool.eq_iff_iff]
  constructor
  · intro ha
    obtain ⟨b, hb, hb2⟩ := List.any_eq_true.mp ha
    obtain ⟨i, hi, rfl⟩ := List.mem_map.mp hb
    have hlt := List.mem_range.mp hi
    have hx : l[i]? = some l[i] := List.getElem?_eq_getElem hlt
    exact List.any_eq_true.mpr ⟨l[i], List.getElem_mem hlt, by rw [← h i _ hx]; exact hb2⟩
  · intro ha
    obtain ⟨x, hx, hp⟩ := List.any_eq_true.mp ha
    obtain ⟨i, hi, rfl⟩ := List.getElem_of_mem hx
    refine List.any_eq_true.mpr ⟨f i, List.mem_map.mpr ⟨i, List.mem_range.mpr hi, rfl⟩, ?_⟩
    rw [h i _ (List.getElem?_eq_getElem hi)]
    exact hp
def entRow (one other : Nat) (r : Row) : Bool := decide (r.2.2.1 = other) && decide (one ∈ r.2.2.2)
theorem r_law_is_entered {one other : Nat} (hP : PA K S pc rows) (hl : rows.length ≤ 1000) : Ok (d_law_is_entered [.cell pc, .int (one : Nat), .int (other : Nat)] S) fun r S' => r = .bl (entR rows one other) ∧ Kp [] S S' := by
  obtain ⟨cn, rc, h1, h2, h3⟩ := hP
  have hrl : rc.length = rows.length := by rw [← h1, List.length_map]
  simp only [d_law_is_entered, b_law_is_entered, startD, o_fn, o_ret, o_call, o_cons, o_nil]
  refine ⟨rfl, ?_⟩
  refine ok_lcM (xs := rc.map rowD) (c0 := pc) (fun i => .bl ((rc[i]?.map fun x => entRow one other x.1).getD false)) ?_ (by rw [List.length_map, lim_eq]; omega) ?_ ?_
  · simp only [o_var]
    exact ⟨_, rfl, .inl ⟨by trivial, h2⟩, by trivial⟩
  · intro i x hx S1 k1
    obtain ⟨y, hy, rfl⟩ := map_get hx
    refine ⟨_, set_nm, ?_⟩
    have hyc := k1.get _ _ (by simp) (h3 y (List.mem_of_getElem? hy)).2
    rw [hy]
    simp only [wipeD, List.foldl_cons, List.foldl_nil, List.set_cons_succ, List.set_cons_zero, List.map_cons, List.map_nil, o_andV, o_bin, o_var, o_c]
    refine ⟨_, rfl, ?_⟩
    have e2 : opIx (rowD y) (.int 2) S1 = .ok (.int (y.1.2.2.1 : Nat)) S1 := rfl
    have e3 : opIx (rowD y) (.int 3) S1 = .ok (.cell y.2) S1 := rfl
    rw [e2, Ok_ok]
    refine ⟨_, rfl, ?_⟩
    rw [p_eqI, Ok_ok]
    refine ⟨_, rfl, ?_⟩
    have ed : decide ((y.1.2.2.1 : Int) = (other : Int)) = decide (y.1.2.2.1 = other) := decide_eq_decide.mpr ⟨fun h => by omega, fun h => by omega⟩
    rw [ed]
    show if decide (y.1.2.2.1 = other) = true then _ else _
    by_cases ho : y.1.2.2.1 = other
    · rw [decide_eq_true ho, if_pos rfl]
      refine ⟨_, rfl, _, rfl, ?_⟩
      rw [e3, Ok_ok, p_inN hyc, Ok_ok]
      refine ⟨Kp.refl _ _, ?_⟩
      simp [entRow, ho]
    · rw [decide_eq_false ho, if_neg (by simp)]
      refine ⟨Kp.refl _ _, ?_⟩
      simp [entRow, ho]
  · intro S1 c k1 hl1 hc
    have em : ((List.range (rc.map rowD).length).map fun i => D.bl ((rc[i]?.map fun x => entRow one other x.1).getD false)) = ((List.range rc.length).map fun i => (rc[i]?.map fun x => entRow one other x.1).getD false).map D.bl := by
      rw [List.map_map, List.length_map]
      rfl
    rw [em] at hc
    rw [b_anyL hc, Ok_ok]
    refine ⟨?_, k1⟩
    congr 1
    rw [any_range (p := fun x : Row × Nat => entRow one other x.1) (fun i x hx => by rw [hx]; rfl), ← h1]
    unfold entR
    rw [List.any_map]
    rfl
end
end Dn
set_option Elab.async false
set_option linter.all false
set_option maxRecDepth 100000
set_option maxHeartbeats 2000000
/-! Cd_k92: the law's sorting, one turn. -/
noncomputable section
namespace Dn
open PySem L2
section
variable {S S' S0 : Sto} {kd kg hands R pc fo : Nat} {δ : En} {Q : Po} {P : D → Sto → Prop} {K : List Nat} {rows : List Row}
theorem PA.fr {F : Nat} (h : PA K S pc rows) (hF : S.length ≤ F) (k : Kp [] S S') : PA [F] S' pc rows := by
  obtain ⟨cn, rc, h1, h2, h3⟩ := h
  have := lt_of_get h2
  refine ⟨by simp; omega, rc, h1, k.get _ _ (by simp) h2, fun x hx => ?_⟩
  have := lt_of_get (h3 x hx).2
  exact ⟨by simp; omega, k.get _ _ (by simp) (h3 x hx).2⟩
theorem any_ent {rest : List Nat} {room : Nat} {c0 : Nat} {own : List Nat} {δ : En} {i j : Nat} {P : D → Sto → Prop} (hP : PA [] S pc rows) (hl : rows.length ≤ 1000) (hr : rest.length ≤ 100)
    (h0 : S[c0]? = some (.lst (nats rest))) (hd0 : δ[0]? = some (some (.cell pc))) (hd2 : δ[2]? = some (some (.cell c0))) (hd5 : δ[5]? = some (some (.int (room : Nat)))) (h8 : 8 < δ.length)
    (hQ : ∀ S' , Kp [] S S' → P (.bl (rest.any fun own => entR rows own room)) S') :
    Ok (dCall bAny (dCons (dLc (srcA (dVar 2)) (.nm 8) dYes (dCall d_law_is_entered (dCons (dVar 0) (dCons (dVar 8) (dCons (dVar 5) dNil)))) [8]) dNil) δ S) P := by
  simp only [o_call, o_cons, o_nil]
  refine ok_lcM (xs := nats rest) (c0 := c0) (fun i => .bl ((rest[i]?.map fun own => entR rows own room).getD false)) ?_ (by rw [List.length_map, lim_eq]; omega) ?_ ?_
  · rw [o_var]
    exact ⟨_, hd2, .inl ⟨rfl, h0⟩, rfl⟩
  · intro i x hx S1 k1
    obtain ⟨a, ha, rfl⟩ := nats_get hx
    refine ⟨_, set_nm, ?_⟩
    have g0 : ((wipeD δ [8]).set 8 (some (.int (a : Nat))))[0]? = some (some (.cell pc)) := by
      simp only [wipeD, List.foldl_cons, List.foldl_nil]
      rw [List.getElem?_set_ne (by decide), List.getElem?_set_ne (by decide)]
      exact hd0
    have g5 : ((wipeD δ [8]).set 8 (some (.int (a : Nat))))[5]? = some (some (.int (room : Nat))) := by
      simp only [wipeD, List.foldl_cons, List.foldl_nil]
      rw [List.getElem?_set_ne (by decide), List.getElem?_set_ne (by decide)]
      exact hd5
    have g8 : ((wipeD δ [8]).set 8 (some (.int (a : Nat))))[8]? = some (some (.int (a : Nat))) := by
      rw [List.getElem?_set_self]
      simp only [wipeD, List.foldl_cons, List.foldl_nil, List.length_set]
      exact h8
    simp only [o_call, o_cons, o_nil, o_var]
    refine ⟨_, g0, _, g8, _, g5, ?_⟩
    refine Ok.imp (r_law_is_entered (hP.mono k1) hl) ?_
    rintro _ S2 ⟨rfl, k2⟩
    rw [ha]
    exact ⟨k2, rfl⟩
  · intro S1 c k1 hl1 hc
    have em : ((List.range (nats rest).length).map fun i => D.bl ((rest[i]?.map fun own => entR rows own room).getD false)) = ((List.range rest.length).map fun i => (rest[i]?.map fun own => entR rows own room).getD false).map D.bl := by
      rw [List.map_map, List.length_map]
      rfl
    rw [em] at hc
    rw [b_anyL hc, Ok_ok, any_range (p := fun own => entR rows own room) (fun i x hx => by rw [hx]; rfl)]
    exact hQ S1 k1
def bS1 : DS := dSet 6 (dLc (srcA (dVar 2)) (.nm 5) (dNot (dB (dCall bAny (dCons (dLc (srcA (dVar 2)) (.nm 8) dYes (dCall d_law_is_entered (dCons (dVar 0) (dCons (dVar 8) (dCons (dVar 5) dNil)))) [8]) dNil)))) (dVar 5) [5])
def bS2 : DS := dIfS (dB (dBin opEq (dVar 6) (dLst dNil))) dBrk dSkip
def bS3 : DS := dFor (srcA (dVar 6)) (.nm 5) (dIPut (dVar 3) (dVar 5) (dVar 4))
def bS5 : DS := dSet 2 (dLc (srcA (dVar 2)) (.nm 5) (dB (dBin (opIn true) (dVar 5) (dVar 6))) (dVar 5) [5])
def bS : DS := dSeq bS1 (dSeq bS2 (dSeq bS3 (dSeq (dSet 4 (dBin opAdd (dVar 4) (dC (.int 1)))) bS5)))
def freeL (rows : List Row) (rest : List Nat) : List Nat := rest.filter fun room => !(rest.any fun own => entR rows own room)
theorem t_bS {rc num : Nat} {rest f : List Nat} {v5 v6 v7 v8 : Option D} (hP : PA [fo] S pc rows) (hl : rows.length ≤ 1000) (hR : R ≤ 6) (hrl : rest.length ≤ R) (hrR : ∀ x ∈ rest, x < R) (hrc : S[rc]? = some (.lst (nats rest))) (hrcn : rc ≠ fo)
    (hfo : S[fo]? = some (.lst (nats f))) (hfl : f.length = R) (hfb : ∀ x ∈ f, x ≤ 6) (hnum : num ≤ 6)
    (hbk : ∀ S' v5 v6, freeL rows rest = [] → Kp [fo] S S' → S'[rc]? = some (.lst (nats rest)) → S'[fo]? = some (.lst (nats f)) → Q.bk [some (.cell pc), some (.int (R : Nat)), some (.cell rc), some (.cell fo), some (.int (num : Nat)), v5, v6, v7, v8] S')
    (hnx : ∀ S' rc' f' v5 v6, freeL rows rest ≠ [] → Kp [fo] S S' → S'[rc']? = some (.lst (nats (rest.filter fun x => decide (x ∉ freeL rows rest)))) → rc' ≠ fo → S'[fo]? = some (.lst (nats f')) → f'.length = R → (∀ x ∈ f', x ≤ 6) → Q.nx [some (.cell pc), some (.int (R : Nat)), some (.cell rc'), some (.cell fo), some (.int ((num + 1 : Nat) : Int)), v5, v6, v7, v8] S') :
    OkS (bS [some (.cell pc), some (.int (R : Nat)), some (.cell rc), some (.cell fo), some (.int (num : Nat)), v5, v6, v7, v8] S) Q := by
  obtain ⟨b2, hb2⟩ : ∃ b, b = bS2 := ⟨_, rfl⟩
  obtain ⟨b3, hb3⟩ : ∃ b, b = bS3 := ⟨_, rfl⟩
  obtain ⟨b5, hb5⟩ : ∃ b, b = bS5 := ⟨_, rfl⟩
  unfold bS
  rw [← hb2, ← hb3, ← hb5]
  unfold bS1
  have hPn := hP.nil
  have hfol := lt_of_get hfo
  simp only [o_seq, o_set]
  refine ok_lcAL (xs := nats rest) (c0 := rc) (intF fun room => !(rest.any fun own => entR rows own room)) ?_ hrc (by rw [List.length_map, lim_eq]; omega) ?_ ?_
  · simp [Kp.refl]
  · intro x hx S1 k1
    obtain ⟨room, hroom, rfl⟩ := List.mem_map.mp hx
    refine ⟨_, set_nm, ?_⟩
    simp only [wipeD, List.foldl_cons, List.foldl_nil, List.set_cons_succ, List.set_cons_zero, o_not, o_B]
    refine any_ent (rest := rest) (room := room) (c0 := rc) (own := [8]) (i := 0) (j := 0) (hPn.mono k1) hl (by omega) (k1.get _ _ (by simp) hrc) rfl rfl rfl (by simp) ?_
    intro S2 k2
    refine ⟨_, rfl, k2, ?_⟩
    rw [intF_n]
    cases rest.any fun own => entR rows own room <;> simp [k2]
  · intro S1 fc k1 hl1 hfc
    rw [intF_list] at hfc
    have hfe : rest.filter (fun room => !(rest.any fun own => entR rows own room)) = freeL rows rest := rfl
    rw [hfe] at hfc
    generalize hfree : freeL rows rest = free at hfc hbk hnx
    have hfr : ∀ a ∈ free, a < R := fun a ha => by
      rw [← hfree] at ha
      exact hrR a (List.mem_filter.mp ha).1
    have hfcn : fc ≠ fo := by omega
    rw [hb2]
    unfold bS2
    rw [o_ifS]
    simp only [o_B, o_bin, o_lst, o_nil, o_var, List.getElem?_cons_succ, List.getElem?_cons_zero, List.set_cons_succ, List.set_cons_zero]
    refine ⟨_, rfl, by simp, ?_⟩
    have k2 : Kp [] S (S1 ++ [.lst []]) := k1.push _
    have hfc2 := (Kp.app [] S1 [.lst []]).get _ _ (by simp) hfc
    have hrc2 := k2.get _ _ (by simp) hrc
    have hfo2 := k2.get _ _ (by simp) hfo
    rw [p_eqNil hfc2 (rd_nats fun x hx => by have := hfr x hx; omega) (by decide) (get_push _ _), Ok_ok]
    refine ⟨_, rfl, ?_⟩
    generalize S1 ++ [C.lst []] = S2 at k2 hfc2 hrc2 hfo2
    by_cases hf : free = []
    · have e : (nats free).isEmpty = true := by rw [hf]; rfl
      rw [e, if_pos rfl, o_brk]
      exact hbk S2 _ _ hf k2.of hrc2 hfo2
    · have e : (nats free).isEmpty = false := by
        cases free with
        | nil => exact absurd rfl hf
        | cons _ _ => rfl
      rw [e, if_neg (by simp), o_skip, hb3]
      unfold bS3
      refine ok_forAL (xs := nats free) (c := fc) (fun i δ S' => (∃ v5, δ = [some (.cell pc), some (.int (R : Nat)), some (.cell rc), some (.cell fo), some (.int (num : Nat)), v5, some (.cell fc), v7, v8]) ∧ Kp [fo] S2 S' ∧ ∃ f', S'[fo]? = some (.lst (nats f')) ∧ f'.length = R ∧ ∀ x ∈ f', x ≤ 6) ?_ ?_ ?_ ?_
      · simp only [o_var]
        exact ⟨_, rfl, by trivial, ⟨_, rfl⟩, Kp.refl _ _, f, hfo2, hfl, hfb⟩
      · rintro i δ S' ⟨_, k, _⟩
        exact k.get _ _ (by simpa using hfcn) hfc2
      · rintro i δ S3 x hx ⟨⟨v5, rfl⟩, k3, f', hfo3, hfl', hfb'⟩
        obtain ⟨a, ha, rfl⟩ := nats_get hx
        refine ⟨_, set_nm, ?_⟩
        have haR := hfr a (List.mem_of_getElem? ha)
        simp only [o_iput, o_var, List.getElem?_cons_succ, List.getElem?_cons_zero, List.set_cons_succ, List.set_cons_zero]
        refine ⟨_, rfl, _, rfl, _, rfl, _, putLI hfo3 (by rw [List.length_map]; omega), ⟨_, rfl⟩, k3.set (.inr (by simp)) _, f'.set a num, ?_, by rw [List.length_set]; exact hfl', fun x hx => ?_⟩
        · rw [get_set hfo3]
          simp
        · rcases List.mem_or_eq_of_mem_set hx with h | h
          · exact hfb' x h
          · omega
      · rintro δ S3 ⟨⟨v5, rfl⟩, k3, f', hfo3, hfl', hfb'⟩
        simp only [o_bin, o_var, o_c, List.getElem?_cons_succ, List.getElem?_cons_zero, List.set_cons_succ, List.set_cons_zero]
        refine ⟨_, rfl, ?_⟩
        rw [p_add, Ok_ok, hb5]
        unfold bS5
        simp only [o_set]
        have hrc3 := k3.get _ _ (by simpa using hrcn) hrc2
        have hfc3 := k3.get _ _ (by simpa using hfcn) hfc2
        refine ok_lcAL (xs := nats rest) (c0 := rc) (intF fun x => decide (x ∉ free)) ?_ hrc3 (by rw [List.length_map, lim_eq]; omega) ?_ ?_
        · simp [Kp.refl]
        · intro x hx S4 k4
          obtain ⟨r, hr, rfl⟩ := List.mem_map.mp hx
          refine ⟨_, set_nm, ?_⟩
          have := p_inN (neg := true) (k := r) (k4.get _ _ (by simp) hfc3)
          simp [wipeD, this, intF_n, Kp.refl]
          by_cases hm : r ∈ free <;> simp [hm, Kp.refl]
        · intro S4 rc' k4 hl4 hrc4
          rw [intF_list] at hrc4
          have hfo4 := k4.get _ _ (by simp) hfo3
          have le3 := lt_of_get hfo3
          have en : ((num : Nat) : Int) + 1 = ((num + 1 : Nat) : Int) := by omega
          simp only [List.set_cons_succ, List.set_cons_zero]
          rw [en]
          exact hnx S4 rc' f' _ _ hf ((k2.of.trans k3).trans k4.of) hrc4 (by omega) hfo4 hfl' hfb'
end
end Dn
set_option Elab.async false
set_option linter.all false
set_option maxRecDepth 100000
set_option maxHeartbeats 2000000
/-! Ce_k92: the law's sorting. -/
noncomputable section
namespace Dn
open PySem L2
section
variable {S S' S0 : Sto} {kd kg hands R pc fo : Nat} {δ : En} {Q : Po} {P : D → Sto → Prop} {K : List Nat} {rows : List Row}
def bS6 : DS := dIfS (dB (dBin opEq (dVar 2) (dLst dNil))) (dRet (dLst (dCons (dCall bTuple (dCons (dVar 3) dNil)) (dCons (dC .non) dNil)))) dSkip
def bS7 : DS := dSet 7 (dLst (dCons (dBin opIx (dVar 2) (dC (.int 0))) dNil))
def tS8 : DT := dB (dBin (opIn true) (dBin opIx (dVar 7) (dC (.int 0))) (dSl (dVar 7) (dPart (dC (.int 1))) dNoPart))
def bS8 : DS := dSet 7 (dBin opAdd (dLst (dCons (dBin opIx (dLc (srcA (dVar 2)) (.nm 8) (dB (dCall d_law_is_entered (dCons (dVar 0) (dCons (dVar 8) (dCons (dBin opIx (dVar 7) (dC (.int 0))) dNil))))) (dVar 8) [8]) (dC (.int 0))) dNil)) (dVar 7))
def bS9 : DS := dRet (dLst (dCons (dC .non) (dCons (dCall bTuple (dCons (dSl (dVar 7) dNoPart (dPart (dMth mIndex (dVar 7) (dCons (dBin opIx (dVar 7) (dC (.int 0))) (dCons (dC (.int 1)) dNil))))) dNil)) dNil)))
def bT9 : DS := dSeq bS6 (dSeq bS7 (dSeq (dWhile tS8 bS8) bS9))
theorem m_index1 {c x : Nat} {l : List Nat} (h : S[c]? = some (.lst (nats (x :: l)))) (hx : x ∈ l) : mIndex (.cell c) [.int (x : Nat), .int 1] S = .ok (.int ((1 + l.idxOf x : Nat) : Int)) S := by
  unfold mIndex
  have e : (x : Int) ∈ l.map Int.ofNat := List.mem_map.mpr ⟨x, hx, rfl⟩
  have hT : isT (.cell c) = false := rfl
  have e1 : ((x :: l).map Int.ofNat).drop (1 : Int).toNat = l.map Int.ofNat := rfl
  have e2 : (0 : Int) ≤ 1 ∧ (x : Int) ∈ l.map Int.ofNat := ⟨by decide, e⟩
  simp only [hT, Bool.false_eq_true, if_false, it_cell h, ints_nats, e1, if_pos e2, idx_nats x l hx]
  rfl
theorem cut_toN {xs : List D} {k : Nat} : cutD xs none (some (k : Nat)) = xs.take k := cut_to
theorem sl_toL {c k : Nat} {xs : List D} (h : S[c]? = some (.lst xs)) : opSl (.cell c) none (some (k : Nat)) S = .ok (.cell S.length) (S ++ [.lst (xs.take k)]) := by
  unfold opSl
  simp only [h, cut_toN]
theorem sl_one {c : Nat} {xs : List D} (h : S[c]? = some (.lst xs)) : opSl (.cell c) (some 1) none S = .ok (.cell S.length) (S ++ [.lst (xs.drop 1)]) := ok_slL (k := 1) h
theorem t_bT9 {rc num : Nat} {rest f : List Nat} {v5 v6 v7 v8 : Option D} (hP : PA [] S pc rows) (hl : rows.length ≤ 1000) (hR : R ≤ 6) (hrl : rest.length ≤ R) (hrR : ∀ x ∈ rest, x < R) (hrc : S[rc]? = some (.lst (nats rest)))
    (hfo : S[fo]? = some (.lst (nats f))) (hst : ∀ r ∈ rest, ∃ a ∈ rest, entR rows a r = true)
    (h1 : ∀ S' c, rest = [] → Kp [] S S' → S'[c]? = some (.lst [.tup (nats f), .non]) → Q.rt (.cell c) S')
    (h2 : ∀ S' c l, rest ≠ [] → Kp [] S S' → S'[c]? = some (.lst [.non, .tup (nats l)]) → l ≠ [] → l.length ≤ 7 → (∀ x ∈ l, x < R) → Q.rt (.cell c) S') :
    OkS (bT9 [some (.cell pc), some (.int (R : Nat)), some (.cell rc), some (.cell fo), some (.int (num : Nat)), v5, v6, v7, v8] S) Q := by
  obtain ⟨b7, hb7⟩ : ∃ b, b = bS7 := ⟨_, rfl⟩
  obtain ⟨b8, hb8⟩ : ∃ b, b = bS8 := ⟨_, rfl⟩
  obtain ⟨t8, ht8⟩ : ∃ b, b = tS8 := ⟨_, rfl⟩
  obtain ⟨b9, hb9⟩ : ∃ b, b = bS9 := ⟨_, rfl⟩
  unfold bT9
  rw [← hb7, ← hb8, ← hb9, ← ht8, o_seq]
  unfold bS6
  rw [o_ifS]
  simp only [o_B, o_bin, o_lst, o_nil, o_var, List.getElem?_cons_succ, List.getElem?_cons_zero]
  refine ⟨_, rfl, by simp, ?_⟩
  have k1 : Kp [] S (S ++ [.lst []]) := Kp.app _ _ _
  have hrc1 := k1.get _ _ (by simp) hrc
  have hfo1 := k1.get _ _ (by simp) hfo
  have hP1 := hP.mono k1
  rw [p_eqNil hrc1 (rd_nats fun x hx => by have := hrR x hx; omega) (by decide) (get_push _ _), Ok_ok]
  refine ⟨_, rfl, ?_⟩
  generalize S ++ [C.lst []] = S1 at k1 hrc1 hfo1 hP1
  cases hre : rest with
  | nil =>
    simp only [List.map_nil, List.isEmpty_nil, if_true, o_ret, o_lst, o_cons, o_nil, o_call, o_var, o_c, List.getElem?_cons_succ, List.getElem?_cons_zero]
    refine ⟨_, rfl, ?_⟩
    rw [b_tupL hfo1, Ok_ok]
    exact ⟨by simp [lim_eq], h1 _ _ hre (k1.push _) (get_push _ _)⟩
  | cons x0 t0 =>
    simp only [List.map_cons, List.isEmpty_cons, Bool.false_eq_true, if_false, o_skip]
    rw [o_seq, hb7]
    unfold bS7
    simp only [o_set, o_lst, o_cons, o_nil, o_bin, o_var, o_c, List.getElem?_cons_succ, List.getElem?_cons_zero, List.set_cons_succ, List.set_cons_zero]
    refine ⟨_, rfl, ?_⟩
    rw [p_ixL0 hrc1 (d := .int (x0 : Nat)) (by rw [hre]; rfl), Ok_ok]
    refine ⟨by simp [lim_eq], ?_⟩
    have k2 : Kp [] S1 (S1 ++ [.lst [D.int (x0 : Nat)]]) := Kp.app _ _ _
    have hw2 : (S1 ++ [C.lst [D.int (x0 : Nat)]])[S1.length]? = some (.lst (nats [x0])) := get_push _ _
    have k02 := k1.trans k2
    generalize S1 ++ [C.lst [D.int (x0 : Nat)]] = S2 at k2 hw2 k02
    rw [o_seq]
    refine ok_while (fun m δ S' => Kp [] S S' ∧ ∃ wc x w v8, δ = [some (.cell pc), some (.int (R : Nat)), some (.cell rc), some (.cell fo), some (.int (num : Nat)), v5, v6, some (.cell wc), v8] ∧ S'[wc]? = some (.lst (nats (x :: w))) ∧ w.Nodup ∧ (∀ a ∈ x :: w, a ∈ rest) ∧ m = R - w.length) R (by omega) ?_ ?_
    · exact ⟨k02, _, x0, [], _, rfl, hw2, List.nodup_nil, (fun a ha => by rw [List.mem_singleton.mp ha, hre]; exact List.mem_cons_self), rfl⟩
    · rintro m δ S3 ⟨k3, wc, x, w, v8, rfl, hw3, nd, hm, rfl⟩
      have wl : w.length ≤ R := nodup_len R w nd fun a ha => hrR a (hm a (List.mem_cons_of_mem _ ha))
      have hxr := hm x List.mem_cons_self
      have hix : ∀ S', S'[wc]? = some (.lst (nats (x :: w))) → opIx (.cell wc) (.int 0) S' = .ok (.int (x : Nat)) S' := fun S' h => p_ixL0 h rfl
      rw [ht8]
      unfold tS8
      simp only [o_B, o_bin, o_sl, o_part, o_noPart, o_var, o_c, List.getElem?_cons_succ, List.getElem?_cons_zero]
      refine ⟨_, rfl, ?_⟩
      rw [hix S3 hw3, Ok_ok]
      refine ⟨_, rfl, _, rfl, ?_⟩
      rw [sl_one hw3, Ok_ok]
      have ed : (nats (x :: w)).drop 1 = nats w := rfl
      rw [ed, p_inN (get_push S3 (C.lst (nats w))), Ok_ok]
      refine ⟨_, rfl, ?_⟩
      have k4 : Kp [] S3 (S3 ++ [.lst (nats w)]) := Kp.app _ _ _
      have hw4 := k4.get _ _ (by simp) hw3
      have k04 := k3.trans k4
      generalize S3 ++ [C.lst (nats w)] = S4 at k4 hw4 k04
      by_cases hx : x ∈ w
      · rw [decide_eq_true hx]
        simp only [if_true, Bool.not_true, Bool.false_eq_true, if_false]
        rw [hb9]
        unfold bS9
        simp only [o_ret, o_lst, o_cons, o_nil, o_call, o_sl, o_noPart, o_part, o_mth, o_bin, o_var, o_c, List.getElem?_cons_succ, List.getElem?_cons_zero]
        refine ⟨_, rfl, _, rfl, isL_cell hw4, _, rfl, ?_⟩
        rw [hix S4 hw4, Ok_ok, m_index1 hw4 hx, Ok_ok]
        refine ⟨_, rfl, ?_⟩
        rw [sl_toL hw4, Ok_ok, b_tupL (get_push _ _), Ok_ok]
        have et : (nats (x :: w)).take (1 + w.idxOf x) = nats ((x :: w).take (1 + w.idxOf x)) := (List.map_take ..).symm
        rw [et]
        have e1 : 1 + w.idxOf x = w.idxOf x + 1 := Nat.add_comm ..
        refine ⟨by simp [lim_eq], h2 _ _ _ (by rw [hre]; simp) (k04.trans ((Kp.app _ _ _).push _)) (get_push _ _) ?_ ?_ fun z hz => hrR z (hm z (List.mem_of_mem_take hz))⟩
        · rw [e1, List.take_succ_cons]
          simp
        · have := List.length_take_le (1 + w.idxOf x) (x :: w)
          have h3 : ((x :: w).take (1 + w.idxOf x)).length ≤ (x :: w).length := by rw [List.length_take]; omega
          rw [List.length_cons] at h3
          omega
      · rw [decide_eq_false hx]
        simp only [if_true, Bool.not_false]
        rw [hb8]
        unfold bS8
        simp only [o_set, o_bin, o_lst, o_cons, o_nil]
        have hrc4 := k04.get _ _ (by simp) hrc
        have hP4 := hP.mono k04
        refine ok_lcAL (xs := nats rest) (c0 := rc) (intF fun a => entR rows a x) ?_ hrc4 (by rw [List.length_map, lim_eq]; omega) ?_ ?_
        · simp [Kp.refl]
        · intro y hy S5 k5
          obtain ⟨a, ha, rfl⟩ := List.mem_map.mp hy
          refine ⟨_, set_nm, ?_⟩
          simp only [wipeD, List.foldl_cons, List.foldl_nil, List.set_cons_succ, List.set_cons_zero, o_B, o_call, o_cons, o_nil, o_bin, o_var, o_c, List.getElem?_cons_succ, List.getElem?_cons_zero]
          refine ⟨_, rfl, _, rfl, _, rfl, ?_⟩
          rw [hix S5 (k5.get _ _ (by simp) hw4), Ok_ok]
          refine Ok.imp (r_law_is_entered (hP4.mono k5) hl) ?_
          rintro _ S6 ⟨rfl, k6⟩
          refine ⟨_, rfl, k6, ?_⟩
          rw [intF_n]
          cases entR rows a x <;> simp [k6]
        · intro S5 c5 k5 hl5 hc5
          rw [intF_list] at hc5
          obtain ⟨y, ys, hys⟩ : ∃ y ys, rest.filter (fun a => entR rows a x) = y :: ys := by
            obtain ⟨a, ha, hE⟩ := hst x hxr
            have : a ∈ rest.filter (fun a => entR rows a x) := List.mem_filter.mpr ⟨ha, hE⟩
            cases q : rest.filter (fun a => entR rows a x) with
            | nil => rw [q] at this; cases this
            | cons y ys => exact ⟨y, ys, rfl⟩
          have hym : y ∈ rest := by
            have : y ∈ rest.filter (fun a => entR rows a x) := by rw [hys]; exact List.mem_cons_self
            exact (List.mem_filter.mp this).1
          rw [hys] at hc5
          simp only [o_c, o_var, List.getElem?_cons_succ, List.getElem?_cons_zero, List.set_cons_succ, List.set_cons_zero]
          rw [p_ixL0 hc5 (d := .int (y : Nat)) rfl, Ok_ok]
          refine ⟨by simp [lim_eq], _, rfl, ?_⟩
          have k6 : Kp [] S5 (S5 ++ [.lst [D.int (y : Nat)]]) := Kp.app _ _ _
          rw [p_addL (get_push S5 (C.lst [D.int (y : Nat)])) (k6.get _ _ (by simp) (k5.get _ _ (by simp) hw4)), o_mkL]
          have nd' : (x :: w).Nodup := List.nodup_cons.mpr ⟨hx, nd⟩
          have wl' : (x :: w).length ≤ R := nodup_len R _ nd' fun a ha => hrR a (hm a ha)
          rw [List.length_cons] at wl'
          refine ⟨by simp [lim_eq]; omega, R - (x :: w).length, by rw [List.length_cons]; omega, (k04.trans k5).trans (k6.push _), _, y, x :: w, _, rfl, get_push _ _, nd', fun a ha => ?_, rfl⟩
          rcases List.mem_cons.mp ha with h | h
          · rw [h]
            exact hym
          · exact hm a h
end
end Dn
set_option Elab.async false
set_option linter.all false
set_option maxRecDepth 100000
set_option maxHeartbeats 2000000
/-! Cf_k92: the law's sorting, joined. -/
noncomputable section
namespace Dn
open PySem L2
section
variable {S S' S0 : Sto} {kd kg hands R pc fo : Nat} {δ : En} {Q : Po} {P : D → Sto → Prop} {K : List Nat} {rows : List Row}
structure SInv (ws : List (List Stp)) (R num : Nat) (rest f : List Nat) : Prop where
  nd : num + rest.length ≤ R
  lt : ∀ x ∈ rest, x < R
  fl : f.length = R
  fb : ∀ x ∈ f, x ≤ 6
  all : ∀ L : Nat → Prop, (∀ r, L r → r < R ∧ ∃ a ∈ pre ws R r, L a) → ∀ r, L r → r ∈ rest
theorem freeL_mem {ws : List (List Stp)} {rest : List Nat} {r : Nat} : r ∈ freeL (pairsT ws) rest ↔ r ∈ rest ∧ ∀ a ∈ rest, E ws a r = false := by
  unfold freeL
  rw [List.mem_filter]
  refine and_congr_right fun _ => ?_
  constructor
  · intro h a ha
    cases q : E ws a r with
    | false => rfl
    | true =>
      have : rest.any (fun own => entR (pairsT ws) own r) = true := List.any_eq_true.mpr ⟨a, ha, by rw [ent_E]; exact q⟩
      rw [this] at h
      cases h
  · intro h
    cases q : rest.any (fun own => entR (pairsT ws) own r) with
    | false => rfl
    | true =>
      obtain ⟨a, ha, hE⟩ := List.any_eq_true.mp q
      rw [ent_E, h a ha] at hE
      cases hE
theorem SInv.go {ws : List (List Stp)} {num : Nat} {rest f f' : List Nat} (h : SInv ws R num rest f) (hne : freeL (pairsT ws) rest ≠ []) (hfl : f'.length = R) (hfb : ∀ x ∈ f', x ≤ 6) : SInv ws R (num + 1) (rest.filter fun x => decide (x ∉ freeL (pairsT ws) rest)) f' ∧ (rest.filter fun x => decide (x ∉ freeL (pairsT ws) rest)).length < rest.length := by
  have hlt : (rest.filter fun x => decide (x ∉ freeL (pairsT ws) rest)).length < rest.length := by
    obtain ⟨a, ha⟩ : ∃ a, a ∈ freeL (pairsT ws) rest := by
      cases q : freeL (pairsT ws) rest with
      | nil => exact absurd q hne
      | cons a t => exact ⟨a, List.mem_cons_self⟩
    have har := (freeL_mem.mp ha).1
    rcases Nat.lt_or_ge (rest.filter fun x => decide (x ∉ freeL (pairsT ws) rest)).length rest.length with h | hge
    · exact h
    · have e := List.Sublist.eq_of_length (List.filter_sublist (l := rest) (p := fun x => decide (x ∉ freeL (pairsT ws) rest))) (Nat.le_antisymm (List.length_filter_le _ _) hge)
      have : a ∈ rest.filter fun x => decide (x ∉ freeL (pairsT ws) rest) := by rw [e]; exact har
      exact absurd ha (of_decide_eq_true (List.mem_filter.mp this).2)
  refine ⟨⟨by have := h.nd; omega, fun x hx => h.lt x (List.mem_filter.mp hx).1, hfl, hfb, fun L hL r hr => List.mem_filter.mpr ⟨h.all L hL r hr, decide_eq_true fun z => ?_⟩⟩, hlt⟩
  obtain ⟨_, a, ha, hLa⟩ := hL r hr
  have h1 := (freeL_mem.mp z).2 a (h.all L hL a hLa)
  rw [(mem_pre.mp ha).2] at h1
  cases h1
theorem SInv.stuck {ws : List (List Stp)} {num : Nat} {rest f : List Nat} (h : SInv ws R num rest f) (he : freeL (pairsT ws) rest = []) : ∀ r ∈ rest, ∃ a ∈ rest, entR (pairsT ws) a r = true := by
  intro r hr
  have hn : r ∉ freeL (pairsT ws) rest := by rw [he]; simp
  rw [freeL_mem] at hn
  apply Classical.byContradiction
  intro hc
  apply hn
  refine ⟨hr, fun a ha => ?_⟩
  cases q : E ws a r with
  | false => rfl
  | true => exact absurd ⟨a, ha, by rw [ent_E]; exact q⟩ hc
structure SortOk (ws : List (List Stp)) (R : Nat) (x y : D) : Prop where
  ex : (¬ HasStuck (pre ws R) R ∧ y = .non ∧ ∃ f : List Nat, x = .tup (nats f) ∧ f.length = R ∧ ∀ a ∈ f, a ≤ 6) ∨ (HasStuck (pre ws R) R ∧ x = .non ∧ ∃ l : List Nat, y = .tup (nats l) ∧ l ≠ [] ∧ l.length ≤ 7 ∧ ∀ a ∈ l, a ≤ 6)
theorem r_sorted {rs : List D} {ws : List (List Stp)} (H : HOk R rs ws) (hP : PA [] S pc (pairsT ws)) : Ok (d_law_sorted [.cell pc, .int (R : Nat)] S) fun r S' => Kp [] S S' ∧ ∃ c x y, r = .cell c ∧ S'[c]? = some (.lst [x, y]) ∧ SortOk ws R x y := by
  have r6 := H.r6
  have w5 := H.w5
  have hrows : (pairsT ws).length ≤ 1000 := by
    have := pn_len H.len ws.length (Nat.le_refl _)
    unfold pairsT
    omega
  obtain ⟨bs, hbs⟩ : ∃ b, b = bS := ⟨_, rfl⟩
  obtain ⟨bt, hbt⟩ : ∃ b, b = bT9 := ⟨_, rfl⟩
  have eb : b_law_sorted = dSeq (dAsg (.tp [(.nm 2), (.nm 3), (.nm 4)]) (dTup (dCons (dListRg (dVar 1)) (dCons (dBin opMul (dLst (dCons (dC (.int 0)) dNil)) (dVar 1)) (dCons (dC (.int 0)) dNil))))) (dSeq (dWhile (dB (dBin opNe (dVar 2) (dLst dNil))) bS) bT9) := rfl
  rw [← hbs, ← hbt] at eb
  simp only [d_law_sorted, eb, startD, o_fn]
  refine ⟨rfl, ?_⟩
  simp only [o_seq, o_asg, o_tup, o_cons, o_nil, o_c]
  refine ok_listRg (n := R) (by omega) ?_
  simp only [o_var, o_bin, o_lst, o_cons, o_nil, o_c]
  refine ⟨_, rfl, rfl, by simp [lim_eq], _, rfl, ?_⟩
  have ka : Kp [] S ((S ++ [.lst (nats (List.range R))]) ++ [.lst [D.int 0]]) := (Kp.app _ _ _).push _
  have hr0 : ((S ++ [C.lst (nats (List.range R))]) ++ [C.lst [D.int 0]])[S.length]? = some (.lst (nats (List.range R))) := (Kp.app [] (S ++ [C.lst (nats (List.range R))]) _).get _ _ (by simp) (get_push _ _)
  rw [p_mulL (get_push (S ++ [C.lst (nats (List.range R))]) (C.lst [D.int 0])) (by simp) (by omega), o_mkL, rep_one]
  refine ⟨by rw [List.length_replicate, lim_eq]; omega, ?_⟩
  generalize (S ++ [C.lst (nats (List.range R))]) ++ [C.lst [D.int 0]] = S1 at ka hr0
  obtain ⟨fo, hfo⟩ : ∃ fo, fo = S1.length := ⟨_, rfl⟩
  rw [← hfo]
  have kb : Kp [] S1 (S1 ++ [.lst (List.replicate R (D.int 0))]) := Kp.app _ _ _
  have hf0 : (S1 ++ [C.lst (List.replicate R (D.int 0))])[fo]? = some (.lst (nats (List.replicate R 0))) := by
    have er : nats (List.replicate R 0) = List.replicate R (D.int 0) := List.map_replicate
    rw [hfo, er]
    exact get_push _ _
  have hr1 := kb.get _ _ (by simp) hr0
  have hrl := lt_of_get hr0
  have hP1 : PA [fo] (S1 ++ [C.lst (List.replicate R (D.int 0))]) pc (pairsT ws) := (hP.mono ka).fr (by omega) kb
  have k0 : Kp [] S (S1 ++ [.lst (List.replicate R (D.int 0))]) := ka.trans kb
  have kfin : ∀ S', Kp [fo] (S1 ++ [.lst (List.replicate R (D.int 0))]) S' → Kp [] S S' := fun S' k => ka.trans ⟨Nat.le_trans kb.le k.le, fun n x hn hx => k.get n x (by
    have := lt_of_get hx
    simp
    omega) (kb.get n x (by simp) hx)⟩
  generalize S1 ++ [C.lst (List.replicate R (D.int 0))] = S2 at kb hf0 hr1 hP1 k0 kfin
  refine ⟨by simp [lim_eq], ?_⟩
  show ∃ δ', Tg.set (.tp [.nm 2, .nm 3, .nm 4]) (.tup [.cell S.length, .cell fo, .int 0]) [some (.cell pc), some (.int (R : Nat)), none, none, none, none, none, none, none] = some δ' ∧ _
  rw [set_tp, setAll_cons, set_nm, Option.bind_some, setAll_cons, set_nm, Option.bind_some, setAll_cons, set_nm, Option.bind_some, setAll_nil]
  refine ⟨_, rfl, ?_⟩
  simp only [List.set_cons_succ, List.set_cons_zero]
  -- the tail
  have tail : ∀ S3 rc num rest f v5 v6 v7 v8, Kp [fo] S2 S3 → S3[rc]? = some (.lst (nats rest)) → S3[fo]? = some (.lst (nats f)) → SInv ws R num rest f → (∀ r ∈ rest, ∃ a ∈ rest, entR (pairsT ws) a r = true) → OkS (bt [some (.cell pc), some (.int (R : Nat)), some (.cell rc), some (.cell fo), some (.int (num : Nat)), v5, v6, v7, v8] S3) ⟨fun _ S' => Kp [] S S' ∧ ∃ c x y, D.non = .cell c ∧ S'[c]? = some (.lst [x, y]) ∧ SortOk ws R x y, fun r S' => Kp [] S S' ∧ ∃ c x y, r = .cell c ∧ S'[c]? = some (.lst [x, y]) ∧ SortOk ws R x y, noE, noE⟩ := by
    intro S3 rc num rest f v5 v6 v7 v8 k3 hrc hf I hst
    rw [hbt]
    have hnd := I.nd
    refine t_bT9 (hP1.mono k3).nil hrows r6 (by omega) I.lt hrc hf hst ?_ ?_
    · intro S' c hre k hc
      refine ⟨(kfin _ k3).trans k, c, _, _, rfl, hc, ⟨.inl ⟨?_, rfl, f, rfl, I.fl, I.fb⟩⟩⟩
      rintro ⟨L, ⟨r, hr⟩, hL⟩
      have := I.all L hL r hr
      rw [hre] at this
      cases this
    · intro S' c l hre k hc hne hll hlt
      refine ⟨(kfin _ k3).trans k, c, _, _, rfl, hc, ⟨.inr ⟨?_, rfl, l, rfl, hne, hll, fun a ha => by have := hlt a ha; omega⟩⟩⟩
      obtain ⟨x0, hx0⟩ : ∃ x0, x0 ∈ rest := by
        cases rest with
        | nil => exact absurd rfl hre
        | cons x0 t => exact ⟨x0, List.mem_cons_self⟩
      refine ⟨fun r => r ∈ rest, ⟨x0, hx0⟩, fun r hr => ⟨I.lt r hr, ?_⟩⟩
      obtain ⟨a, ha, hE⟩ := hst r hr
      rw [ent_E] at hE
      exact ⟨a, mem_pre.mpr ⟨I.lt a ha, hE⟩, ha⟩
  have I0 : SInv ws R 0 (List.range R) (List.replicate R 0) := ⟨by simp, fun x hx => List.mem_range.mp hx, by simp, fun x hx => by rw [(List.mem_replicate.mp hx).2]; omega, fun L hL r hr => List.mem_range.mpr (hL r hr).1⟩
  refine ok_while (fun m δ S' => ∃ rc num rest f v5 v6 v7 v8, δ = [some (.cell pc), some (.int (R : Nat)), some (.cell rc), some (.cell fo), some (.int ((num : Nat) : Int)), v5, v6, v7, v8] ∧ Kp [fo] S2 S' ∧ S'[rc]? = some (.lst (nats rest)) ∧ rc ≠ fo ∧ S'[fo]? = some (.lst (nats f)) ∧ SInv ws R num rest f ∧ m = rest.length) R (by omega) ?_ ?_
  · exact ⟨_, 0, _, _, _, _, _, _, rfl, Kp.refl _ _, hr1, by omega, hf0, I0, by simp⟩
  · rintro m δ S3 ⟨rc, num, rest, f, v5, v6, v7, v8, rfl, k3, hrc3, hrcn, hf3, I, rfl⟩
    have hnd := I.nd
    simp only [o_B, o_bin, o_lst, o_nil, o_var, List.getElem?_cons_succ, List.getElem?_cons_zero]
    refine ⟨_, rfl, by simp, ?_⟩
    have k4 : Kp [] S3 (S3 ++ [.lst []]) := Kp.app _ _ _
    have hrc4 := k4.get _ _ (by simp) hrc3
    have hf4 := k4.get _ _ (by simp) hf3
    rw [p_neNil hrc4 (rd_nats fun x hx => by have := I.lt x hx; omega) (by decide) (get_push _ _), Ok_ok]
    refine ⟨_, rfl, ?_⟩
    have k04 : Kp [fo] S2 (S3 ++ [.lst []]) := k3.trans k4.of
    generalize S3 ++ [C.lst []] = S4 at k4 hrc4 hf4 k04
    by_cases hre : rest = []
    · have e : (!(nats rest).isEmpty) = false := by rw [hre]; rfl
      rw [e, if_neg (by simp)]
      exact tail S4 rc num rest f v5 v6 v7 v8 k04 hrc4 hf4 I (fun r hr => by rw [hre] at hr; cases hr)
    · have e : (!(nats rest).isEmpty) = true := by
        cases rest with
        | nil => exact absurd rfl hre
        | cons _ _ => rfl
      rw [e, if_pos rfl, hbs]
      refine t_bS (hP1.mono k04) hrows r6 (by omega) I.lt hrc4 hrcn hf4 I.fl I.fb (by omega) ?_ ?_
      · intro S5 v5 v6 he k5 hrc5 hf5
        exact tail S5 rc num rest f v5 v6 v7 v8 (k04.trans k5) hrc5 hf5 I (I.stuck he)
      · intro S5 rc' f' v5 v6 hne k5 hrc5 hrcn' hf5 hfl hfb
        obtain ⟨I', hlt⟩ := I.go hne hfl hfb
        exact ⟨_, hlt, rc', num + 1, _, f', v5, v6, v7, v8, rfl, k04.trans k5, hrc5, hrcn', hf5, I', rfl⟩
end
end Dn
set_option Elab.async false
set_option linter.all false
set_option maxRecDepth 100000
set_option maxHeartbeats 2000000
/-! Cg_k92: numbers that break, after the law. -/
noncomputable section
namespace Dn
open PySem L2
structure VOk (v : D) : Prop where
  rg : isRg v = false
  it : ∀ xs, v = .tup xs → (∀ x ∈ xs, ∀ K S, Rd K 4 100 S x) ∧ xs.length ≤ 50
def wholeAll (R : Nat) (xs : List D) : Bool := xs.all fun x => whole x R
def toN : D → Nat
  | .int i => i.toNat
  | _ => 0
def natsOf (xs : List D) : List Nat := xs.map toN
theorem whole_nats {R : Nat} : ∀ {xs : List D}, wholeAll R xs = true → xs = nats (natsOf xs) ∧ ∀ a ∈ natsOf xs, a < R
  | [], _ => ⟨rfl, fun a h => by cases h⟩
  | x :: xs, h => by
    unfold wholeAll at h
    rw [List.all_cons, Bool.and_eq_true] at h
    obtain ⟨e, hl⟩ := whole_nats (R := R) (xs := xs) h.2
    have hx := h.1
    cases x with
    | int i =>
      have hi := of_decide_eq_true (show decide (0 ≤ i ∧ i < (R : Int)) = true from hx)
      refine ⟨?_, fun a ha => ?_⟩
      · show _ = D.int ((i.toNat : Nat) : Int) :: nats (natsOf xs)
        rw [← e]
        congr 2
        omega
      · rcases List.mem_cons.mp ha with h | h
        · rw [h]
          show i.toNat < R
          omega
        · exact hl a h
    | _ => cases hx
def badR (ns : List Nat) (row : Row) : Bool := row.2.2.2.any fun k => decide (ns[row.2.2.1]?.getD 0 ≤ ns[k]?.getD 0)
def stepD (o : Option Row) : D := match o with
  | some row => .tup [.str "step", .int (row.1 : Nat), .int (row.2.1 : Nat)]
  | none => .non
def errT (rows : List Row) (R : Nat) (xs : List D) : D := if xs.length = R ∧ wholeAll R xs = true then stepD (rows.find? (badR (natsOf xs))) else .str "form"
def errN (rows : List Row) (R : Nat) (v : D) : D := match v with
  | .tup xs => errT rows R xs
  | _ => .str "form"
def RowOk (R : Nat) (row : Row) : Prop := row.2.2.1 < R ∧ (∀ k ∈ row.2.2.2, k < R) ∧ row.2.2.2.length ≤ 100 ∧ row.1 < 100 ∧ row.2.1 < 100
theorem held_lt {R : Nat} {w : List Stp} (h : ∀ b t, Stp.inn b t ∈ w → t.1 < R) : ∀ k, ∀ x ∈ heldT w k, x.1 < R
  | 0 => fun x hx => by cases hx
  | k + 1 => fun x hx => by
    have ih := held_lt h k
    cases q : w[k]? with
    | none =>
      have e : heldT w (k + 1) = heldT w k := by
        unfold heldT
        rw [List.take_succ, q]
        simp
      rw [e] at hx
      exact ih x hx
    | some s =>
      rw [heldT_succ q] at hx
      cases s with
      | out r => exact ih x (List.dropLast_subset _ hx)
      | inn b t =>
        rcases List.mem_append.mp hx with hx | hx
        · exact ih x hx
        · rw [List.mem_singleton.mp hx]
          exact h b t (List.mem_of_getElem? q)
theorem roomsH_lt {R k : Nat} {w : List Stp} (h : ∀ b t, Stp.inn b t ∈ w → t.1 < R) : ∀ x ∈ roomsH w k, x < R := fun x hx => by
  obtain ⟨t, ht, rfl⟩ := List.mem_map.mp hx
  exact held_lt h k t ht
theorem rows_ok {R : Nat} {rs : List D} {ws : List (List Stp)} (H : HOk R rs ws) : ∀ row ∈ pairsT ws, RowOk R row := fun row hr => by
  obtain ⟨h, w, p, hw, hp⟩ := mem_pairsT.mp hr
  obtain ⟨t, ht, rfl⟩ := rowAt_some hp
  have hwm := List.mem_of_getElem? hw
  have h1 := (List.getElem?_eq_some_iff.mp ht).1
  have h2 := H.len w hwm
  have h3 := (List.getElem?_eq_some_iff.mp hw).1
  have h4 := H.w5
  have h5 := heldT_len w p
  refine ⟨H.inr w hwm _ _ (List.mem_of_getElem? ht), roomsH_lt (H.inr w hwm), ?_, by show h < 100; omega, by show p < 100; omega⟩
  show (roomsH w p).length ≤ 100
  unfold roomsH
  rw [List.length_map]
  omega
theorem find_at {α : Type} {p : α → Bool} {r : α} (hp : p r = true) : ∀ {l1 l2 : List α}, l1.any p = false → (l1 ++ r :: l2).find? p = some r
  | [], l2, _ => by simp [hp]
  | a :: l1, l2, h => by
    rw [List.any_cons, Bool.or_eq_false_iff] at h
    rw [List.cons_append, List.find?_cons, h.1]
    exact find_at hp h.2
theorem find_no {α : Type} {p : α → Bool} : ∀ {l : List α}, l.any p = false → l.find? p = none
  | [], _ => rfl
  | a :: l, h => by
    rw [List.any_cons, Bool.or_eq_false_iff] at h
    rw [List.find?_cons, h.1]
    exact find_no h.2
theorem find_take {α : Type} {p : α → Bool} {l : List α} {i : Nat} {r : α} (h : (l.take i).any p = false) (hi : l[i]? = some r) (hp : p r = true) : l.find? p = some r := by
  have hlt := (List.getElem?_eq_some_iff.mp hi)
  have e : l = l.take i ++ r :: l.drop (i + 1) := by
    obtain ⟨h1, h2⟩ := hlt
    have := List.take_append_drop i l
    rw [List.drop_eq_getElem_cons h1, h2] at this
    exact this.symm
  rw [e]
  exact find_at hp h
theorem all_range {α : Type} {l : List α} {p : α → Bool} {f : Nat → Bool} (h : ∀ i x, l[i]? = some x → f i = p x) : ((List.range l.length).map f).all id = l.all p := by
  have := any_range (l := l) (p := fun x => !p x) (f := fun i => !f i) (fun i x hx => by rw [h i x hx])
  rw [List.any_map] at this
  rw [List.all_map]
  have e1 : (List.range l.length).any (id ∘ fun i => !f i) = !((List.range l.length).all (id ∘ f)) := by
    rw [List.not_all_eq_any_not]
    rfl
  have e2 : l.any (fun x => !p x) = !(l.all p) := by rw [List.not_all_eq_any_not]
  rw [e1, e2] at this
  exact Bool.not_inj this
section
variable {S S' S0 : Sto} {kd kg hands R pc fo : Nat} {δ : En} {Q : Po} {P : D → Sto → Prop} {K : List Nat} {rows : List Row}
theorem nats_ix {ns : List Nat} {a : Nat} (h : a < ns.length) : opIx (.tup (nats ns)) (.int (a : Nat)) S = .ok (.int ((ns[a]?.getD 0 : Nat) : Int)) S := p_ixT (by simp [h])
def bU1 : DS := dIfS (dOr (dNot (dB (dIsI "tuple" (dVar 2)))) (dOr (dB (dBin opNe (dCall bLen (dCons (dVar 2) dNil)) (dVar 1))) (dNot (dB (dCall bAll (dCons (dLc (srcA (dVar 2)) (.nm 7) dYes (dCall d_law_whole (dCons (dVar 7) (dCons (dVar 1) dNil))) [7]) dNil)))))) (dRet (dC (.str "form"))) dSkip
def bU2 : DS := dIfS (dB (dCall bAny (dCons (dLc (srcA (dVar 6)) (.nm 7) dYes (dBin opGe (dBin opIx (dVar 2) (dVar 7)) (dBin opIx (dVar 2) (dVar 5))) [7]) dNil))) (dRet (dTup (dCons (dC (.str "step")) (dCons (dVar 3) (dCons (dVar 4) dNil))))) dSkip
theorem tup_or (v : D) : (∃ xs, v = .tup xs) ∨ (isT v = false ∧ ∀ rows R, errN rows R v = .str "form") := by
  cases v with
  | tup xs => exact .inl ⟨xs, rfl⟩
  | _ => exact .inr ⟨rfl, fun _ _ => rfl⟩
theorem t_bU1 {v : D} {v3 v4 v5 v6 v7 : Option D} (hv : VOk v)
    (h1 : (∀ xs, v = .tup xs → ¬ (xs.length = R ∧ wholeAll R xs = true)) → ∀ S', Kp [] S S' → Q.rt (.str "form") S')
    (h2 : ∀ S' xs, v = .tup xs → xs.length = R → wholeAll R xs = true → Kp [] S S' → Q.nx [some (.cell pc), some (.int (R : Nat)), some v, v3, v4, v5, v6, v7] S') :
    OkS (bU1 [some (.cell pc), some (.int (R : Nat)), some v, v3, v4, v5, v6, v7] S) Q := by
  unfold bU1
  rw [o_ifS]
  simp only [o_or, o_not, o_B, o_isiT, o_var, List.getElem?_cons_succ, List.getElem?_cons_zero]
  refine ⟨_, rfl, hv.rg, _, rfl, ?_⟩
  rcases tup_or v with ⟨xs, rfl⟩ | ⟨hT, _⟩
  · have e : (!isT (.tup xs)) = false := rfl
    rw [e, if_neg (by simp)]
    obtain ⟨hrg, hl⟩ := hv.it xs rfl
    simp only [o_bin, o_call, o_cons, o_nil, o_var, List.getElem?_cons_succ, List.getElem?_cons_zero]
    refine ⟨_, rfl, ?_⟩
    rw [b_lenT, Ok_ok]
    refine ⟨_, rfl, ?_⟩
    rw [p_neI, Ok_ok]
    refine ⟨_, rfl, ?_⟩
    have ed : decide ((xs.length : Int) = (R : Int)) = decide (xs.length = R) := decide_eq_decide.mpr ⟨fun h => by omega, fun h => by omega⟩
    rw [ed]
    by_cases hle : xs.length = R
    · rw [decide_eq_true hle]
      simp only [Bool.not_true, Bool.false_eq_true, if_false]
      refine ok_lcM (xs := xs) (c0 := 0) (fun i => .bl ((xs[i]?.map fun x => whole x R).getD false)) ?_ (by rw [lim_eq]; omega) ?_ ?_
      · rw [o_var]
        exact ⟨_, rfl, .inr rfl, rfl⟩
      · intro i x hx S1 k1
        refine ⟨_, set_nm, ?_⟩
        have e1 : d_law_whole [x, .int (R : Nat)] S1 = .ok (.bl (whole x R)) S1 := r_law_whole (hrg x (List.mem_of_getElem? hx) [] []).rg
        simp only [wipeD, List.foldl_cons, List.foldl_nil, List.set_cons_succ, List.set_cons_zero, o_call, o_cons, o_nil, o_var, List.getElem?_cons_succ, List.getElem?_cons_zero]
        refine ⟨_, rfl, _, rfl, ?_⟩
        rw [e1, Ok_ok, hx]
        exact ⟨Kp.refl _ _, rfl⟩
      · intro S1 c k1 hl1 hc
        have em : ((List.range xs.length).map fun i => D.bl ((xs[i]?.map fun x => whole x R).getD false)) = ((List.range xs.length).map fun i => (xs[i]?.map fun x => whole x R).getD false).map D.bl := by
          rw [List.map_map]
          rfl
        rw [em] at hc
        rw [b_allL hc, Ok_ok, all_range (p := fun x => whole x R) (fun i x hx => by rw [hx]; rfl)]
        refine ⟨_, rfl, ?_⟩
        cases hw : xs.all fun x => whole x R with
        | true =>
          simp only [Bool.not_true, Bool.false_eq_true, if_false, o_skip]
          exact h2 S1 xs rfl hle hw k1
        | false =>
          simp only [Bool.not_false, if_true, o_ret, o_c]
          refine h1 (fun ys e z => ?_) S1 k1
          cases e
          have := z.2
          unfold wholeAll at this
          rw [hw] at this
          cases this
    · rw [decide_eq_false hle]
      simp only [Bool.not_false, if_true, o_ret, o_c]
      exact h1 (fun ys e z => by cases e; exact hle z.1) S (Kp.refl _ _)
  · rw [hT]
    simp only [Bool.not_false, if_true, o_ret, o_c]
    refine h1 (fun ys e => ?_) S (Kp.refl _ _)
    rw [e] at hT
    cases hT
theorem r_number_due {v : D} (hP : PA [] S pc rows) (hl : rows.length ≤ 1000) (hrow : ∀ row ∈ rows, RowOk R row) (hv : VOk v) : Ok (d_law_number_due [.cell pc, .int (R : Nat), v] S) fun r S' => r = errN rows R v ∧ Kp [] S S' := by
  obtain ⟨b1, hb1⟩ : ∃ b, b = bU1 := ⟨_, rfl⟩
  obtain ⟨b2, hb2⟩ : ∃ b, b = bU2 := ⟨_, rfl⟩
  have eb : b_law_number_due = dSeq bU1 (dSeq (dFor (srcA (dVar 0)) (.tp [(.nm 3), (.nm 4), (.nm 5), (.nm 6)]) bU2) (dRet (dC .non))) := rfl
  rw [← hb1, ← hb2] at eb
  simp only [d_law_number_due, eb, startD, o_fn]
  refine ⟨rfl, ?_⟩
  simp only [o_seq]
  rw [hb1]
  refine t_bU1 hv ?_ ?_
  · intro hno S1 k1
    refine ⟨?_, k1⟩
    rcases tup_or v with ⟨xs, rfl⟩ | ⟨_, h⟩
    · show _ = errT rows R xs
      unfold errT
      rw [if_neg (hno xs rfl)]
    · rw [h]
  · rintro S1 xs rfl hle hw k1
    obtain ⟨ex, hlt⟩ := whole_nats hw
    have eE : errN rows R (.tup xs) = stepD (rows.find? (badR (natsOf xs))) := by
      show errT rows R xs = _
      unfold errT
      rw [if_pos ⟨hle, hw⟩]
    rw [eE]
    have hnl : (natsOf xs).length = R := by unfold natsOf; rw [List.length_map]; exact hle
    rw [ex]
    generalize hns : natsOf xs = ns at hlt hnl
    have ens : natsOf (nats ns) = ns := by
      unfold natsOf
      show (ns.map _).map _ = ns
      rw [List.map_map]
      have : (toN ∘ fun i : Nat => D.int (i : Nat)) = id := by funext i; rfl
      rw [this, List.map_id]
    rw [ens]
    obtain ⟨_, rc, r1, r2, r3⟩ := hP.mono k1
    have hrl : rc.length = rows.length := by rw [← r1, List.length_map]
    refine ok_forAL (xs := rc.map rowD) (c := pc) (fun i δ S' => (∃ v3 v4 v5 v6 v7, δ = [some (.cell pc), some (.int (R : Nat)), some (.tup (nats ns)), v3, v4, v5, v6, v7]) ∧ Kp [] S1 S' ∧ (rows.take i).any (badR ns) = false) ?_ ?_ ?_ ?_
    · simp only [o_var]
      exact ⟨_, rfl, by trivial, ⟨_, _, _, _, _, rfl⟩, Kp.refl _ _, rfl⟩
    · rintro i δ S2 ⟨_, k2, _⟩
      exact k2.get _ _ (by simp) r2
    · rintro i δ S2 x hx ⟨⟨v3, v4, v5, v6, v7, rfl⟩, k2, hno⟩
      obtain ⟨y, hy, rfl⟩ := map_get hx
      have hyr : rows[i]? = some y.1 := by rw [← r1, List.getElem?_map, hy]; rfl
      have hok := hrow y.1 (List.mem_of_getElem? hyr)
      have hyc := k2.get _ _ (by simp) (r3 y (List.mem_of_getElem? hy)).2
      simp only [rowD, set_tp, setAll_cons, set_nm, setAll_nil, Option.bind_some]
      refine ⟨_, rfl, ?_⟩
      simp only [List.set_cons_succ, List.set_cons_zero]
      rw [hb2]
      unfold bU2
      rw [o_ifS]
      simp only [o_B, o_call, o_cons, o_nil]
      refine ok_lcM (xs := nats y.1.2.2.2) (c0 := y.2) (fun j => .bl ((y.1.2.2.2[j]?.map fun k => decide (ns[y.1.2.2.1]?.getD 0 ≤ ns[k]?.getD 0)).getD false)) ?_ (by rw [List.length_map, lim_eq]; have := hok.2.2.1; omega) ?_ ?_
      · simp only [o_var]
        exact ⟨_, rfl, .inl ⟨by trivial, hyc⟩, by trivial⟩
      · intro j x hx S3 k3
        obtain ⟨k, hk, rfl⟩ := nats_get hx
        refine ⟨_, set_nm, ?_⟩
        have hkR := hok.2.1 k (List.mem_of_getElem? hk)
        simp only [wipeD, List.foldl_cons, List.foldl_nil, List.set_cons_succ, List.set_cons_zero, o_bin, o_var, List.getElem?_cons_succ, List.getElem?_cons_zero]
        refine ⟨_, rfl, _, rfl, ?_⟩
        rw [nats_ix (by omega), Ok_ok]
        refine ⟨_, rfl, _, rfl, ?_⟩
        rw [nats_ix (by rw [hnl]; exact hok.1), Ok_ok, p_ge, Ok_ok, hk]
        refine ⟨Kp.refl _ _, ?_⟩
        show D.bl _ = D.bl _
        congr 1
        exact decide_eq_decide.mpr ⟨fun h => by omega, fun h => by omega⟩
      · intro S3 c3 k3 hl3 hc3
        have em : ((List.range (nats y.1.2.2.2).length).map fun j => D.bl ((y.1.2.2.2[j]?.map fun k => decide (ns[y.1.2.2.1]?.getD 0 ≤ ns[k]?.getD 0)).getD false)) = ((List.range y.1.2.2.2.length).map fun j => (y.1.2.2.2[j]?.map fun k => decide (ns[y.1.2.2.1]?.getD 0 ≤ ns[k]?.getD 0)).getD false).map D.bl := by
          rw [List.map_map, List.length_map]
          rfl
        rw [em] at hc3
        rw [b_anyL hc3, Ok_ok, any_range (p := fun k => decide (ns[y.1.2.2.1]?.getD 0 ≤ ns[k]?.getD 0)) (fun i x hx => by rw [hx]; rfl)]
        refine ⟨_, rfl, ?_⟩
        show if badR ns y.1 = true then _ else _
        cases hbad : badR ns y.1 with
        | true =>
          rw [if_pos rfl]
          simp only [o_ret, o_tup, o_cons, o_nil, o_c, o_var, List.getElem?_cons_succ, List.getElem?_cons_zero]
          refine ⟨_, rfl, _, rfl, by simp [lim_eq], ?_, (k1.trans k2).trans k3⟩
          rw [find_take hno hyr hbad]
          rfl
        | false =>
          rw [if_neg (by simp), o_skip]
          refine ⟨⟨_, _, _, _, _, rfl⟩, k2.trans k3, ?_⟩
          rw [any_take hno hyr]
          exact hbad
    · rintro δ S2 ⟨⟨v3, v4, v5, v6, v7, rfl⟩, k2, hno⟩
      have hle2 : (rc.map rowD).length = rows.length := by rw [List.length_map, hrl]
      rw [hle2, List.take_length] at hno
      simp only [o_ret, o_c]
      rw [find_no hno]
      exact ⟨rfl, k1.trans k2⟩
end
end Dn
set_option Elab.async false
set_option linter.all false
set_option maxRecDepth 100000
set_option maxHeartbeats 2000000
/-! Ch_k92: numbers that break, the program. -/
noncomputable section
namespace Dn
open PySem L2
def rowP (i : Nat) (w : List Stp) (p : Nat) : Row := (i, p, (insAt w p).getD 0, roomsH w p)
theorem wn_eq {i n : Nat} {w : List Stp} : pairsWN i w n = ((List.range n).filter (isIn w)).map (rowP i w) := by
  unfold pairsWN
  generalize List.range n = l
  induction l with
  | nil => rfl
  | cons a l ih =>
    rw [List.filterMap_cons, List.filter_cons, ih]
    unfold rowAt isIn
    cases q : w[a]? with
    | none => simp
    | some s => cases s with
      | out r => simp
      | inn b t => cases b with
        | true => simp
        | false =>
          simp [rowP, insAt, q]
theorem pn_pre {ws : List (List Stp)} {i : Nat} : ∀ k, ∃ t, pairsN ws (i + k) = pairsN ws i ++ t
  | 0 => ⟨[], by simp⟩
  | k + 1 => by
    obtain ⟨t, ht⟩ := pn_pre (ws := ws) (i := i) k
    have : pairsN ws (i + (k + 1)) = pairsN ws (i + k) ++ (match ws[i + k]? with | some w => pairsWN (i + k) w w.length | none => []) := by
      unfold pairsN
      rw [← Nat.add_assoc, List.range_succ, List.flatMap_append]
      simp <;> (cases ws[i + k]? <;> rfl)
    exact ⟨_, by rw [this, ht, List.append_assoc]⟩
theorem find_step {ws : List (List Stp)} {i j k : Nat} {w : List Stp} {p : Row → Bool} (hw : ws[i]? = some w) (h0 : (pairsN ws i).any p = false) (h1 : (((List.range w.length).filter (isIn w)).take j).any (fun k => p (rowP i w k)) = false) (hk : ((List.range w.length).filter (isIn w))[j]? = some k) (hp : p (rowP i w k) = true) : (pairsT ws).find? p = some (rowP i w k) := by
  have hi := (List.getElem?_eq_some_iff.mp hw).1
  obtain ⟨t, ht⟩ := pn_pre (ws := ws) (i := i + 1) (ws.length - (i + 1))
  have e1 : i + 1 + (ws.length - (i + 1)) = ws.length := by omega
  rw [e1, pairsN_succ hw, wn_eq] at ht
  unfold pairsT
  rw [ht]
  obtain ⟨h2, h3⟩ := List.getElem?_eq_some_iff.mp hk
  have e2 : (List.range w.length).filter (isIn w) = ((List.range w.length).filter (isIn w)).take j ++ k :: ((List.range w.length).filter (isIn w)).drop (j + 1) := by
    have := List.take_append_drop j ((List.range w.length).filter (isIn w))
    rw [List.drop_eq_getElem_cons h2, h3] at this
    exact this.symm
  rw [e2, List.map_append, List.map_cons, List.append_assoc, List.append_assoc, ← List.append_assoc]
  refine find_at hp ?_
  rw [List.any_append, h0, List.any_map]
  simpa using h1
section
variable {S S' S0 : Sto} {kd kg hands R pc fo : Nat} {δ : En} {Q : Po} {P : D → Sto → Prop} {K : List Nat} {rows : List Row}
def badF (R : Nat) (x : D) : Option D := if whole x R = true then none else some x
theorem bad_empty {R : Nat} : ∀ {xs : List D}, (xs.filterMap (badF R)).isEmpty = wholeAll R xs
  | [] => rfl
  | x :: xs => by
    have ih := bad_empty (R := R) (xs := xs)
    unfold wholeAll at ih ⊢
    rw [List.filterMap_cons, List.all_cons]
    cases hx : whole x R with
    | true =>
      have e : badF R x = none := by unfold badF; rw [hx]; rfl
      rw [e]
      simpa using ih
    | false =>
      have e : badF R x = some x := by unfold badF; rw [hx]; rfl
      rw [e]
      rfl
def bE2 : DS := dIfS (dOr (dNot (dB (dIsI "tuple" (dVar 1)))) (dB (dBin opNe (dCall bLen (dCons (dVar 1) dNil)) (dVar 2)))) (dRet (dC (.str "form"))) dSkip
def bE3 : DS := dIfS (dB (dBin opNe (dLc (srcA (dVar 1)) (.nm 7) (dNot (dB (dCall d_is_within (dCons (dVar 7) (dCons (dC (.int 0)) (dCons (dBin opSub (dVar 2) (dC (.int 1))) dNil)))))) (dVar 7) [7]) (dLst dNil))) (dRet (dC (.str "form"))) dSkip
def bE4 : DS := dSeq (dSet 6 (dBin opIx (dVar 1) (dBin opIx (dCall d_wish (dCons (dVar 4) (dCons (dVar 5) dNil))) (dC (.int 0))))) (dIfS (dB (dBin opNe (dLc (srcA (dCall d_rooms_held (dCons (dVar 4) (dCons (dVar 5) dNil)))) (.nm 8) (dB (dBin opGe (dBin opIx (dVar 1) (dVar 8)) (dVar 6))) (dVar 8) [8]) (dLst dNil))) (dRet (dTup (dCons (dC (.str "step")) (dCons (dVar 3) (dCons (dVar 5) dNil))))) dSkip)
theorem t_bE4 {i k : Nat} {ns : List Nat} {w : List Stp} {h0 v2 v6 v7 v8 : Option D} (hn : Nest w) (hw : w.length ≤ 24) (hin : ∀ b t, Stp.inn b t ∈ w → t.1 < R) (hR : R ≤ 6) (hnl : ns.length = R) (hk : isIn w k = true)
    (h1 : badR ns (rowP i w k) = true → ∀ S', Kp [] S S' → Q.rt (stepD (some (rowP i w k))) S')
    (h2 : badR ns (rowP i w k) = false → ∀ S' v6, Kp [] S S' → Q.nx [h0, some (.tup (nats ns)), v2, some (.int (i : Nat)), some (wayD w), some (.int (k : Nat)), v6, v7, v8] S') :
    OkS (bE4 [h0, some (.tup (nats ns)), v2, some (.int (i : Nat)), some (wayD w), some (.int (k : Nat)), v6, v7, v8] S) Q := by
  obtain ⟨t, ht⟩ : ∃ t, w[k]? = some (.inn false t) := by
    unfold isIn at hk
    split at hk
    · rename_i t ht
      exact ⟨t, ht⟩
    · cases hk
  have hkl := (List.getElem?_eq_some_iff.mp ht).1
  have htR := hin _ _ (List.mem_of_getElem? ht)
  have er : rowP i w k = (i, k, t.1, roomsH w k) := by
    unfold rowP insAt
    rw [ht]
    rfl
  have hrl := roomsH_lt (k := k) hin
  have hhl := heldT_len w k
  have hrll : (roomsH w k).length ≤ 24 := by unfold roomsH; rw [List.length_map]; omega
  rw [er] at h1 h2
  have ew : ∀ S, d_wish [wayD w, .int (k : Nat)] S = .ok ((wishT (.inn false t)).elim .non Th.d) S := fun S => r_wish ht
  have ex : ∀ S, opIx ((wishT (.inn false t)).elim .non Th.d) (.int 0) S = .ok (.int (t.1 : Nat)) S := fun S => rfl
  unfold bE4
  simp only [o_seq, o_set, o_bin, o_call, o_cons, o_nil, o_var, o_c, List.getElem?_cons_succ, List.getElem?_cons_zero, List.set_cons_succ, List.set_cons_zero]
  refine ⟨_, rfl, _, rfl, _, rfl, ?_⟩
  rw [ew, Ok_ok, ex, Ok_ok, nats_ix (by omega), Ok_ok, o_ifS, o_B, o_bin]
  obtain ⟨d, S1, e1, k1, c1, rfl, hcl1, hc1⟩ := (r_rooms_held (S := S) hn (Nat.le_of_lt hkl) (by omega)).ex
  have es : (dCall d_rooms_held (dCons (dVar 4) (dCons (dVar 5) dNil))) [h0, some (.tup (nats ns)), v2, some (.int (i : Nat)), some (wayD w), some (.int (k : Nat)), some (.int ((ns[t.1]?.getD 0 : Nat) : Int)), v7, v8] S = .ok (.cell c1) S1 := e1
  rw [lc_src es]
  refine ok_lcAL (xs := nats (roomsH w k)) (c0 := c1) (intF fun x => decide (ns[t.1]?.getD 0 ≤ ns[x]?.getD 0)) ?_ hc1 (by rw [List.length_map, lim_eq]; omega) ?_ ?_
  · simp [Kp.refl]
  · intro x hx S2 k2
    obtain ⟨a, ha, rfl⟩ := List.mem_map.mp hx
    refine ⟨_, set_nm, ?_⟩
    have haR := hrl a ha
    simp only [wipeD, List.foldl_cons, List.foldl_nil, List.set_cons_succ, List.set_cons_zero, o_B, o_bin, o_var, List.getElem?_cons_succ, List.getElem?_cons_zero]
    refine ⟨_, rfl, _, rfl, ?_⟩
    rw [nats_ix (by omega), Ok_ok]
    refine ⟨_, rfl, ?_⟩
    rw [p_ge, Ok_ok]
    have ed : decide (((ns[t.1]?.getD 0 : Nat) : Int) ≤ ((ns[a]?.getD 0 : Nat) : Int)) = decide (ns[t.1]?.getD 0 ≤ ns[a]?.getD 0) := decide_eq_decide.mpr ⟨fun h => by omega, fun h => by omega⟩
    rw [ed, intF_n]
    refine ⟨_, rfl, Kp.refl _ _, ?_⟩
    cases decide (ns[t.1]?.getD 0 ≤ ns[a]?.getD 0) <;> simp [Kp.refl]
  · intro S2 c2 k2 hl2 hc2
    rw [intF_list] at hc2
    rw [o_lst, o_nil]
    refine ⟨by simp, ?_⟩
    have k3 : Kp [] S2 (S2 ++ [.lst []]) := Kp.app _ _ _
    rw [p_neNil (k3.get _ _ (by simp) hc2) (rd_nats fun x hx => by have := hrl x (List.mem_filter.mp hx).1; omega) (by decide) (get_push _ _), Ok_ok]
    refine ⟨_, rfl, ?_⟩
    have kk : Kp [] S (S2 ++ [.lst []]) := (k1.trans k2).trans k3
    have eb : (!(nats ((roomsH w k).filter fun x => decide (ns[t.1]?.getD 0 ≤ ns[x]?.getD 0))).isEmpty) = badR ns (i, k, t.1, roomsH w k) := by
      show _ = (roomsH w k).any fun x => decide (ns[t.1]?.getD 0 ≤ ns[x]?.getD 0)
      generalize roomsH w k = l
      generalize (fun x : Nat => decide (ns[t.1]?.getD 0 ≤ ns[x]?.getD 0)) = p
      induction l with
      | nil => rfl
      | cons a l ih =>
        rw [List.filter_cons, List.any_cons]
        cases p a with
        | true => rfl
        | false => simpa using ih
    rw [eb]
    cases hb : badR ns (i, k, t.1, roomsH w k) with
    | true =>
      rw [if_pos rfl]
      simp only [o_ret, o_tup, o_cons, o_nil, o_c, o_var, List.getElem?_cons_succ, List.getElem?_cons_zero]
      exact ⟨_, rfl, _, rfl, by simp [lim_eq], h1 hb _ kk⟩
    | false =>
      rw [if_neg (by simp), o_skip]
      exact h2 hb _ _ kk
theorem r_numbers_error {rs : List D} {ws : List (List Stp)} {v : D} (H : HOk R rs ws) (hv : VOk v) : Ok (d_numbers_error [houseD rs ws, v] S) fun r S' => r = errN (pairsT ws) R v ∧ Kp [] S S' := by
  have r6 := H.r6
  have ix0 : ∀ (S : Sto), opIx (houseD rs ws) (.int 0) S = .ok (.tup rs) S := fun S => rfl
  have ix1 : ∀ (S : Sto), opIx (houseD rs ws) (.int 1) S = .ok (.tup (ws.map wayD)) S := fun S => rfl
  obtain ⟨b4, hb4⟩ : ∃ b, b = bE4 := ⟨_, rfl⟩
  obtain ⟨b3, hb3⟩ : ∃ b, b = bE3 := ⟨_, rfl⟩
  obtain ⟨b2, hb2⟩ : ∃ b, b = bE2 := ⟨_, rfl⟩
  have eb : b_numbers_error = dSeq (dSet 2 (dCall bLen (dCons (dBin opIx (dVar 0) (dC (.int 0))) dNil))) (dSeq bE2 (dSeq bE3 (dSeq (dFor (enT (dCons (dBin opIx (dVar 0) (dC (.int 1))) dNil)) (.tp [(.nm 3), (.nm 4)]) (dFor (srcA (dCall d_places_in (dCons (dVar 4) dNil))) (.nm 5) bE4)) (dRet (dC .non))))) := rfl
  rw [← hb4, ← hb3, ← hb2] at eb
  simp only [d_numbers_error, eb, startD, o_fn]
  refine ⟨rfl, ?_⟩
  simp only [o_seq, o_set, o_call, o_cons, o_nil, o_bin, o_var, o_c]
  refine ⟨_, rfl, ?_⟩
  rw [ix0, Ok_ok, b_lenT, Ok_ok, H.rl, hb2]
  unfold bE2
  rw [o_ifS]
  show Ok (dOr _ _ [some (houseD rs ws), some v, some (.int (R : Nat)), none, none, none, none, none, none] S) _
  simp only [o_or, o_not, o_B, o_isiT, o_var, List.getElem?_cons_succ, List.getElem?_cons_zero]
  refine ⟨_, rfl, hv.rg, _, rfl, ?_⟩
  rcases tup_or v with ⟨xs, rfl⟩ | ⟨hT, hE⟩
  · have e : (!isT (.tup xs)) = false := rfl
    rw [e, if_neg (by simp)]
    obtain ⟨hrd, hl⟩ := hv.it xs rfl
    simp only [o_bin, o_call, o_cons, o_nil, o_var, List.getElem?_cons_succ, List.getElem?_cons_zero]
    refine ⟨_, rfl, ?_⟩
    rw [b_lenT, Ok_ok]
    refine ⟨_, rfl, ?_⟩
    rw [p_neI, Ok_ok]
    refine ⟨_, rfl, ?_⟩
    have ed : decide ((xs.length : Int) = (R : Int)) = decide (xs.length = R) := decide_eq_decide.mpr ⟨fun h => by omega, fun h => by omega⟩
    rw [ed]
    by_cases hle : xs.length = R
    · rw [decide_eq_true hle]
      simp only [Bool.not_true, Bool.false_eq_true, if_false, o_skip]
      rw [hb3]
      unfold bE3
      rw [o_ifS, o_B, o_bin]
      refine ok_lcAT (xs := xs) (badF R) ?_ (by rw [lim_eq]; omega) ?_ ?_
      · rw [o_var]
        exact ⟨_, rfl, rfl, Kp.refl _ _⟩
      · intro x hx S1 k1
        refine ⟨_, set_nm, ?_⟩
        have e1 : d_is_within [x, .int 0, .int ((R : Int) - 1)] S1 = .ok (.bl (whole x R)) S1 := r_is_within (hrd x hx [] []).rg
        simp only [wipeD, List.foldl_cons, List.foldl_nil, List.set_cons_succ, List.set_cons_zero, o_not, o_B, o_call, o_cons, o_nil, o_bin, o_var, o_c, List.getElem?_cons_succ, List.getElem?_cons_zero]
        refine ⟨_, rfl, _, rfl, ?_⟩
        rw [p_sub, Ok_ok, e1, Ok_ok]
        refine ⟨_, rfl, Kp.refl _ _, ?_⟩
        unfold badF
        cases whole x R <;> simp [Kp.refl]
      · intro S1 c1 k1 hl1 hc1
        rw [o_lst, o_nil]
        refine ⟨by simp, ?_⟩
        have k2 : Kp [] S1 (S1 ++ [.lst []]) := Kp.app _ _ _
        rw [p_neNil (k := 4) (w := 100) (k2.get _ _ (by simp) hc1) (fun x hx => by
          obtain ⟨z, hz, hzx⟩ := List.mem_filterMap.mp hx
          unfold badF at hzx
          split at hzx
          · cases hzx
          · cases hzx
            exact hrd _ hz _ _) (by decide) (get_push _ _), Ok_ok]
        refine ⟨_, rfl, ?_⟩
        rw [bad_empty]
        have k02 := k1.trans k2
        generalize S1 ++ [C.lst []] = S2 at k2 k02
        cases hw : wholeAll R xs with
        | false =>
          simp only [Bool.not_false, if_true, o_ret, o_c]
          refine ⟨?_, k02⟩
          show _ = errT (pairsT ws) R xs
          unfold errT
          rw [if_neg (fun z => by rw [hw] at z; cases z.2)]
        | true =>
          simp only [Bool.not_true, Bool.false_eq_true, if_false, o_skip]
          obtain ⟨ex, hlt⟩ := whole_nats hw
          have eE : errN (pairsT ws) R (.tup xs) = stepD ((pairsT ws).find? (badR (natsOf xs))) := by
            show errT (pairsT ws) R xs = _
            unfold errT
            rw [if_pos ⟨hle, hw⟩]
          rw [eE]
          have hnl : (natsOf xs).length = R := by unfold natsOf; rw [List.length_map]; exact hle
          rw [ex]
          generalize hns : natsOf xs = ns at hlt hnl
          have ens : natsOf (nats ns) = ns := by
            unfold natsOf
            show (ns.map _).map _ = ns
            rw [List.map_map]
            have : (toN ∘ fun i : Nat => D.int (i : Nat)) = id := by funext i; rfl
            rw [this, List.map_id]
          rw [ens]
          refine ok_forET (xs := ws.map wayD) (fun i δ S' => (∃ v3 v4 v5 v6 v7 v8, δ = [some (houseD rs ws), some (.tup (nats ns)), some (.int (R : Nat)), v3, v4, v5, v6, v7, v8]) ∧ Kp [] S S' ∧ (pairsN ws i).any (badR ns) = false) ?_ ?_ ?_
          · simp only [o_cons, o_nil, o_bin, o_var, o_c, List.getElem?_cons_succ, List.getElem?_cons_zero]
            refine ⟨_, rfl, ?_⟩
            rw [ix1, Ok_ok]
            exact ⟨rfl, ⟨_, _, _, _, _, _, rfl⟩, k02, rfl⟩
          · rintro i δ S3 x hx ⟨⟨v3, v4, v5, v6, v7, v8, rfl⟩, k3, hno⟩
            obtain ⟨w, hw, rfl⟩ := map_get hx
            have hwm := List.mem_of_getElem? hw
            have hlen := H.len w hwm
            simp only [set_tp, setAll_cons, set_nm, setAll_nil, Option.bind_some]
            refine ⟨_, rfl, ?_⟩
            simp only [List.set_cons_succ, List.set_cons_zero]
            obtain ⟨r, S4, e4, k4, c4, rfl, hcl4, hc4⟩ := (r_places_in (S := S3) (w := w) (by omega)).ex
            refine ok_forAL (xs := nats ((List.range w.length).filter (isIn w))) (c := c4) (fun j δ S' => (∃ v5 v6 v7 v8, δ = [some (houseD rs ws), some (.tup (nats ns)), some (.int (R : Nat)), some (.int (i : Nat)), some (wayD w), v5, v6, v7, v8]) ∧ Kp [] S4 S' ∧ (((List.range w.length).filter (isIn w)).take j).any (fun k => badR ns (rowP i w k)) = false) ?_ ?_ ?_ ?_
            · simp only [o_call, o_cons, o_nil, o_var, List.getElem?_cons_succ, List.getElem?_cons_zero]
              refine ⟨_, rfl, ?_⟩
              rw [e4, Ok_ok]
              exact ⟨rfl, ⟨_, _, _, _, rfl⟩, Kp.refl _ _, rfl⟩
            · rintro j δ S' ⟨_, k, _⟩
              exact k.get _ _ (by simp) hc4
            · rintro j δ S5 x hx ⟨⟨v5, v6, v7, v8, rfl⟩, k5, hno2⟩
              obtain ⟨k, hk, rfl⟩ := nats_get hx
              obtain ⟨hk1, hk2⟩ := List.mem_filter.mp (List.mem_of_getElem? hk)
              refine ⟨_, set_nm, ?_⟩
              simp only [List.set_cons_succ, List.set_cons_zero]
              rw [hb4]
              refine t_bE4 (H.nest w hwm) hlen (H.inr w hwm) r6 hnl hk2 ?_ ?_
              · intro hbad S6 k6
                refine ⟨?_, ((k3.trans k4).trans k5).trans k6⟩
                rw [find_step hw hno hno2 hk hbad]
              · intro hbad S6 v6 k6
                refine ⟨⟨_, _, _, _, rfl⟩, k5.trans k6, ?_⟩
                rw [any_take hno2 hk]
                exact hbad
            · rintro δ S5 ⟨⟨v5, v6, v7, v8, rfl⟩, k5, hno2⟩
              have hl2 : (nats ((List.range w.length).filter (isIn w))).length = ((List.range w.length).filter (isIn w)).length := List.length_map ..
              rw [hl2, List.take_length] at hno2
              refine ⟨⟨_, _, _, _, _, _, rfl⟩, (k3.trans k4).trans k5, ?_⟩
              rw [pairsN_succ hw, List.any_append, hno, wn_eq, List.any_map]
              simpa using hno2
          · rintro δ S3 ⟨⟨v3, v4, v5, v6, v7, v8, rfl⟩, k3, hno⟩
            have hl2 : (ws.map wayD).length = ws.length := List.length_map ..
            rw [hl2] at hno
            simp only [o_ret, o_c]
            refine ⟨?_, k3⟩
            unfold pairsT
            rw [find_no hno]
            rfl
    · rw [decide_eq_false hle]
      simp only [Bool.not_false, if_true, o_ret, o_c]
      refine ⟨?_, Kp.refl _ _⟩
      show _ = errT (pairsT ws) R xs
      unfold errT
      rw [if_neg (fun z => hle z.1)]
  · rw [hT, hE]
    simp only [Bool.not_false, if_true, o_ret, o_c]
    exact ⟨by trivial, Kp.refl _ _⟩
end
end Dn
set_option Elab.async false
set_option linter.all false
set_option maxRecDepth 100000
set_option maxHeartbeats 2000000
/-! Ci_k92: rounds that break, after the law. -/
noncomputable section
namespace Dn
open PySem L2
def pairE (o : Option Nat) : D := match o with
  | some j => .tup [.str "pair", .int (j : Nat)]
  | none => .non
def badP (ent : Nat → Nat → Bool) (ns : List Nat) (j : Nat) : Bool := !ent ((prevAt ns j).getD 0) (ns[j]?.getD 0)
open Classical in
def errP (ent : Nat → Nat → Bool) (R : Nat) (xs : List D) : D := if 2 ≤ xs.length ∧ wholeAll R xs = true ∧ (natsOf xs).Nodup then pairE ((List.range xs.length).find? (badP ent (natsOf xs))) else .str "form"
def errR (ent : Nat → Nat → Bool) (R : Nat) (v : D) : D := match v with
  | .tup xs => errP ent R xs
  | _ => .str "form"
theorem dup_iff {ns : List Nat} : (∃ k x, ns[k]? = some x ∧ x ∈ ns.take k) ↔ ¬ ns.Nodup := by
  constructor
  · rintro ⟨k, x, hk, hm⟩ nd
    have hs : (ns.take (k + 1)).Nodup := List.Nodup.sublist (List.take_sublist _ _) nd
    rw [List.take_succ, hk, Option.toList_some, List.nodup_append] at hs
    exact hs.2.2 x hm x (by simp) rfl
  · intro h
    apply Classical.byContradiction
    intro hc
    apply h
    have : ∀ n, n ≤ ns.length → (ns.take n).Nodup := by
      intro n
      induction n with
      | zero => intro _; simp
      | succ n ih =>
        intro hn
        have hx : ns[n]? = some (ns[n]'(by omega)) := List.getElem?_eq_getElem (by omega)
        rw [List.take_succ, hx, Option.toList_some, List.nodup_append]
        refine ⟨ih (by omega), by simp, fun a ha b hb e => ?_⟩
        rw [List.mem_singleton.mp hb] at e
        exact hc ⟨n, _, hx, e ▸ ha⟩
    have := this ns.length (Nat.le_refl _)
    rwa [List.take_length] at this
theorem ded_le : ∀ l : List Int, (ded l).length ≤ l.length
  | [] => Nat.le_refl _
  | a :: l => by
    have ih := ded_le l
    unfold ded
    split
    · rw [List.length_cons]; omega
    · rw [List.length_cons, List.length_cons]; omega
theorem ded_nd : ∀ l : List Int, (ded l).length = l.length ↔ l.Nodup
  | [] => by simp [ded]
  | a :: l => by
    have ih := ded_nd l
    have hle := ded_le l
    rw [List.nodup_cons]
    unfold ded
    split
    · rename_i h
      rw [ded_mem] at h
      constructor
      · intro e
        rw [List.length_cons] at e
        omega
      · intro e
        exact absurd h e.1
    · rename_i h
      rw [ded_mem] at h
      rw [List.length_cons, List.length_cons]
      constructor
      · intro e
        exact ⟨h, ih.mp (by omega)⟩
      · intro e
        have := ih.mpr e.2
        omega
theorem ofNat_nd {ns : List Nat} : (ns.map Int.ofNat).Nodup ↔ ns.Nodup := by
  unfold List.Nodup
  rw [List.pairwise_map]
  constructor
  · exact List.Pairwise.imp fun h e => h (by rw [e])
  · exact List.Pairwise.imp fun h e => h (Int.ofNat.inj e)
section
variable {S S' S0 : Sto} {kd kg hands R pc fo : Nat} {δ : En} {Q : Po} {P : D → Sto → Prop} {K : List Nat} {rows : List Row}
theorem tup_or2 (v : D) : (∃ xs, v = .tup xs) ∨ (isT v = false ∧ ∀ e R, errR e R v = .str "form") := by
  cases v with
  | tup xs => exact .inl ⟨xs, rfl⟩
  | _ => exact .inr ⟨rfl, fun _ _ => rfl⟩
theorem p_ixLastT {xs : List D} {d : D} : opIx (.tup (xs ++ [d])) (.int (-1)) S = .ok d S := by
  unfold opIx
  have e : atI (xs ++ [d]) (-1) = some d := by
    unfold atI ixN
    rw [if_neg (by omega), if_pos (by simp; omega)]
    have e2 : (-1 + ((xs ++ [d]).length : Int)).toNat = xs.length := by simp; omega
    simp only [Option.bind_some, e2]
    simp
  simp only [items, e]
theorem ix_prev {ns : List Nat} {j : Nat} (hj : j < ns.length) : opIx (.tup (nats ns)) (.int ((j : Int) - 1)) S = .ok (.int (((prevAt ns j).getD 0 : Nat) : Int)) S := by
  by_cases h0 : j = 0
  · subst h0
    have hne : ns ≠ [] := fun z => by rw [z] at hj; cases hj
    obtain ⟨l, g, hlg⟩ : ∃ l g, ns = l ++ [g] := ⟨ns.dropLast, ns.getLast hne, (List.dropLast_concat_getLast hne).symm⟩
    subst hlg
    have e1 : nats (l ++ [g]) = nats l ++ [D.int (g : Nat)] := by simp
    have e2 : prevAt (l ++ [g]) 0 = some g := by
      unfold prevAt
      rw [if_pos rfl]
      simp
    rw [e1, e2]
    exact p_ixLastT
  · have e1 : (j : Int) - 1 = ((j - 1 : Nat) : Int) := by omega
    have e2 : prevAt ns j = ns[j - 1]? := by unfold prevAt; rw [if_neg h0]
    rw [e1, e2]
    exact nats_ix (by omega)
theorem ok_lcEM {xs : List D} {a : DA} {g : Tg} {elt : DE} {own : List Nat} (G : Nat → D) (hs : Ok (a δ S) fun d S1 => d = [.tup xs] ∧ S1 = S) (hl : xs.length ≤ lim)
    (step : ∀ i x, xs[i]? = some x → ∀ S', Kp [] S S' → ∃ δ', g.set (.tup [.int (i : Nat), x]) (wipeD δ own) = some δ' ∧ Ok (elt δ' S') fun y S3 => Kp [] S' S3 ∧ y = G i)
    (done : ∀ S' c, Kp [] S S' → S.length ≤ c → S'[c]? = some (.lst ((List.range xs.length).map G)) → P (.cell c) S') : Ok (dLc (enA a) g dYes elt own δ S) P := by
  refine ok_lc (s0 := .en (.tup xs)) (N := xs.length) (c := S.length) (item := fun i => .tup [.int (i : Nat), xs[i]?.getD .non]) (fun i S' acc => Kp [] S S' ∧ S'[S.length]? = some (.lst acc) ∧ acc = (List.range i).map G) ?_ ?_ ?_ ?_ ?_
  · rw [o_enA]
    refine Ok.imp hs ?_
    rintro _ S1 ⟨rfl, rfl⟩
    exact ⟨_, rfl, .inr rfl, rfl, rfl, Kp.app _ _ _, get_push _ _, rfl⟩
  · rintro i S' acc ⟨k, _⟩
    simp [Src.len]
  · rintro i S' acc hi ⟨k, _⟩
    simp [Src.item, hi]
  · rintro i S' acc hi ⟨k, hc, rfl⟩
    have hx : xs[i]? = some xs[i] := List.getElem?_eq_getElem hi
    obtain ⟨δ', h1, h2⟩ := step i xs[i] hx S' k
    rw [hx, Option.getD_some]
    refine ⟨δ', h1, ?_⟩
    simp only [o_yes, if_true]
    refine Ok.imp h2 ?_
    rintro _ S3 ⟨k3, rfl⟩
    have hc3 := k3.get _ _ (by simp) hc
    refine ⟨hc3, by rw [List.length_map, List.length_range]; omega, (k.trans k3).set (.inl (Nat.le_refl _)) _, ?_, ?_⟩
    · rw [get_set hc3]
    · rw [List.range_succ, List.map_append]
      rfl
  · rintro S' acc ⟨k, hc, rfl⟩
    exact done S' _ k (Nat.le_refl _) hc
def bV1 : DS := dIfS (dOr (dNot (dB (dIsI "tuple" (dVar 2)))) (dOr (dB (dBin opLt (dCall bLen (dCons (dVar 2) dNil)) (dC (.int 2)))) (dNot (dB (dCall bAll (dCons (dLc (srcA (dVar 2)) (.nm 5) dYes (dCall d_law_whole (dCons (dVar 5) (dCons (dVar 1) dNil))) [5]) dNil)))))) (dRet (dC (.str "form"))) dSkip
def bV2 : DS := dIfS (dB (dCall bAny (dCons (dLc (enA (dCons (dVar 2) dNil)) (.tp [(.nm 3), (.nm 4)]) dYes (dBin (opIn false) (dVar 4) (dSl (dVar 2) dNoPart (dPart (dVar 3)))) [3, 4]) dNil))) (dRet (dC (.str "form"))) dSkip
def bV3 : DS := dIfS (dNot (dB (dCall d_law_is_entered (dCons (dVar 0) (dCons (dBin opIx (dVar 2) (dBin opSub (dVar 3) (dC (.int 1)))) (dCons (dVar 4) dNil)))))) (dRet (dTup (dCons (dC (.str "pair")) (dCons (dVar 3) dNil)))) dSkip
theorem t_bV1 {v : D} {v3 v4 v5 : Option D} (hv : VOk v)
    (h1 : (∀ xs, v = .tup xs → ¬ (2 ≤ xs.length ∧ wholeAll R xs = true)) → ∀ S', Kp [] S S' → Q.rt (.str "form") S')
    (h2 : ∀ S' xs, v = .tup xs → 2 ≤ xs.length → wholeAll R xs = true → Kp [] S S' → Q.nx [some (.cell pc), some (.int (R : Nat)), some v, v3, v4, v5] S') :
    OkS (bV1 [some (.cell pc), some (.int (R : Nat)), some v, v3, v4, v5] S) Q := by
  unfold bV1
  rw [o_ifS]
  simp only [o_or, o_not, o_B, o_isiT, o_var, List.getElem?_cons_succ, List.getElem?_cons_zero]
  refine ⟨_, rfl, hv.rg, _, rfl, ?_⟩
  rcases tup_or v with ⟨xs, rfl⟩ | ⟨hT, _⟩
  · have e : (!isT (.tup xs)) = false := rfl
    rw [e, if_neg (by simp)]
    obtain ⟨hrg, hl⟩ := hv.it xs rfl
    simp only [o_bin, o_call, o_cons, o_nil, o_var, o_c, List.getElem?_cons_succ, List.getElem?_cons_zero]
    refine ⟨_, rfl, ?_⟩
    rw [b_lenT, Ok_ok, p_lt, Ok_ok]
    refine ⟨_, rfl, ?_⟩
    by_cases hle : (xs.length : Int) < 2
    · rw [decide_eq_true hle]
      simp only [if_true, o_ret, o_c]
      exact h1 (fun ys e z => by cases e; omega) S (Kp.refl _ _)
    · rw [decide_eq_false hle]
      simp only [Bool.false_eq_true, if_false]
      refine ok_lcM (xs := xs) (c0 := 0) (fun i => .bl ((xs[i]?.map fun x => whole x R).getD false)) ?_ (by rw [lim_eq]; omega) ?_ ?_
      · rw [o_var]
        exact ⟨_, rfl, .inr rfl, rfl⟩
      · intro i x hx S1 k1
        refine ⟨_, set_nm, ?_⟩
        have e1 : d_law_whole [x, .int (R : Nat)] S1 = .ok (.bl (whole x R)) S1 := r_law_whole (hrg x (List.mem_of_getElem? hx) [] []).rg
        simp only [wipeD, List.foldl_cons, List.foldl_nil, List.set_cons_succ, List.set_cons_zero, o_call, o_cons, o_nil, o_var, List.getElem?_cons_succ, List.getElem?_cons_zero]
        refine ⟨_, rfl, _, rfl, ?_⟩
        rw [e1, Ok_ok, hx]
        exact ⟨Kp.refl _ _, rfl⟩
      · intro S1 c k1 hl1 hc
        have em : ((List.range xs.length).map fun i => D.bl ((xs[i]?.map fun x => whole x R).getD false)) = ((List.range xs.length).map fun i => (xs[i]?.map fun x => whole x R).getD false).map D.bl := by
          rw [List.map_map]
          rfl
        rw [em] at hc
        rw [b_allL hc, Ok_ok, all_range (p := fun x => whole x R) (fun i x hx => by rw [hx]; rfl)]
        refine ⟨_, rfl, ?_⟩
        cases hw : xs.all fun x => whole x R with
        | true =>
          simp only [Bool.not_true, Bool.false_eq_true, if_false, o_skip]
          exact h2 S1 xs rfl (by omega) hw k1
        | false =>
          simp only [Bool.not_false, if_true, o_ret, o_c]
          refine h1 (fun ys e z => ?_) S1 k1
          cases e
          have := z.2
          unfold wholeAll at this
          rw [hw] at this
          cases this
  · rw [hT]
    simp only [Bool.not_false, if_true, o_ret, o_c]
    refine h1 (fun ys e => ?_) S (Kp.refl _ _)
    rw [e] at hT
    cases hT
theorem nats_of (ns : List Nat) : natsOf (nats ns) = ns := by
  unfold natsOf
  show (ns.map _).map _ = ns
  rw [List.map_map]
  have : (toN ∘ fun i : Nat => D.int (i : Nat)) = id := by funext i; rfl
  rw [this, List.map_id]
theorem r_round_due {v : D} (hP : PA [] S pc rows) (hl : rows.length ≤ 1000) (hR : R ≤ 6) (hv : VOk v) : Ok (d_law_round_due [.cell pc, .int (R : Nat), v] S) fun r S' => r = errR (entR rows) R v ∧ Kp [] S S' := by
  obtain ⟨b1, hb1⟩ : ∃ b, b = bV1 := ⟨_, rfl⟩
  obtain ⟨b2, hb2⟩ : ∃ b, b = bV2 := ⟨_, rfl⟩
  obtain ⟨b3, hb3⟩ : ∃ b, b = bV3 := ⟨_, rfl⟩
  have eb : b_law_round_due = dSeq bV1 (dSeq bV2 (dSeq (dFor (enA (dCons (dVar 2) dNil)) (.tp [(.nm 3), (.nm 4)]) bV3) (dRet (dC .non)))) := rfl
  rw [← hb1, ← hb2, ← hb3] at eb
  simp only [d_law_round_due, eb, startD, o_fn]
  refine ⟨rfl, ?_⟩
  simp only [o_seq]
  rw [hb1]
  refine t_bV1 hv ?_ ?_
  · intro hno S1 k1
    refine ⟨?_, k1⟩
    rcases tup_or2 v with ⟨xs, rfl⟩ | ⟨_, h⟩
    · show _ = errP (entR rows) R xs
      unfold errP
      rw [if_neg (fun z => hno xs rfl ⟨z.1, z.2.1⟩)]
    · rw [h]
  · rintro S1 xs rfl hle hw k1
    obtain ⟨ex, hlt⟩ := whole_nats hw
    have hl50 := (hv.it xs rfl).2
    have hnl : (natsOf xs).length = xs.length := by unfold natsOf; rw [List.length_map]
    have eE : errR (entR rows) R (.tup xs) = errP (entR rows) R xs := rfl
    rw [eE]
    unfold errP
    rw [← hnl]
    generalize hns : natsOf xs = ns at hlt hnl ex
    rw [ex]
    have hw' : wholeAll R (nats ns) = true := by rw [← ex]; exact hw
    have hP1 := hP.mono k1
    rw [hb2]
    unfold bV2
    simp only [o_ifS, o_B, o_call, o_cons, o_nil]
    refine ok_lcEM (xs := nats ns) (fun i => .bl ((ns[i]?.map fun x => decide (x ∈ ns.take i)).getD false)) ?_ (by rw [List.length_map, lim_eq]; omega) ?_ ?_
    · simp only [o_cons, o_nil, o_var]
      exact ⟨_, rfl, by trivial, by trivial⟩
    · intro i x hx S2 k2
      obtain ⟨a, ha, rfl⟩ := nats_get hx
      simp only [set_tp, setAll_cons, set_nm, setAll_nil, Option.bind_some]
      refine ⟨_, rfl, ?_⟩
      simp only [wipeD, List.foldl_cons, List.foldl_nil, List.set_cons_succ, List.set_cons_zero, o_bin, o_sl, o_noPart, o_part, o_var, List.getElem?_cons_succ, List.getElem?_cons_zero]
      refine ⟨_, rfl, _, rfl, _, rfl, _, rfl, ?_⟩
      rw [o_slT, cut_to]
      have et : (nats ns).take i = nats (ns.take i) := (List.map_take ..).symm
      rw [et, p_inNT, Ok_ok, ha]
      exact ⟨Kp.refl _ _, rfl⟩
    · intro S2 c2 k2 hl2 hc2
      have em : ((List.range (nats ns).length).map fun i => D.bl ((ns[i]?.map fun x => decide (x ∈ ns.take i)).getD false)) = ((List.range ns.length).map fun i => (ns[i]?.map fun x => decide (x ∈ ns.take i)).getD false).map D.bl := by
        rw [List.map_map, List.length_map]
        rfl
      rw [em] at hc2
      rw [b_anyL hc2, Ok_ok]
      refine ⟨_, rfl, ?_⟩
      have hdup : (((List.range ns.length).map fun i => (ns[i]?.map fun x => decide (x ∈ ns.take i)).getD false).any id = true) ↔ ¬ ns.Nodup := by
        rw [← dup_iff]
        constructor
        · intro h
          obtain ⟨b, hb, hb2⟩ := List.any_eq_true.mp h
          obtain ⟨i, hi, rfl⟩ := List.mem_map.mp hb
          have hx : ns[i]? = some (ns[i]'(List.mem_range.mp hi)) := List.getElem?_eq_getElem (List.mem_range.mp hi)
          rw [hx] at hb2
          exact ⟨i, _, hx, of_decide_eq_true hb2⟩
        · rintro ⟨k, x, hk, hm⟩
          refine List.any_eq_true.mpr ⟨true, List.mem_map.mpr ⟨k, List.mem_range.mpr (List.getElem?_eq_some_iff.mp hk).1, ?_⟩, rfl⟩
          rw [hk]
          exact decide_eq_true hm
      by_cases hnd : ns.Nodup
      · rw [if_neg (fun h => hdup.mp h hnd), o_skip]
        have ec : (2 ≤ ns.length ∧ wholeAll R (nats ns) = true ∧ ns.Nodup) := ⟨by omega, hw', hnd⟩
        rw [if_pos ec]
        refine ok_forEAT (xs := nats ns) (fun i δ S' => (∃ v3 v4 v5, δ = [some (.cell pc), some (.int (R : Nat)), some (.tup (nats ns)), v3, v4, v5]) ∧ Kp [] S2 S' ∧ ((List.range ns.length).take i).any (badP (entR rows) ns) = false) ?_ ?_ ?_
        · simp only [o_cons, o_nil, o_var]
          exact ⟨_, rfl, by trivial, ⟨_, _, _, rfl⟩, Kp.refl _ _, rfl⟩
        · rintro i δ S3 x hx ⟨⟨v3, v4, v5, rfl⟩, k3, hno⟩
          obtain ⟨a, ha, rfl⟩ := nats_get hx
          have hi := (List.getElem?_eq_some_iff.mp ha).1
          have hri : (List.range ns.length)[i]? = some i := by simp [hi]
          simp only [set_tp, setAll_cons, set_nm, setAll_nil, Option.bind_some]
          refine ⟨_, rfl, ?_⟩
          simp only [List.set_cons_succ, List.set_cons_zero]
          rw [hb3]
          unfold bV3
          rw [o_ifS]
          simp only [o_not, o_B, o_call, o_cons, o_nil, o_bin, o_var, o_c, List.getElem?_cons_succ, List.getElem?_cons_zero]
          refine ⟨_, rfl, _, rfl, _, rfl, ?_⟩
          rw [p_sub, Ok_ok, ix_prev hi, Ok_ok]
          refine ⟨_, rfl, ?_⟩
          refine Ok.imp (r_law_is_entered (hP1.mono (k2.trans k3)) hl) ?_
          rintro _ S4 ⟨rfl, k4⟩
          refine ⟨_, rfl, ?_⟩
          have eb2 : (!entR rows ((prevAt ns i).getD 0) a) = badP (entR rows) ns i := by unfold badP; rw [ha]; rfl
          rw [eb2]
          cases hbad : badP (entR rows) ns i with
          | true =>
            rw [if_pos rfl]
            simp only [o_ret, o_tup, o_cons, o_nil, o_c, o_var, List.getElem?_cons_succ, List.getElem?_cons_zero]
            refine ⟨_, rfl, by simp [lim_eq], ?_, ((k1.trans k2).trans k3).trans k4⟩
            rw [find_take hno hri hbad]
            rfl
          | false =>
            rw [if_neg (by simp), o_skip]
            refine ⟨⟨_, _, _, rfl⟩, k3.trans k4, ?_⟩
            rw [any_take hno hri]
            exact hbad
        · rintro δ S3 ⟨⟨v3, v4, v5, rfl⟩, k3, hno⟩
          have hl2 : (nats ns).length = (List.range ns.length).length := by simp
          rw [hl2, List.take_length] at hno
          simp only [o_ret, o_c]
          rw [find_no hno]
          exact ⟨rfl, (k1.trans k2).trans k3⟩
      · rw [if_pos (hdup.mpr hnd)]
        simp only [o_ret, o_c]
        have ec : ¬ (2 ≤ ns.length ∧ wholeAll R (nats ns) = true ∧ ns.Nodup) := fun z => hnd z.2.2
        rw [if_neg ec]
        exact ⟨rfl, k1.trans k2⟩
end
end Dn
set_option Elab.async false
set_option linter.all false
set_option maxRecDepth 100000
set_option maxHeartbeats 2000000
/-! Cj_k92: rounds that break, the program. -/
noncomputable section
namespace Dn
open PySem L2
open Classical in
def formR (R : Nat) (v : D) : Bool := match v with
  | .tup xs => decide (2 ≤ xs.length ∧ wholeAll R xs = true ∧ (natsOf xs).Nodup)
  | _ => false
section
variable {S S' S0 : Sto} {kd kg hands R pc fo : Nat} {δ : En} {Q : Po} {P : D → Sto → Prop} {K : List Nat} {rows : List Row}
def bF1 : DS := dIfS (dOr (dNot (dB (dIsI "tuple" (dVar 1)))) (dB (dBin opLt (dCall bLen (dCons (dVar 1) dNil)) (dC (.int 2))))) (dRet (dC (.bl false))) dSkip
def bF2 : DS := dIfS (dB (dBin opNe (dLc (srcA (dVar 1)) (.nm 2) (dNot (dB (dCall d_is_within (dCons (dVar 2) (dCons (dC (.int 0)) (dCons (dBin opSub (dCall bLen (dCons (dBin opIx (dVar 0) (dC (.int 0))) dNil)) (dC (.int 1))) dNil)))))) (dVar 2) [2]) (dLst dNil))) (dRet (dC (.bl false))) dSkip
def bF3 : DS := dRet (dBin opEq (dLenSet (dVar 1)) (dCall bLen (dCons (dVar 1) dNil)))
theorem ok_lenSet {ns : List Nat} {de : DE} (h : Ok (de δ S) fun d S1 => d = .tup (nats ns) ∧ ns.length ≤ 60 ∧ P (.int ((ded (ns.map Int.ofNat)).length : Nat)) S1) : Ok (dLenSet de δ S) P := by
  unfold dLenSet
  rw [Ok_bnd]
  refine Ok.imp h ?_
  rintro _ S1 ⟨rfl, hl, hP⟩
  have e : (ns.map Int.ofNat).length ≤ 60 := by rw [List.length_map]; exact hl
  simp only [ints_nats, e, if_true]
  exact hP
theorem r_form {rs : List D} {ws : List (List Stp)} {v : D} (H : HOk R rs ws) (hv : VOk v) : Ok (d_is_form_of_round [houseD rs ws, v] S) fun r S' => r = .bl (formR R v) ∧ Kp [] S S' := by
  have r6 := H.r6
  have ix0 : ∀ (S : Sto), opIx (houseD rs ws) (.int 0) S = .ok (.tup rs) S := fun S => rfl
  obtain ⟨b2, hb2⟩ : ∃ b, b = bF2 := ⟨_, rfl⟩
  obtain ⟨b3, hb3⟩ : ∃ b, b = bF3 := ⟨_, rfl⟩
  have eb : b_is_form_of_round = dSeq bF1 (dSeq bF2 bF3) := rfl
  rw [← hb2, ← hb3] at eb
  simp only [d_is_form_of_round, eb, startD, o_fn]
  refine ⟨rfl, ?_⟩
  simp only [o_seq]
  unfold bF1
  simp only [o_ifS]
  show Ok (dOr _ _ [some (houseD rs ws), some v, none] S) _
  simp only [o_or, o_not, o_B, o_isiT, o_var, List.getElem?_cons_succ, List.getElem?_cons_zero]
  refine ⟨_, rfl, hv.rg, _, rfl, ?_⟩
  rcases tup_or v with ⟨xs, rfl⟩ | ⟨hT, _⟩
  · have e : (!isT (.tup xs)) = false := rfl
    rw [e, if_neg (by simp)]
    obtain ⟨hrd, hl⟩ := hv.it xs rfl
    simp only [o_bin, o_call, o_cons, o_nil, o_var, o_c, List.getElem?_cons_succ, List.getElem?_cons_zero]
    refine ⟨_, rfl, ?_⟩
    rw [b_lenT, Ok_ok, p_lt, Ok_ok]
    refine ⟨_, rfl, ?_⟩
    have eF : formR R (.tup xs) = decide (2 ≤ xs.length ∧ wholeAll R xs = true ∧ (natsOf xs).Nodup) := by unfold formR; rfl
    rw [eF]
    by_cases hle : (xs.length : Int) < 2
    · rw [decide_eq_true hle]
      simp only [if_true, o_ret, o_c]
      refine ⟨?_, Kp.refl _ _⟩
      rw [decide_eq_false (fun z => by have := z.1; omega)]
    · rw [decide_eq_false hle]
      simp only [Bool.false_eq_true, if_false, o_skip]
      rw [hb2]
      unfold bF2
      rw [o_ifS, o_B, o_bin]
      refine ok_lcAT (xs := xs) (badF R) ?_ (by rw [lim_eq]; omega) ?_ ?_
      · rw [o_var]
        exact ⟨_, rfl, rfl, Kp.refl _ _⟩
      · intro x hx S1 k1
        refine ⟨_, set_nm, ?_⟩
        have e1 : d_is_within [x, .int 0, .int ((R : Int) - 1)] S1 = .ok (.bl (whole x R)) S1 := r_is_within (hrd x hx [] []).rg
        simp only [wipeD, List.foldl_cons, List.foldl_nil, List.set_cons_succ, List.set_cons_zero, o_not, o_B, o_call, o_cons, o_nil, o_bin, o_var, o_c, List.getElem?_cons_succ, List.getElem?_cons_zero]
        refine ⟨_, rfl, _, rfl, ?_⟩
        rw [ix0, Ok_ok, b_lenT, Ok_ok, H.rl, p_sub, Ok_ok, e1, Ok_ok]
        refine ⟨_, rfl, Kp.refl _ _, ?_⟩
        unfold badF
        cases whole x R <;> simp [Kp.refl]
      · intro S1 c1 k1 hl1 hc1
        rw [o_lst, o_nil]
        refine ⟨by simp, ?_⟩
        have k2 : Kp [] S1 (S1 ++ [.lst []]) := Kp.app _ _ _
        rw [p_neNil (k := 4) (w := 100) (k2.get _ _ (by simp) hc1) (fun x hx => by
          obtain ⟨z, hz, hzx⟩ := List.mem_filterMap.mp hx
          unfold badF at hzx
          split at hzx
          · cases hzx
          · cases hzx
            exact hrd _ hz _ _) (by decide) (get_push _ _), Ok_ok]
        refine ⟨_, rfl, ?_⟩
        rw [bad_empty]
        have k02 := k1.trans k2
        generalize S1 ++ [C.lst []] = S2 at k2 k02
        cases hw : wholeAll R xs with
        | false =>
          simp only [Bool.not_false, if_true, o_ret, o_c]
          refine ⟨?_, k02⟩
          rw [decide_eq_false (fun z => by cases z.2.1)]
        | true =>
          simp only [Bool.not_true, Bool.false_eq_true, if_false, o_skip]
          obtain ⟨ex, hlt⟩ := whole_nats hw
          rw [hb3]
          unfold bF3
          rw [o_ret, o_bin]
          have hnl : (natsOf xs).length = xs.length := by unfold natsOf; rw [List.length_map]
          refine ok_lenSet (ns := natsOf xs) ?_
          rw [o_var]
          refine ⟨_, rfl, by rw [← ex], by omega, ?_⟩
          simp only [o_call, o_cons, o_nil, o_var, List.getElem?_cons_succ, List.getElem?_cons_zero]
          refine ⟨_, rfl, ?_⟩
          rw [b_lenT, Ok_ok, p_eqI, Ok_ok]
          refine ⟨?_, k02⟩
          congr 1
          refine decide_eq_decide.mpr ⟨fun h => ⟨by omega, by trivial, ?_⟩, fun h => ?_⟩
          · have : (ded ((natsOf xs).map Int.ofNat)).length = ((natsOf xs).map Int.ofNat).length := by rw [List.length_map, hnl]; omega
            exact ofNat_nd.mp ((ded_nd _).mp this)
          · have := (ded_nd _).mpr (ofNat_nd.mpr h.2.2)
            rw [List.length_map, hnl] at this
            omega
  · rw [hT]
    simp only [Bool.not_false, if_true, o_ret, o_c]
    refine ⟨?_, Kp.refl _ _⟩
    cases v with
    | tup xs => cases hT
    | _ => rfl
def bG1 : DS := dIfS (dNot (dB (dCall d_is_form_of_round (dCons (dVar 0) (dCons (dVar 1) dNil))))) (dRet (dC (.str "form"))) dSkip
def bG2 : DS := dIfS (dNot (dB (dCall d_is_entered (dCons (dVar 0) (dCons (dBin opIx (dVar 1) (dBin opSub (dVar 2) (dC (.int 1)))) (dCons (dVar 3) dNil)))))) (dRet (dTup (dCons (dC (.str "pair")) (dCons (dVar 2) dNil)))) dSkip
theorem r_round_error {rs : List D} {ws : List (List Stp)} {v : D} (H : HOk R rs ws) (hv : VOk v) : Ok (d_round_error [houseD rs ws, v] S) fun r S' => r = errR (E ws) R v ∧ Kp [] S S' := by
  have r6 := H.r6
  obtain ⟨b2, hb2⟩ : ∃ b, b = bG2 := ⟨_, rfl⟩
  have eb : b_round_error = dSeq bG1 (dSeq (dFor (enA (dCons (dVar 1) dNil)) (.tp [(.nm 2), (.nm 3)]) bG2) (dRet (dC .non))) := rfl
  rw [← hb2] at eb
  simp only [d_round_error, eb, startD, o_fn]
  refine ⟨rfl, ?_⟩
  simp only [o_seq]
  unfold bG1
  simp only [o_ifS, o_not, o_B, o_call, o_cons, o_nil, o_var]
  refine ⟨_, rfl, _, rfl, ?_⟩
  refine Ok.imp (r_form H hv) ?_
  rintro _ S1 ⟨rfl, k1⟩
  refine ⟨_, rfl, ?_⟩
  rcases tup_or2 v with ⟨xs, rfl⟩ | ⟨hT, hE⟩
  · have eF : formR R (.tup xs) = decide (2 ≤ xs.length ∧ wholeAll R xs = true ∧ (natsOf xs).Nodup) := by unfold formR; rfl
    have eE : errR (E ws) R (.tup xs) = errP (E ws) R xs := rfl
    rw [eF, eE]
    unfold errP
    by_cases hc : 2 ≤ xs.length ∧ wholeAll R xs = true ∧ (natsOf xs).Nodup
    · rw [decide_eq_true hc, if_pos hc]
      simp only [Bool.not_true, Bool.false_eq_true, if_false, o_skip]
      obtain ⟨ex, hlt⟩ := whole_nats hc.2.1
      have hl50 := (hv.it xs rfl).2
      have hnl : (natsOf xs).length = xs.length := by unfold natsOf; rw [List.length_map]
      rw [← hnl]
      generalize hns : natsOf xs = ns at hlt hnl ex
      rw [ex]
      refine ok_forEAT (xs := nats ns) (fun i δ S' => (∃ v2 v3, δ = [some (houseD rs ws), some (.tup (nats ns)), v2, v3]) ∧ Kp [] S1 S' ∧ ((List.range ns.length).take i).any (badP (E ws) ns) = false) ?_ ?_ ?_
      · simp only [o_cons, o_nil, o_var]
        exact ⟨_, rfl, by trivial, ⟨_, _, rfl⟩, Kp.refl _ _, rfl⟩
      · rintro i δ S3 x hx ⟨⟨v3, v4, rfl⟩, k3, hno⟩
        obtain ⟨a, ha, rfl⟩ := nats_get hx
        have hi := (List.getElem?_eq_some_iff.mp ha).1
        have hri : (List.range ns.length)[i]? = some i := by simp [hi]
        simp only [set_tp, setAll_cons, set_nm, setAll_nil, Option.bind_some]
        refine ⟨_, rfl, ?_⟩
        simp only [List.set_cons_succ, List.set_cons_zero]
        rw [hb2]
        unfold bG2
        simp only [o_ifS, o_not, o_B, o_call, o_cons, o_nil, o_bin, o_var, o_c, List.getElem?_cons_succ, List.getElem?_cons_zero]
        refine ⟨_, rfl, _, rfl, _, rfl, ?_⟩
        rw [p_sub, Ok_ok, ix_prev hi, Ok_ok]
        refine ⟨_, rfl, ?_⟩
        refine Ok.imp (r_is_entered H) ?_
        rintro _ S4 ⟨rfl, k4⟩
        refine ⟨_, rfl, ?_⟩
        have eb2 : (!E ws ((prevAt ns i).getD 0) a) = badP (E ws) ns i := by unfold badP; rw [ha]; rfl
        rw [eb2]
        cases hbad : badP (E ws) ns i with
        | true =>
          rw [if_pos rfl]
          simp only [o_ret, o_tup, o_cons, o_nil, o_c, o_var, List.getElem?_cons_succ, List.getElem?_cons_zero]
          refine ⟨_, rfl, by simp [lim_eq], ?_, (k1.trans k3).trans k4⟩
          rw [find_take hno hri hbad]
          rfl
        | false =>
          rw [if_neg (by simp), o_skip]
          refine ⟨⟨_, _, rfl⟩, k3.trans k4, ?_⟩
          rw [any_take hno hri]
          exact hbad
      · rintro δ S3 ⟨⟨v3, v4, rfl⟩, k3, hno⟩
        have hl2 : (nats ns).length = (List.range ns.length).length := by simp
        rw [hl2, List.take_length] at hno
        simp only [o_ret, o_c]
        rw [find_no hno]
        exact ⟨rfl, k1.trans k3⟩
    · rw [decide_eq_false hc, if_neg hc]
      simp only [Bool.not_false, if_true, o_ret, o_c]
      exact ⟨by trivial, k1⟩
  · have eF : formR R v = false := by
      cases v with
      | tup xs => cases hT
      | _ => rfl
    rw [eF, hE]
    simp only [Bool.not_false, if_true, o_ret, o_c]
    exact ⟨by trivial, k1⟩
theorem ent_fun {ws : List (List Stp)} : entR (pairsT ws) = E ws := by
  funext a b
  exact ent_E
end
end Dn
set_option Elab.async false
set_option linter.all false
set_option maxRecDepth 100000
set_option maxHeartbeats 2000000
/-! Ck_k92: the values tried. -/
noncomputable section
namespace Dn
open PySem L2
def PV (x : D) : Prop := ∀ K S, Rd K 4 100 S x
theorem pv_nat {i : Nat} (h : i < 100) : PV (.int (i : Nat)) := fun K S => rdi (by omega) (by decide)
theorem vok_tup {xs : List D} (h : ∀ x ∈ xs, PV x) (hl : xs.length ≤ 50) : VOk (.tup xs) := ⟨rfl, fun ys e => by
  cases e
  exact ⟨h, hl⟩⟩
theorem vok_non : VOk .non := ⟨rfl, fun ys e => by cases e⟩
theorem vok_int {i : Int} : VOk (.int i) := ⟨rfl, fun ys e => by cases e⟩
theorem vok_cell {c : Nat} : VOk (.cell c) := ⟨rfl, fun ys e => by cases e⟩
def PT (n : Nat) (xs : List D) : Prop := (∀ x ∈ xs, PV x) ∧ xs.length ≤ n
theorem PT.v {n : Nat} {xs : List D} (h : PT n xs) (hn : n ≤ 50) : VOk (.tup xs) := vok_tup h.1 (Nat.le_trans h.2 hn)
theorem PT.app {n m : Nat} {xs ys : List D} (h : PT n xs) (h' : PT m ys) : PT (n + m) (xs ++ ys) := ⟨fun x hx => by
  rcases List.mem_append.mp hx with hx | hx
  · exact h.1 x hx
  · exact h'.1 x hx, by rw [List.length_append]; exact Nat.add_le_add h.2 h'.2⟩
theorem PT.cut {n : Nat} {xs : List D} {lo hi : Option Int} (h : PT n xs) : PT n (cutD xs lo hi) := by
  unfold cutD
  refine ⟨fun x hx => h.1 x (List.mem_of_mem_drop (List.mem_of_mem_take hx)), ?_⟩
  have := h.2
  rw [List.length_take, List.length_drop]
  omega
theorem PT.rev {n : Nat} {xs : List D} (h : PT n xs) : PT n xs.reverse := ⟨fun x hx => h.1 x (List.mem_reverse.mp hx), by rw [List.length_reverse]; exact h.2⟩
theorem PT.one {x : D} (h : PV x) : PT 1 [x] := ⟨fun z hz => by rw [List.mem_singleton.mp hz]; exact h, Nat.le_refl _⟩
def oddL (R : Nat) : List D := [.int (-1), .int (R : Nat), .bl true, .non, .str "0", .tup [.int 0]]
theorem odd_pv {R : Nat} (hR : R ≤ 6) : ∀ x ∈ oddL R, PV x := fun x hx => by
  unfold oddL at hx
  simp at hx
  rcases hx with rfl | rfl | rfl | rfl | rfl | rfl
  · exact fun K S => rdi (by decide) (by decide)
  · exact pv_nat (by omega)
  · exact fun K S => rd_bl
  · exact fun K S => rd_non
  · exact fun K S => rd_str (by decide +kernel) (by decide +kernel)
  · exact fun K S => rd_tup (k := 0) (w := 11) (fun z hz => by rw [List.mem_singleton.mp hz]; exact rdi (by decide) (by decide)) (by decide) (by simp)
section
variable {S S' S0 : Sto} {kd kg hands R pc fo : Nat} {δ : En} {Q : Po} {P : D → Sto → Prop} {K : List Nat} {rows : List Row}
theorem ok_revT {de : DE} (h : Ok (de δ S) fun d S1 => ∃ xs, d = .tup xs ∧ xs.length ≤ lim ∧ P (.tup xs.reverse) S1) : Ok (dRevT de δ S) P := by
  unfold dRevT
  rw [Ok_bnd]
  refine Ok.imp h ?_
  rintro _ S1 ⟨xs, rfl, hl, hP⟩
  simp only [hl, if_true]
  exact hP
theorem ok_addT {xs ys : List D} {n : Nat} (h : PT n (xs ++ ys)) (hn : n ≤ 1000) (hP : P (.tup (xs ++ ys)) S) : Ok (opAdd (.tup xs) (.tup ys) S) P := by
  rw [p_addT, o_mkT]
  have := h.2
  exact ⟨by rw [lim_eq]; omega, hP⟩
def VL (n : Nat) (l : List D) : Prop := l.length ≤ n ∧ ∀ x ∈ l, VOk x
theorem VL.app {n m : Nat} {a b : List D} (h : VL n a) (h' : VL m b) : VL (n + m) (a ++ b) := ⟨by rw [List.length_append]; exact Nat.add_le_add h.1 h'.1, fun x hx => by
  rcases List.mem_append.mp hx with hx | hx
  · exact h.2 x hx
  · exact h'.2 x hx⟩
def bY2 : DS := dSet 5 (dLst (dCons (dVar 2) (dCons (dRevT (dVar 2)) (dCons (dSl (dVar 2) (dPart (dC (.int 1))) dNoPart) (dCons (dBin opAdd (dSl (dVar 2) (dPart (dC (.int 1))) dNoPart) (dSl (dVar 2) dNoPart (dPart (dC (.int 1))))) (dCons (dBin opAdd (dVar 2) (dSl (dVar 2) dNoPart (dPart (dC (.int 1))))) (dCons (dBin opAdd (dVar 2) (dTup (dCons (dBin opSub (dVar 1) (dC (.int 1))) dNil))) (dCons (dCall bList (dCons (dVar 2) dNil)) (dCons (dC .non) (dCons (dTup dNil) (dCons (dC (.int 0)) dNil)))))))))))
theorem t_bY2 {xs : List D} {v0 v3 v4 v5 v6 v7 : Option D} (hR : R ≤ 6) (h1 : 1 ≤ R) (hx : PT 7 xs)
    (hQ : ∀ S' c l, Kp [] S S' → S.length ≤ c → S'[c]? = some (.lst l) → VL 10 l → Q.nx [v0, some (.int (R : Nat)), some (.tup xs), v3, v4, some (.cell c), v6, v7] S') : OkS (bY2 [v0, some (.int (R : Nat)), some (.tup xs), v3, v4, v5, v6, v7] S) Q := by
  have hl := hx.2
  have hm1 : PV (.int ((R : Int) - 1)) := fun K S => rdi (by omega) (by decide)
  unfold bY2
  simp only [o_set, o_lst, o_cons, o_var, List.getElem?_cons_succ, List.getElem?_cons_zero]
  refine ⟨_, rfl, ok_revT ?_⟩
  simp only [o_var, List.getElem?_cons_succ, List.getElem?_cons_zero]
  refine ⟨_, rfl, xs, rfl, by rw [lim_eq]; omega, ?_⟩
  simp only [o_bin, o_sl, o_part, o_noPart, o_tup, o_call, o_cons, o_nil, o_var, o_c, o_slT, p_sub, Ok_ok, List.getElem?_cons_succ, List.getElem?_cons_zero]
  refine ⟨_, rfl, _, rfl, ?_⟩
  rw [o_slT]
  refine ⟨_, rfl, _, rfl, ?_⟩
  rw [o_slT]
  refine ⟨_, rfl, _, rfl, ?_⟩
  rw [o_slT]
  refine ok_addT (hx.cut.app hx.cut) (by decide) ?_
  refine ⟨_, rfl, _, rfl, _, rfl, ?_⟩
  rw [o_slT]
  refine ok_addT (hx.app hx.cut) (by decide) ?_
  refine ⟨_, rfl, _, rfl, ?_⟩
  rw [p_sub, Ok_ok]
  refine ⟨by simp [lim_eq], ok_addT (hx.app (PT.one hm1)) (by decide) ?_⟩
  refine ⟨_, rfl, ?_⟩
  rw [b_lstT, Ok_ok]
  refine ⟨by simp, by simp [lim_eq], ?_⟩
  refine hQ _ _ _ ((Kp.app _ _ _).push _) (by simp) (get_push _ _) ⟨by simp, fun x hxm => ?_⟩
  simp only [List.mem_cons, List.not_mem_nil, or_false] at hxm
  rcases hxm with rfl | rfl | rfl | rfl | rfl | rfl | rfl | rfl | rfl | rfl
  · exact hx.v (by decide)
  · exact hx.rev.v (by decide)
  · exact hx.cut.v (by decide)
  · exact (hx.cut.app hx.cut).v (by decide)
  · exact (hx.app hx.cut).v (by decide)
  · exact (hx.app (PT.one hm1)).v (by decide)
  · exact vok_cell
  · exact vok_non
  · exact vok_tup (fun x h => by cases h) (by simp)
  · exact vok_int
end
end Dn
set_option Elab.async false
set_option linter.all false
set_option maxRecDepth 100000
set_option maxHeartbeats 2000000
/-! Cl_k92: the values tried, whole. -/
noncomputable section
namespace Dn
open PySem L2
section
variable {S S' S0 : Sto} {kd kg hands R pc fo : Nat} {δ : En} {Q : Po} {P : D → Sto → Prop} {K : List Nat} {rows : List Row}
def bY1 : DS := dPar [3, 4] (dCons (dCall d_law_draw (dCons (dVar 0) (dCons (dCall bLen (dCons (dVar 2) dNil)) dNil))) (dCons (dCall d_law_pick (dCons (dVar 0) (dCons (dLst (dCons (dNeg (dC (.int 1))) (dCons (dVar 1) (dCons (dC (.bl true)) (dCons (dC .non) (dCons (dC (.str "0")) (dCons (dTup (dCons (dC (.int 0)) dNil)) dNil))))))) dNil))) dNil))
def bY3 : DS := dSet 5 (dBin opAdd (dVar 5) (dLst (dCons (dBin opAdd (dBin opAdd (dSl (dVar 2) dNoPart (dPart (dVar 3))) (dTup (dCons (dVar 4) dNil))) (dSl (dVar 2) (dPart (dBin opAdd (dVar 3) (dC (.int 1)))) dNoPart)) (dCons (dBin opAdd (dBin opAdd (dSl (dVar 2) dNoPart (dPart (dVar 3))) (dTup (dCons (dCall d_law_draw (dCons (dVar 0) (dCons (dVar 1) dNil))) dNil))) (dSl (dVar 2) (dPart (dBin opAdd (dVar 3) (dC (.int 1)))) dNoPart)) dNil))))
def bY4 : DS := dDrop (dMth mAppend (dVar 5) (dCons (dBin opAdd (dBin opAdd (dSl (dVar 2) dNoPart (dPart (dVar 3))) (dTup (dCons (dBin opMod (dBin opAdd (dBin opIx (dVar 2) (dVar 3)) (dC (.int 1))) (dVar 1)) dNil))) (dSl (dVar 2) (dPart (dBin opAdd (dVar 3) (dC (.int 1)))) dNoPart)) dNil))
def bY5 : DS := dDrop (dMth mAppend (dVar 5) (dCons (dCall bTuple (dCons (dLc (rng1 (dCons (dBin opIx (dLst (dCons (dVar 1) (dCons (dC (.int 2)) (dCons (dC (.int 3)) (dCons (dVar 1) dNil))))) (dVar 6)) dNil)) (.nm 7) dYes (dCall d_law_draw (dCons (dVar 0) (dCons (dVar 1) dNil))) [7]) dNil)) dNil))
theorem t_bY1 {ns : List Nat} {v3 v4 v5 v6 v7 : Option D} (Dk : Deck kd kg S) (hR : R ≤ 6) (hn1 : 1 ≤ ns.length) (hn7 : ns.length ≤ 7)
    (hQ : ∀ S' (a : Nat) x, Dw kd kg S S' → a < ns.length → PV x → Q.nx [some (.cell kd), some (.int (R : Nat)), some (.tup (nats ns)), some (.int (a : Nat)), some x, v5, v6, v7] S') : OkS (bY1 [some (.cell kd), some (.int (R : Nat)), some (.tup (nats ns)), v3, v4, v5, v6, v7] S) Q := by
  unfold bY1
  simp only [o_par, o_call, o_cons, o_nil, o_lst, o_neg, o_tup, o_var, o_c, List.getElem?_cons_succ, List.getElem?_cons_zero]
  refine ⟨_, rfl, _, rfl, ?_⟩
  have hll : ((nats ns).length : Int) = ((ns.length : Nat) : Int) := by rw [List.length_map]
  rw [b_lenT, Ok_ok, hll]
  refine Ok.imp (r_draw Dk hn1 (by omega)) ?_
  rintro _ S1 ⟨a, rfl, ha, d1⟩
  refine ⟨_, rfl, _, rfl, _, rfl, by simp [lim_eq], by simp [lim_eq], ?_⟩
  have eo : [D.int (-1), .int (R : Nat), .bl true, .non, .str "0", .tup [.int 0]] = oddL R := rfl
  rw [eo]
  refine Ok.imp (r_pick (d1.1.push _) (get_push _ _) (d1.1.fresh (Nat.le_refl _)) (by simp [oddL]) (by simp [oddL])) ?_
  rintro x S2 ⟨hx, D2, k2⟩
  show ∃ δ', Tg.setAll [.nm 3, .nm 4] [.int (a : Nat), x] _ = some δ' ∧ _
  rw [setAll_cons, set_nm, Option.bind_some, setAll_cons, set_nm, Option.bind_some, setAll_nil]
  refine ⟨_, rfl, ?_⟩
  simp only [List.set_cons_succ, List.set_cons_zero]
  exact hQ S2 a x ⟨D2, (d1.2.trans (Kp.app _ _ _)).trans k2⟩ ha (odd_pv hR x hx)
theorem t_bY3 {xs l : List D} {c a : Nat} {x : D} {v6 v7 : Option D} (Dk : Deck kd kg S) (hR : R ≤ 6) (h1 : 1 ≤ R) (hx : PT 7 xs) (hp : PV x) (hc : S[c]? = some (.lst l)) (hcn : c ∉ [kd, kg]) (hl : VL 10 l)
    (hQ : ∀ S' c' l', Dw kd kg S S' → S.length ≤ c' → S'[c']? = some (.lst l') → VL 12 l' → Q.nx [some (.cell kd), some (.int (R : Nat)), some (.tup xs), some (.int (a : Nat)), some x, some (.cell c'), v6, v7] S') : OkS (bY3 [some (.cell kd), some (.int (R : Nat)), some (.tup xs), some (.int (a : Nat)), some x, some (.cell c), v6, v7] S) Q := by
  have hl1 := hl.1
  unfold bY3
  simp only [o_set, o_bin, o_lst, o_sl, o_part, o_noPart, o_tup, o_call, o_cons, o_nil, o_var, o_c, List.getElem?_cons_succ, List.getElem?_cons_zero, List.set_cons_succ, List.set_cons_zero]
  refine ⟨_, rfl, _, rfl, _, rfl, _, rfl, ?_⟩
  rw [o_slT]
  refine ⟨_, rfl, by simp [lim_eq], ok_addT (hx.cut.app (PT.one hp)) (by decide) ?_⟩
  refine ⟨_, rfl, _, rfl, ?_⟩
  rw [p_add, Ok_ok]
  refine ⟨_, rfl, ?_⟩
  rw [o_slT]
  refine ok_addT ((hx.cut.app (PT.one hp)).app hx.cut) (by decide) ?_
  refine ⟨_, rfl, _, rfl, _, rfl, ?_⟩
  rw [o_slT]
  refine ⟨_, rfl, _, rfl, ?_⟩
  refine Ok.imp (r_draw Dk h1 (by omega)) ?_
  rintro _ S1 ⟨i, rfl, hi, d1⟩
  have hpi : PV (.int (i : Nat)) := pv_nat (by omega)
  refine ⟨by simp [lim_eq], ok_addT (hx.cut.app (PT.one hpi)) (by decide) ?_⟩
  refine ⟨_, rfl, _, rfl, ?_⟩
  rw [p_add, Ok_ok]
  refine ⟨_, rfl, ?_⟩
  rw [o_slT]
  refine ok_addT ((hx.cut.app (PT.one hpi)).app hx.cut) (by decide) ?_
  refine ⟨by simp [lim_eq], ?_⟩
  have hc1 := d1.2.get _ _ hcn hc
  rw [p_addL ((Kp.app [] S1 _).get _ _ (by simp) hc1) (get_push _ _), o_mkL]
  have hV : VL 12 (l ++ [D.tup (cutD xs none (some (a : Nat)) ++ [x] ++ cutD xs (some ((a : Nat) + 1)) none), D.tup (cutD xs none (some (a : Nat)) ++ [D.int (i : Nat)] ++ cutD xs (some ((a : Nat) + 1)) none)]) := hl.app (m := 2) ⟨by simp, fun z hz => by
    simp only [List.mem_cons, List.not_mem_nil, or_false] at hz
    rcases hz with rfl | rfl
    · exact ((hx.cut.app (PT.one hp)).app hx.cut).v (by decide)
    · exact ((hx.cut.app (PT.one hpi)).app hx.cut).v (by decide)⟩
  refine ⟨by have := hV.1; rw [lim_eq]; omega, ?_⟩
  have kk : Kp [] S1 ((S1 ++ [C.lst [D.tup (cutD xs none (some (a : Nat)) ++ [x] ++ cutD xs (some ((a : Nat) + 1)) none), D.tup (cutD xs none (some (a : Nat)) ++ [D.int (i : Nat)] ++ cutD xs (some ((a : Nat) + 1)) none)]]) ++ [C.lst (l ++ [D.tup (cutD xs none (some (a : Nat)) ++ [x] ++ cutD xs (some ((a : Nat) + 1)) none), D.tup (cutD xs none (some (a : Nat)) ++ [D.int (i : Nat)] ++ cutD xs (some ((a : Nat) + 1)) none)])]) := (Kp.app _ _ _).push _
  have le1 := d1.2.le
  exact hQ _ _ _ ⟨d1.1.kp kk, d1.2.trans kk.of⟩ (by simp; omega) (get_push _ _) hV
theorem t_bY4 {ns : List Nat} {l : List D} {c a : Nat} {v4 v6 v7 : Option D} (Dk : Deck kd kg S) (hR : R ≤ 6) (h1 : 1 ≤ R) (hx : PT 7 (nats ns)) (ha : a < ns.length) (hc : S[c]? = some (.lst l)) (hcn : c ∉ [kd, kg]) (hl : VL 12 l)
    (hQ : ∀ S' l', Deck kd kg S' → Kp [c, kd, kg] S S' → S'[c]? = some (.lst l') → VL 13 l' → Q.nx [some (.cell kd), some (.int (R : Nat)), some (.tup (nats ns)), some (.int (a : Nat)), v4, some (.cell c), v6, v7] S') : OkS (bY4 [some (.cell kd), some (.int (R : Nat)), some (.tup (nats ns)), some (.int (a : Nat)), v4, some (.cell c), v6, v7] S) Q := by
  have hl1 := hl.1
  unfold bY4
  simp only [o_drop, o_mth, o_bin, o_sl, o_part, o_noPart, o_tup, o_call, o_cons, o_nil, o_var, o_c, List.getElem?_cons_succ, List.getElem?_cons_zero, List.set_cons_succ, List.set_cons_zero]
  refine ⟨_, rfl, isL_cell hc, _, rfl, _, rfl, _, rfl, ?_⟩
  rw [o_slT]
  refine ⟨_, rfl, _, rfl, ?_⟩
  rw [nats_ix ha, Ok_ok, p_add, Ok_ok]
  refine ⟨_, rfl, ?_⟩
  rw [p_mod (by omega), Ok_ok]
  obtain ⟨i, hi, hir⟩ := fmod_nat (x := ((ns[a]?.getD 0 : Nat) : Int) + 1) (n := R) (by omega)
  rw [hi]
  have hpi : PV (.int (i : Nat)) := pv_nat (by omega)
  refine ⟨by simp [lim_eq], ok_addT (hx.cut.app (PT.one hpi)) (by decide) ?_⟩
  refine ⟨_, rfl, _, rfl, ?_⟩
  rw [p_add, Ok_ok]
  refine ⟨_, rfl, ?_⟩
  rw [o_slT]
  refine ok_addT ((hx.cut.app (PT.one hpi)).app hx.cut) (by decide) ?_
  rw [m_app hc (by rw [lim_eq]; omega), Ok_ok]
  refine hQ _ _ (Dk.set hcn _) ((Kp.refl _ _).set (.inr (by simp)) _) (get_set hc) (hl.app (m := 1) ⟨by simp, fun z hz => ?_⟩)
  rw [List.mem_singleton.mp hz]
  exact ((hx.cut.app (PT.one hpi)).app hx.cut).v (by decide)
theorem t_bY5 {ns : List Nat} {l : List D} {c t m : Nat} {v2 v3 v4 v7 : Option D} (Dk : Deck kd kg S) (hR : R ≤ 6) (h1 : 1 ≤ R) (ht : t < 4) (hc : S[c]? = some (.lst l)) (hcn : c ∉ [kd, kg]) (hl : VL m l) (hm : m ≤ 30)
    (hQ : ∀ S' l', Deck kd kg S' → Kp [c, kd, kg] S S' → S'[c]? = some (.lst l') → VL (m + 1) l' → Q.nx [some (.cell kd), some (.int (R : Nat)), v2, v3, v4, some (.cell c), some (.int (t : Nat)), v7] S') : OkS (bY5 [some (.cell kd), some (.int (R : Nat)), v2, v3, v4, some (.cell c), some (.int (t : Nat)), v7] S) Q := by
  have hl1 := hl.1
  unfold bY5
  simp only [o_drop, o_mth, o_call, o_cons, o_nil, o_var, List.getElem?_cons_succ, List.getElem?_cons_zero]
  refine ⟨_, rfl, isL_cell hc, ?_⟩
  obtain ⟨n, hn, hn6⟩ : ∃ n : Nat, ([D.int (R : Nat), .int 2, .int 3, .int (R : Nat)])[t]? = some (.int (n : Nat)) ∧ n ≤ 6 := by
    match t, ht with
    | 0, _ => exact ⟨R, rfl, hR⟩
    | 1, _ => exact ⟨2, rfl, by decide⟩
    | 2, _ => exact ⟨3, rfl, by decide⟩
    | 3, _ => exact ⟨R, rfl, hR⟩
  have k1 : Kp [] S (S ++ [C.lst [D.int (R : Nat), .int 2, .int 3, .int (R : Nat)]]) := Kp.app _ _ _
  have hq1 : (S ++ [C.lst [D.int (R : Nat), .int 2, .int 3, .int (R : Nat)]])[S.length]? = some (.lst [D.int (R : Nat), .int 2, .int 3, .int (R : Nat)]) := get_push _ _
  have D1 := Dk.kp k1
  have hc1 := k1.get _ _ (by simp) hc
  have hlen : (S ++ [C.lst [D.int (R : Nat), .int 2, .int 3, .int (R : Nat)]]).length = S.length + 1 := by simp
  refine ok_lc (s0 := .rng 0 (n : Nat)) (N := n) (c := S.length + 1) (item := fun i => .int (i : Nat)) (fun i S' acc => Deck kd kg S' ∧ Kp [S.length + 1, kd, kg] S S' ∧ S'[S.length + 1]? = some (.lst acc) ∧ acc.length = i ∧ ∀ x ∈ acc, PV x) ?_ ?_ ?_ ?_ ?_
  · simp only [o_rng1, o_cons, o_nil, o_bin, o_lst, o_var, o_c, List.getElem?_cons_succ, List.getElem?_cons_zero]
    refine ⟨_, rfl, _, rfl, by simp [lim_eq], _, rfl, ?_⟩
    rw [p_ixL hq1 hn, Ok_ok]
    refine ⟨_, rfl, inRng_of (by omega) (by omega), rfl, hlen.symm, D1.push _, (k1.push _).of, ?_, rfl, fun x hx => by cases hx⟩
    rw [← hlen]
    exact get_push _ _
  · intro i S' acc h
    simp [Src.len]
  · intro i S' acc hi h
    simp [Src.item, hi]
  · rintro i S1 acc hi ⟨D2, k2, hca, hal, hap⟩
    refine ⟨_, set_nm, ?_⟩
    simp only [wipeD, List.foldl_cons, List.foldl_nil, List.set_cons_succ, List.set_cons_zero, o_yes, if_true, o_call, o_cons, o_nil, o_var, List.getElem?_cons_succ, List.getElem?_cons_zero]
    refine ⟨_, rfl, _, rfl, ?_⟩
    refine Ok.imp (r_draw D2 h1 (by omega)) ?_
    rintro _ S2 ⟨z, rfl, hz, d2⟩
    have hcn2 : S.length + 1 ∉ [kd, kg] := Dk.fresh (by omega)
    have hca2 := d2.2.get _ _ hcn2 hca
    refine ⟨hca2, by rw [lim_eq]; omega, d2.1.set hcn2 _, (k2.trans (d2.2.sub (by simp))).set (.inr (by simp)) _, get_set hca2, by simp [hal], fun x hx => ?_⟩
    rcases List.mem_append.mp hx with h | h
    · exact hap x h
    · rw [List.mem_singleton.mp h]
      exact pv_nat (by omega)
  · rintro S1 acc ⟨D2, k2, hca, hal, hap⟩
    rw [b_tupL hca, Ok_ok]
    have k02 : Kp [kd, kg] S S1 := kpf k2 (by omega)
    have hc2 := k02.get _ _ hcn hc
    rw [m_app hc2 (by rw [lim_eq]; omega), Ok_ok]
    refine hQ _ _ (D2.set hcn _) ((k02.sub (by simp)).set (.inr (by simp)) _) (get_set hc2) (hl.app (m := 1) ⟨by simp, fun z hz => ?_⟩)
    rw [List.mem_singleton.mp hz]
    exact vok_tup hap (by omega)
theorem r_values {ns : List Nat} (Dk : Deck kd kg S) (h1 : 1 ≤ R) (hR : R ≤ 6) (hn1 : 1 ≤ ns.length) (hn7 : ns.length ≤ 7) (hns : ∀ a ∈ ns, a ≤ 6) : Ok (d_law_values [.cell kd, .int (R : Nat), .tup (nats ns)] S) fun r S' => ∃ c l, r = .cell c ∧ S.length ≤ c ∧ S'[c]? = some (.lst l) ∧ VL 17 l ∧ Dw kd kg S S' := by
  have hx : PT 7 (nats ns) := ⟨fun x hx => by
    obtain ⟨a, ha, rfl⟩ := List.mem_map.mp hx
    have := hns a ha
    exact pv_nat (by omega), by rw [List.length_map]; exact hn7⟩
  obtain ⟨b1, hb1⟩ : ∃ b, b = bY1 := ⟨_, rfl⟩
  obtain ⟨b2, hb2⟩ : ∃ b, b = bY2 := ⟨_, rfl⟩
  obtain ⟨b3, hb3⟩ : ∃ b, b = bY3 := ⟨_, rfl⟩
  obtain ⟨b4, hb4⟩ : ∃ b, b = bY4 := ⟨_, rfl⟩
  obtain ⟨b5, hb5⟩ : ∃ b, b = bY5 := ⟨_, rfl⟩
  have eb : b_law_values = dSeq bY1 (dSeq bY2 (dSeq bY3 (dSeq bY4 (dSeq (dFor (rng1 (dCons (dC (.int 4)) dNil)) (.nm 6) bY5) (dRet (dVar 5)))))) := rfl
  rw [← hb1, ← hb2, ← hb3, ← hb4, ← hb5] at eb
  simp only [d_law_values, eb, startD, o_fn]
  refine ⟨rfl, ?_⟩
  simp only [o_seq]
  rw [hb1]
  refine t_bY1 Dk hR hn1 hn7 ?_
  intro S1 a x d1 ha hpx
  show OkS (b2 _ _) _
  rw [hb2]
  refine t_bY2 hR h1 hx ?_
  intro S2 c2 l2 k2 hcl2 hc2 hv2
  show OkS (b3 _ _) _
  rw [hb3]
  have D2 := d1.1.kp k2
  have le1 := d1.2.le
  refine t_bY3 D2 hR h1 hx hpx hc2 (d1.1.fresh hcl2) hv2 ?_
  intro S3 c3 l3 d3 hcl3 hc3 hv3
  show OkS (b4 _ _) _
  rw [hb4]
  have le2 := k2.le
  have hcn3 : c3 ∉ [kd, kg] := D2.fresh hcl3
  have k03 : Kp [kd, kg] S S3 := (d1.2.trans k2.of).trans d3.2
  have hcS : S.length ≤ c3 := by omega
  refine t_bY4 d3.1 hR h1 hx ha hc3 hcn3 hv3 ?_
  intro S4 l4 D4 k4 hc4 hv4
  refine ok_forR (n := 4) (by decide) (fun t δ S' => (∃ v6 v7, δ = [some (.cell kd), some (.int (R : Nat)), some (.tup (nats ns)), some (.int (a : Nat)), some x, some (.cell c3), v6, v7]) ∧ Deck kd kg S' ∧ Kp [c3, kd, kg] S S' ∧ ∃ l, S'[c3]? = some (.lst l) ∧ VL (13 + t) l) ?_ ?_ ?_
  · simp only [o_cons, o_nil, o_c]
    exact ⟨rfl, ⟨_, _, rfl⟩, D4, (k03.sub (by simp)).trans k4, l4, hc4, hv4⟩
  · rintro t δ S5 ht ⟨⟨v6, v7, rfl⟩, D5, k5, l, hc5, hv5⟩
    refine ⟨_, set_nm, ?_⟩
    simp only [List.set_cons_succ, List.set_cons_zero]
    rw [hb5]
    refine t_bY5 (ns := ns) D5 hR h1 ht hc5 hcn3 hv5 (by omega) ?_
    intro S6 l6 D6 k6 hc6 hv6
    exact ⟨⟨_, _, rfl⟩, D6, k5.trans k6, l6, hc6, hv6⟩
  · rintro δ S5 ⟨⟨v6, v7, rfl⟩, D5, k5, l, hc5, hv5⟩
    simp only [o_ret, o_var]
    exact ⟨_, rfl, c3, l, rfl, hcS, hc5, hv5, D5, kpf k5 hcS⟩
end
end Dn
set_option Elab.async false
set_option linter.all false
set_option maxRecDepth 100000
set_option maxHeartbeats 2000000
/-! Cm_k92: right numbers and rounds do not break; what errors read as. -/
noncomputable section
namespace Dn
open PySem L2
theorem whole_of {R : Nat} : ∀ {ns : List Nat}, (∀ a ∈ ns, a < R) → wholeAll R (nats ns) = true
  | [], _ => rfl
  | a :: ns, h => by
    have ih := whole_of (R := R) (ns := ns) fun b hb => h b (List.mem_cons_of_mem _ hb)
    unfold wholeAll at ih ⊢
    show (whole (.int (a : Nat)) R && _) = true
    rw [Bool.and_eq_true]
    refine ⟨?_, ih⟩
    have := h a List.mem_cons_self
    show decide (0 ≤ (a : Int) ∧ (a : Int) < (R : Int)) = true
    exact decide_eq_true ⟨by omega, by omega⟩
theorem errN_ok {R : Nat} {rs : List D} {ws : List (List Stp)} {ns : List Nat} (H : HOk R rs ws) (h : NumOk ws R ns) : errN (pairsT ws) R (.tup (nats ns)) = .non := by
  show errT (pairsT ws) R (nats ns) = _
  unfold errT
  rw [if_pos ⟨by rw [List.length_map]; exact h.len, whole_of h.lt⟩, nats_of]
  have : (pairsT ws).any (badR ns) = false := by
    cases q : (pairsT ws).any (badR ns) with
    | false => rfl
    | true =>
      obtain ⟨row, hr, hb⟩ := List.any_eq_true.mp q
      obtain ⟨k, hk, hle⟩ := List.any_eq_true.mp hb
      have hok := rows_ok H row hr
      have hE : E ws k row.2.2.1 = true := by
        rw [← ent_E]
        exact List.any_eq_true.mpr ⟨row, hr, by simp [hk]⟩
      have := h.up row.2.2.1 hok.1 k (mem_pre.mpr ⟨hok.2.1 k hk, hE⟩)
      have hle := of_decide_eq_true hle
      omega
  rw [find_no this]
  rfl
theorem errR_ok {R : Nat} {ws : List (List Stp)} {v : List Nat} (h : RoundOk ws R v) : errR (E ws) R (.tup (nats v)) = .non := by
  show errP (E ws) R (nats v) = _
  unfold errP
  rw [if_pos ⟨by rw [List.length_map]; exact h.len, whole_of h.lt, by rw [nats_of]; exact h.nd⟩, nats_of, List.length_map]
  have : (List.range v.length).any (badP (E ws) v) = false := by
    cases q : (List.range v.length).any (badP (E ws) v) with
    | false => rfl
    | true =>
      obtain ⟨j, hj, hb⟩ := List.any_eq_true.mp q
      have hx : v[j]? = some (v[j]'(List.mem_range.mp hj)) := List.getElem?_eq_getElem (List.mem_range.mp hj)
      obtain ⟨a, ha, hE⟩ := h.pr j _ hx
      unfold badP at hb
      rw [ha, hx] at hb
      simp at hb
      rw [hE] at hb
      cases hb
  rw [find_no this]
  rfl
def PW (x : D) : Prop := ∀ K S, Rd K 1 100 S x
theorem pw_form : PW (.str "form") := fun K S => rd_str (by decide +kernel) (by decide +kernel)
theorem pw_non : PW .non := fun K S => rd_non
theorem errN_rd {R : Nat} {rows : List Row} {v : D} (h : ∀ row ∈ rows, RowOk R row) : PW (errN rows R v) := by
  cases v with
  | tup xs =>
    show PW (errT rows R xs)
    unfold errT
    split
    · cases q : rows.find? (badR (natsOf xs)) with
      | none => exact pw_non
      | some row =>
        have hok := h row (List.mem_of_find?_eq_some q)
        exact fun K S => rd_tup (k := 0) (w := 11) (fun x hx => by
          simp at hx
          rcases hx with rfl | rfl | rfl
          · exact rd_str (by decide +kernel) (by decide +kernel)
          · exact rdi (by have := hok.2.2.2.1; omega) (by decide)
          · exact rdi (by have := hok.2.2.2.2; omega) (by decide)) (Nat.le_refl _) (by simp)
    · exact pw_form
  | _ => exact pw_form
theorem errR_rd {R : Nat} {e : Nat → Nat → Bool} {v : D} (hv : VOk v) : PW (errR e R v) := by
  cases v with
  | tup xs =>
    have hl := (hv.it xs rfl).2
    show PW (errP e R xs)
    unfold errP
    split
    · cases q : (List.range xs.length).find? (badP e (natsOf xs)) with
      | none => exact pw_non
      | some j =>
        have hj := List.mem_range.mp (List.mem_of_find?_eq_some q)
        exact fun K S => rd_tup (k := 0) (w := 11) (fun x hx => by
          simp at hx
          rcases hx with rfl | rfl
          · exact rd_str (by decide +kernel) (by decide +kernel)
          · exact rdi (by omega) (by decide)) (Nat.le_refl _) (by simp)
    · exact pw_form
  | _ => exact pw_form
/-- the text of a value without cells: the same in any store -/
theorem repr_pure {x : D} {k w : Nat} (h : Rd [] k w [] x) (hk : k ≤ 50) (hw : w ≤ 8000) : ∃ s : Str, ∀ S, bRepr [x] S = .ok (.str s) S := by
  obtain ⟨p, _, _, h3⟩ := b_repr h hk hw
  exact ⟨p.shown, fun S => h3 S (kp_any S)⟩
theorem house_rd {R : Nat} {rs : List D} {ws : List (List Stp)} (H : HOk R rs ws) {K : List Nat} {S : Sto} : Rd K 6 7400 S (houseD rs ws) := by
  have r6 := H.r6
  have w5 := H.w5
  refine rd_tup (k := 5) (w := 3606) (fun x hx => ?_) (by decide) (by simp)
  simp at hx
  rcases hx with rfl | rfl
  · refine rd_tup (k := 4) (w := 600) (fun z hz => H.rd K S z hz) (by decide) ?_
    rw [H.rl]
    omega
  · refine rd_tup (k := 2) (w := 600) (fun z hz => ?_) (by decide) ?_
    · obtain ⟨w, hw, rfl⟩ := List.mem_map.mp hz
      exact rd_way (by omega) ⟨H.nest w hw, H.inr w hw, H.outr w hw, H.len w hw, H.self w hw⟩
    · rw [List.length_map]
      omega
theorem hok_of {R hands : Nat} {rs : List D} {ws : List (List Stp)} (h1 : 1 ≤ R) (hR : R ≤ 6) (hh1 : 1 ≤ hands) (hh5 : hands ≤ 5) (hl : rs.length = R) (hr : ∀ x ∈ rs, RoomV x) (W : WsOk R hands ws) : HOk R rs ws :=
  ⟨hl, h1, hR, by rw [W.len]; exact hh1, by rw [W.len]; exact hh5, fun K S x hx => hr x hx K S, fun w hw => (W.ok w hw).nest, fun w hw => (W.ok w hw).inr, fun w hw => (W.ok w hw).outr, fun w hw => (W.ok w hw).len, fun w hw => (W.ok w hw).self⟩
end Dn
set_option Elab.async false
set_option linter.all false
set_option maxRecDepth 100000
set_option maxHeartbeats 2000000
/-! Cn_k92: one value against the law. -/
noncomputable section
namespace Dn
open PySem L2
section
variable {S S' S0 : Sto} {kd kg hands R pc fo : Nat} {δ : En} {Q : Po} {P : D → Sto → Prop} {K : List Nat} {rows : List Row}
theorem ok_forEAL {xs : List D} {c : Nat} {g : Tg} {body : DS} (I : Nat → En → Sto → Prop) {a : DA} (hs : Ok (a δ S) fun d S1 => d = [.cell c] ∧ I 0 δ S1) (hc : ∀ i δ S, I i δ S → S[c]? = some (.lst xs))
    (step : ∀ i δ S x, xs[i]? = some x → I i δ S → ∃ δ', g.set (.tup [.int (i : Nat), x]) δ = some δ' ∧ OkS (body δ' S) ⟨I (i + 1), Q.rt, Q.nx, I (i + 1)⟩) (done : ∀ δ S, I xs.length δ S → Q.nx δ S) : OkS (dFor (enA a) g body δ S) Q := by
  refine ok_for (s0 := .en (.cell c)) (N := xs.length) (item := fun i => .tup [.int (i : Nat), xs[i]?.getD .non]) I ?_ (fun i δ S h => ?_) (fun i δ S hi h => ?_) (fun i δ S hi h => ?_) done
  · rw [o_enA]
    refine Ok.imp hs fun d S1 ⟨e, h⟩ => ?_
    subst e
    exact ⟨_, rfl, .inl (isL_cell (hc _ _ _ h)), rfl, h⟩
  · simp [Src.len, it_cell (hc _ _ _ h)]
  · simp [Src.item, it_cell (hc _ _ _ h), hi]
  · have e : xs[i]? = some xs[i] := List.getElem?_eq_getElem hi
    have := step i δ S xs[i] e h
    simpa [e] using this
def bR9 : DS := dSeq (dSet 11 (dIf (dB (dBin opEq (dBin opMod (dVar 9) (dC (.int 2))) (dC (.int 0)))) (dCall d_numbers_error (dCons (dVar 1) (dCons (dVar 10) dNil))) (dCallK d_numbers_error [0, 1] (dCons (dVar 1) (dCons (dVar 10) dNil))))) (dIfS (dB (dBin opNe (dCall bRepr (dCons (dVar 11) dNil)) (dCall bRepr (dCons (dCall d_law_number_due (dCons (dVar 4) (dCons (dVar 2) (dCons (dVar 10) dNil)))) dNil)))) (dRet (dC (.bl false))) dSkip)
def bR11 : DS := dSeq (dSet 11 (dIf (dB (dBin opEq (dBin opMod (dVar 9) (dC (.int 2))) (dC (.int 0)))) (dCall d_round_error (dCons (dVar 1) (dCons (dVar 10) dNil))) (dCallK d_round_error [0, 1] (dCons (dVar 1) (dCons (dVar 10) dNil))))) (dIfS (dB (dBin opNe (dCall bRepr (dCons (dVar 11) dNil)) (dCall bRepr (dCons (dCall d_law_round_due (dCons (dVar 4) (dCons (dVar 2) (dCons (dVar 10) dNil)))) dNil)))) (dRet (dC (.bl false))) dSkip)
theorem rows_len {rs : List D} {ws : List (List Stp)} (H : HOk R rs ws) : (pairsT ws).length ≤ 1000 := by
  have := pn_len H.len ws.length (Nat.le_refl _)
  have := H.w5
  unfold pairsT
  omega
theorem t_bR9 {rs : List D} {ws : List (List Stp)} {k : Nat} {v : D} {v0 v3 v5 v6 v7 v8 v11 : Option D} (H : HOk R rs ws) (hP : PA [] S pc (pairsT ws)) (hv : VOk v)
    (hQ : ∀ S' v11, Kp [] S S' → Q.nx [v0, some (houseD rs ws), some (.int (R : Nat)), v3, some (.cell pc), v5, v6, v7, v8, some (.int (k : Nat)), some v, v11] S') :
    OkS (bR9 [v0, some (houseD rs ws), some (.int (R : Nat)), v3, some (.cell pc), v5, v6, v7, v8, some (.int (k : Nat)), some v, v11] S) Q := by
  have hw : PW (errN (pairsT ws) R v) := errN_rd (rows_ok H)
  obtain ⟨s, hs⟩ := repr_pure (hw [] []) (by decide) (by decide)
  have rest : ∀ S1, Kp [] S S1 → OkS (dIfS (dB (dBin opNe (dCall bRepr (dCons (dVar 11) dNil)) (dCall bRepr (dCons (dCall d_law_number_due (dCons (dVar 4) (dCons (dVar 2) (dCons (dVar 10) dNil)))) dNil)))) (dRet (dC (.bl false))) dSkip [v0, some (houseD rs ws), some (.int (R : Nat)), v3, some (.cell pc), v5, v6, v7, v8, some (.int (k : Nat)), some v, some (errN (pairsT ws) R v)] S1) Q := by
    intro S1 k1
    simp only [o_ifS, o_B, o_bin, o_call, o_cons, o_nil, o_var, List.getElem?_cons_succ, List.getElem?_cons_zero]
    refine ⟨_, rfl, ?_⟩
    rw [hs, Ok_ok]
    refine ⟨_, rfl, _, rfl, _, rfl, ?_⟩
    refine Ok.imp (r_number_due (hP.mono k1) (rows_len H) (rows_ok H) hv) ?_
    rintro _ S2 ⟨rfl, k2⟩
    rw [hs, Ok_ok, p_neS, Ok_ok]
    refine ⟨_, rfl, ?_⟩
    rw [decide_eq_true rfl, if_neg (by simp), o_skip]
    exact hQ S2 _ (k1.trans k2)
  unfold bR9
  simp only [o_seq, o_set, o_if, o_B, o_bin, o_call, o_callK, o_cons, o_nil, o_var, o_c, List.getElem?_cons_succ, List.getElem?_cons_zero, List.set_cons_succ, List.set_cons_zero]
  refine ⟨_, rfl, ?_⟩
  rw [p_mod (by decide), Ok_ok, p_eqI, Ok_ok]
  refine ⟨_, rfl, ?_⟩
  cases decide ((k : Int).fmod 2 = 0) with
  | true =>
    rw [if_pos rfl]
    refine ⟨_, rfl, _, rfl, ?_⟩
    refine Ok.imp (r_numbers_error H hv) ?_
    rintro _ S1 ⟨rfl, k1⟩
    exact rest S1 k1
  | false =>
    rw [if_neg (by simp)]
    refine ⟨_, rfl, _, rfl, rfl, ?_⟩
    show Ok (d_numbers_error [houseD rs ws, v] S) _
    refine Ok.imp (r_numbers_error H hv) ?_
    rintro _ S1 ⟨rfl, k1⟩
    exact rest S1 k1
theorem t_bR11 {rs : List D} {ws : List (List Stp)} {k : Nat} {v : D} {v0 v3 v5 v6 v7 v8 v11 : Option D} (H : HOk R rs ws) (hP : PA [] S pc (pairsT ws)) (hv : VOk v)
    (hQ : ∀ S' v11, Kp [] S S' → Q.nx [v0, some (houseD rs ws), some (.int (R : Nat)), v3, some (.cell pc), v5, v6, v7, v8, some (.int (k : Nat)), some v, v11] S') :
    OkS (bR11 [v0, some (houseD rs ws), some (.int (R : Nat)), v3, some (.cell pc), v5, v6, v7, v8, some (.int (k : Nat)), some v, v11] S) Q := by
  have hw : PW (errR (E ws) R v) := errR_rd hv
  obtain ⟨s, hs⟩ := repr_pure (hw [] []) (by decide) (by decide)
  have rest : ∀ S1, Kp [] S S1 → OkS (dIfS (dB (dBin opNe (dCall bRepr (dCons (dVar 11) dNil)) (dCall bRepr (dCons (dCall d_law_round_due (dCons (dVar 4) (dCons (dVar 2) (dCons (dVar 10) dNil)))) dNil)))) (dRet (dC (.bl false))) dSkip [v0, some (houseD rs ws), some (.int (R : Nat)), v3, some (.cell pc), v5, v6, v7, v8, some (.int (k : Nat)), some v, some (errR (E ws) R v)] S1) Q := by
    intro S1 k1
    simp only [o_ifS, o_B, o_bin, o_call, o_cons, o_nil, o_var, List.getElem?_cons_succ, List.getElem?_cons_zero]
    refine ⟨_, rfl, ?_⟩
    rw [hs, Ok_ok]
    refine ⟨_, rfl, _, rfl, _, rfl, ?_⟩
    refine Ok.imp (r_round_due (hP.mono k1) (rows_len H) H.r6 hv) ?_
    rintro _ S2 ⟨rfl, k2⟩
    rw [ent_fun, hs, Ok_ok, p_neS, Ok_ok]
    refine ⟨_, rfl, ?_⟩
    rw [decide_eq_true rfl, if_neg (by simp), o_skip]
    exact hQ S2 _ (k1.trans k2)
  unfold bR11
  simp only [o_seq, o_set, o_if, o_B, o_bin, o_call, o_callK, o_cons, o_nil, o_var, o_c, List.getElem?_cons_succ, List.getElem?_cons_zero, List.set_cons_succ, List.set_cons_zero]
  refine ⟨_, rfl, ?_⟩
  rw [p_mod (by decide), Ok_ok, p_eqI, Ok_ok]
  refine ⟨_, rfl, ?_⟩
  cases decide ((k : Int).fmod 2 = 0) with
  | true =>
    rw [if_pos rfl]
    refine ⟨_, rfl, _, rfl, ?_⟩
    refine Ok.imp (r_round_error H hv) ?_
    rintro _ S1 ⟨rfl, k1⟩
    exact rest S1 k1
  | false =>
    rw [if_neg (by simp)]
    refine ⟨_, rfl, _, rfl, rfl, ?_⟩
    show Ok (d_round_error [houseD rs ws, v] S) _
    refine Ok.imp (r_round_error H hv) ?_
    rintro _ S1 ⟨rfl, k1⟩
    exact rest S1 k1
end
end Dn
set_option Elab.async false
set_option linter.all false
set_option maxRecDepth 100000
set_option maxHeartbeats 2000000
/-! Co_k92: all values against the law. -/
noncomputable section
namespace Dn
open PySem L2
section
variable {S S' S0 : Sto} {kd kg hands R pc fo : Nat} {δ : En} {Q : Po} {P : D → Sto → Prop} {K : List Nat} {rows : List Row}
theorem p_BB {a b : Nat} {x y : Bool} (ha : S[a]? = some (.lst [.bl x, .bl y])) (hb : S[b]? = some (.lst [.bl x, .bl y])) : opNe (.cell a) (.cell b) S = .ok (.bl false) S := by
  show opEqP true (.cell a) (.cell b) S = _
  have e : ∀ c, S[c]? = some (.lst [.bl x, .bl y]) → toPy 60 S (.cell c) = some (.list [.bool x, .bool y]) := fun c hc => by
    rw [toPy_succ_cell hc]
    rfl
  have sh : SeqAt.shaped (.list [.bool x, .bool y]) = true := by cases x <;> cases y <;> decide
  have eq : PyData.eqv (.list [.bool x, .bool y]) (.list [.bool x, .bool y]) = true := by cases x <;> cases y <;> simp [PyData.eqv, PyData.eqvAll]
  unfold opEqP
  simp only [e a ha, e b hb, sh, eq, Bool.and_self, if_true]
  rfl
def srcVal : DE := dBin opAdd (dCall d_law_values (dCons (dVar 0) (dCons (dVar 2) (dCons (dVar 8) dNil)))) (dLst (dCons (dBin opIx (dVar 7) (dC (.int 0))) dNil))
theorem t_for9 {i : Int} {rs : List D} {ws : List (List Stp)} {ns : List Nat} {tc : Nat} {told : List D} {t : D} {body : DS} {v3 v5 v6 v9 v10 v11 : Option D} (Dk : Deck kd kg S) (H : HOk R rs ws) (hn1 : 1 ≤ ns.length) (hn7 : ns.length ≤ 7) (hns : ∀ a ∈ ns, a ≤ 6) (ht : S[tc]? = some (.lst told)) (htn : tc ∉ [kd, kg]) (hti : ∀ S', S'[tc]? = some (.lst told) → opIx (.cell tc) (.int i) S' = .ok t S') (hvt : VOk t) (hP : PA [kd, kg] S pc (pairsT ws))
    (step : ∀ (k : Nat) (v : D) (v9 v10 v11 : Option D) S1 (Q1 : Po), PA [] S1 pc (pairsT ws) → VOk v → (∀ S' v11, Kp [] S1 S' → Q1.nx [some (.cell kd), some (houseD rs ws), some (.int (R : Nat)), v3, some (.cell pc), v5, v6, some (.cell tc), some (.tup (nats ns)), some (.int (k : Nat)), some v, v11] S') → OkS (body [some (.cell kd), some (houseD rs ws), some (.int (R : Nat)), v3, some (.cell pc), v5, v6, some (.cell tc), some (.tup (nats ns)), some (.int (k : Nat)), some v, v11] S1) Q1)
    (hQ : ∀ S' v9 v10 v11, Dw kd kg S S' → Q.nx [some (.cell kd), some (houseD rs ws), some (.int (R : Nat)), v3, some (.cell pc), v5, v6, some (.cell tc), some (.tup (nats ns)), v9, v10, v11] S') :
    OkS (dFor (enA (dCons (dBin opAdd (dCall d_law_values (dCons (dVar 0) (dCons (dVar 2) (dCons (dVar 8) dNil)))) (dLst (dCons (dBin opIx (dVar 7) (dC (.int i))) dNil))) dNil)) (.tp [(.nm 9), (.nm 10)]) body [some (.cell kd), some (houseD rs ws), some (.int (R : Nat)), v3, some (.cell pc), v5, v6, some (.cell tc), some (.tup (nats ns)), v9, v10, v11] S) Q := by
  have src : Ok ((dCons (dBin opAdd (dCall d_law_values (dCons (dVar 0) (dCons (dVar 2) (dCons (dVar 8) dNil)))) (dLst (dCons (dBin opIx (dVar 7) (dC (.int i))) dNil))) dNil) [some (.cell kd), some (houseD rs ws), some (.int (R : Nat)), v3, some (.cell pc), v5, v6, some (.cell tc), some (.tup (nats ns)), v9, v10, v11] S) fun ds S1 => ∃ c l, ds = [.cell c] ∧ S1[c]? = some (.lst l) ∧ VL 18 l ∧ Dw kd kg S S1 := by
    simp only [o_bin, o_call, o_lst, o_cons, o_nil, o_var, o_c, List.getElem?_cons_succ, List.getElem?_cons_zero]
    refine ⟨_, rfl, _, rfl, _, rfl, ?_⟩
    refine Ok.imp (r_values Dk H.r1 H.r6 hn1 hn7 hns) ?_
    rintro _ S1 ⟨c, l, rfl, hcl, hc, hv, d1⟩
    refine ⟨_, rfl, ?_⟩
    rw [hti S1 (d1.2.get _ _ htn ht), Ok_ok]
    refine ⟨by simp [lim_eq], ?_⟩
    have hV : VL 18 (l ++ [t]) := hv.app (m := 1) ⟨by simp, fun z hz => by rw [List.mem_singleton.mp hz]; exact hvt⟩
    rw [p_addL ((Kp.app [] S1 _).get _ _ (by simp) hc) (get_push _ _), o_mkL]
    refine ⟨by have := hV.1; rw [lim_eq]; omega, _, _, rfl, get_push _ _, hV, ?_, ?_⟩
    · exact d1.1.kp ((Kp.app _ _ _).push _)
    · exact (d1.2.trans (Kp.app _ _ _)).push _
  obtain ⟨ds, S1, e, c, l, rfl, hc, hv, d1⟩ := src.ex
  have hP1 := (hP.mono d1.2).nil
  refine ok_forEAL (xs := l) (c := c) (fun k δ S' => (∃ v9 v10 v11, δ = [some (.cell kd), some (houseD rs ws), some (.int (R : Nat)), v3, some (.cell pc), v5, v6, some (.cell tc), some (.tup (nats ns)), v9, v10, v11]) ∧ Kp [] S1 S') ?_ ?_ ?_ ?_
  · rw [e, Ok_ok]
    exact ⟨rfl, ⟨_, _, _, rfl⟩, Kp.refl _ _⟩
  · rintro k δ S2 ⟨_, k2⟩
    exact k2.get _ _ (by simp) hc
  · rintro k δ S2 x hx ⟨⟨v9, v10, v11, rfl⟩, k2⟩
    simp only [set_tp, setAll_cons, set_nm, setAll_nil, Option.bind_some]
    refine ⟨_, rfl, ?_⟩
    simp only [List.set_cons_succ, List.set_cons_zero]
    refine step k x none none v11 S2 _ (hP1.mono k2) (hv.2 x (List.mem_of_getElem? hx)) ?_
    intro S3 v11 k3
    exact ⟨⟨_, _, _, rfl⟩, k2.trans k3⟩
  · rintro δ S2 ⟨⟨v9, v10, v11, rfl⟩, k2⟩
    exact hQ S2 _ _ _ ⟨d1.1.kp k2, d1.2.trans k2.of⟩
end
end Dn
set_option Elab.async false
set_option linter.all false
set_option maxRecDepth 100000
set_option maxHeartbeats 2000000
/-! Cp_k92: is right, the head. -/
noncomputable section
namespace Dn
open PySem L2
structure TOk (ws : List (List Stp)) (R : Nat) (t0 t1 : D) : Prop where
  n : (t0 = .non ∧ HasStuck (pre ws R) R) ∨ ∃ ns : List Nat, t0 = .tup (nats ns) ∧ NumOk ws R ns ∧ ¬ HasStuck (pre ws R) R
  r : (t1 = .non ∧ ¬ HasStuck (pre ws R) R) ∨ ∃ v : List Nat, t1 = .tup (nats v) ∧ RoundOk ws R v ∧ RoundIs ws R v ∧ HasStuck (pre ws R) R
section
variable {S S' S0 : Sto} {kd kg hands R pc fo : Nat} {δ : En} {Q : Po} {P : D → Sto → Prop} {K : List Nat} {rows : List Row}
theorem o_asgL {gs : List Tg} {e : DE} : OkS (dAsgL gs e δ S) Q = Ok (e δ S) fun d S1 => isT d = false ∧ ∃ ds δ', items S1 d = some ds ∧ Tg.setAll gs ds δ = some δ' ∧ Q.nx δ' S1 := by
  unfold dAsgL
  rw [OkS_then]
  congr
  funext d S1
  apply propext
  cases isT d with
  | true => simp
  | false =>
    cases h : items S1 d with
    | none => simp
    | some ds => cases h2 : Tg.setAll gs ds δ <;> simp [h2]
def hR : DS := dSeq (dPar [2, 3] (dCons (dCall bLen (dCons (dBin opIx (dVar 1) (dC (.int 0))) dNil)) (dCons (dCall bRepr (dCons (dVar 1) dNil)) dNil))) (dSeq (dSet 4 (dCall d_law_own_pairs (dCons (dBin opIx (dVar 1) (dC (.int 1))) dNil))) (dSeq (dAsgL [(.nm 5), (.nm 6)] (dCall d_law_sorted (dCons (dVar 4) (dCons (dVar 2) dNil)))) (dSet 7 (dLst (dCons (dCall d_numbers (dCons (dVar 1) dNil)) (dCons (dCall d_room_round (dCons (dVar 1) dNil)) dNil))))))
theorem t_hR {rs : List D} {ws : List (List Stp)} {str : Str} {v2 v3 v4 v5 v6 v7 v8 v9 v10 v11 : Option D} (Dk : Deck kd kg S) (H : HOk R rs ws) (hst : ∀ S, bRepr [houseD rs ws] S = .ok (.str str) S)
    (hQ : ∀ S' pc tc t0 t1 x y, Deck kd kg S' → Kp [] S S' → PA [kd, kg] S' pc (pairsT ws) → S'[tc]? = some (.lst [t0, t1]) → tc ∉ [kd, kg] → SortOk ws R x y → TOk ws R t0 t1 → Q.nx [some (.cell kd), some (houseD rs ws), some (.int (R : Nat)), some (.str str), some (.cell pc), some x, some y, some (.cell tc), v8, v9, v10, v11] S') :
    OkS (hR [some (.cell kd), some (houseD rs ws), v2, v3, v4, v5, v6, v7, v8, v9, v10, v11] S) Q := by
  have ix0 : ∀ (S : Sto), opIx (houseD rs ws) (.int 0) S = .ok (.tup rs) S := fun S => rfl
  have ix1 : ∀ (S : Sto), opIx (houseD rs ws) (.int 1) S = .ok (.tup (ws.map wayD)) S := fun S => rfl
  unfold hR
  simp only [o_seq, o_par, o_set, o_asgL, o_call, o_cons, o_nil, o_bin, o_lst, o_var, o_c, List.getElem?_cons_succ, List.getElem?_cons_zero]
  refine ⟨_, rfl, ?_⟩
  rw [ix0, Ok_ok, b_lenT, Ok_ok, H.rl]
  refine ⟨_, rfl, ?_⟩
  rw [hst, Ok_ok]
  show ∃ δ', Tg.setAll [.nm 2, .nm 3] [.int (R : Nat), .str str] _ = some δ' ∧ _
  rw [setAll_cons, set_nm, Option.bind_some, setAll_cons, set_nm, Option.bind_some, setAll_nil]
  refine ⟨_, rfl, ?_⟩
  simp only [List.set_cons_succ, List.set_cons_zero, List.getElem?_cons_succ, List.getElem?_cons_zero]
  refine ⟨_, rfl, ?_⟩
  rw [ix1, Ok_ok]
  refine Ok.imp (r_own_pairs H) ?_
  rintro _ S1 ⟨k1, pc, rfl, B⟩
  have hlt := Dk.lt
  have hP1 : PA [kd, kg] S1 pc (pairsT ws) := B.pa (fun n hn => by simp at hn; omega)
  refine ⟨_, rfl, _, rfl, ?_⟩
  refine Ok.imp (r_sorted H hP1.nil) ?_
  rintro _ S2 ⟨k2, c, x, y, rfl, hc, so⟩
  refine ⟨rfl, [x, y], ?_⟩
  rw [setAll_cons, set_nm, Option.bind_some, setAll_cons, set_nm, Option.bind_some, setAll_nil]
  refine ⟨_, it_cell hc, rfl, ?_⟩
  simp only [List.set_cons_succ, List.set_cons_zero, List.getElem?_cons_succ, List.getElem?_cons_zero]
  refine ⟨_, rfl, ?_⟩
  refine Ok.imp (r_numbers H) ?_
  rintro t0 S3 ⟨k3, hn⟩
  refine ⟨_, rfl, ?_⟩
  refine Ok.imp (r_room_round H) ?_
  rintro t1 S4 ⟨k4, hr⟩
  refine ⟨by simp [lim_eq], ?_⟩
  have kk : Kp [] S S4 := ((k1.trans k2).trans k3).trans k4
  have kp : Kp [] S1 S4 := (k2.trans k3).trans k4
  exact hQ _ pc _ t0 t1 x y ((Dk.kp kk).push _) (kk.push _) (hP1.mono (kp.of.trans (Kp.app _ _ _))) (get_push _ _) ((Dk.kp kk).fresh (Nat.le_refl _)) so ⟨hn, hr⟩
end
end Dn
set_option Elab.async false
set_option linter.all false
set_option maxRecDepth 100000
set_option maxHeartbeats 2000000
/-! Cq_k92: is right, the three tests. -/
noncomputable section
namespace Dn
open PySem L2
section
variable {S S' S0 : Sto} {kd kg hands R pc fo : Nat} {δ : En} {Q : Po} {P : D → Sto → Prop} {K : List Nat} {rows : List Row}
def bR5 : DS := dIfS (dB (dBin opNe (dLst (dCons (dBin (opIsN false) (dBin opIx (dVar 7) (dC (.int 0))) (dC .non)) (dCons (dBin (opIsN false) (dBin opIx (dVar 7) (dC (.int 1))) (dC .non)) dNil))) (dLst (dCons (dBin (opIsN false) (dVar 5) (dC .non)) (dCons (dBin (opIsN false) (dVar 6) (dC .non)) dNil))))) (dRet (dC (.bl false))) dSkip
theorem t_R5 {tc : Nat} {t0 t1 x y : D} {v0 v1 v2 v3 v4 v8 v9 v10 v11 : Option D} (ht : S[tc]? = some (.lst [t0, t1])) (e0 : isNon t0 = isNon x) (e1 : isNon t1 = isNon y)
    (hQ : ∀ S', Kp [] S S' → Q.nx [v0, v1, v2, v3, v4, some x, some y, some (.cell tc), v8, v9, v10, v11] S') : OkS (bR5 [v0, v1, v2, v3, v4, some x, some y, some (.cell tc), v8, v9, v10, v11] S) Q := by
  have i0 : opIx (.cell tc) (.int 0) S = .ok t0 S := p_ixL0 ht rfl
  have i1 : opIx (.cell tc) (.int 1) S = .ok t1 S := p_ix (n := 1) (it_cell ht) rfl rfl
  unfold bR5
  simp only [o_ifS, o_B, o_bin, o_lst, o_cons, o_nil, o_var, o_c, List.getElem?_cons_succ, List.getElem?_cons_zero]
  refine ⟨_, rfl, ?_⟩
  rw [i0, Ok_ok, p_isN, Ok_ok]
  refine ⟨_, rfl, ?_⟩
  rw [i1, Ok_ok, p_isN, Ok_ok]
  refine ⟨by simp [lim_eq], _, rfl, ?_⟩
  rw [p_isN, Ok_ok]
  refine ⟨_, rfl, ?_⟩
  rw [p_isN, Ok_ok]
  refine ⟨by simp [lim_eq], ?_⟩
  rw [e0, e1, p_BB ((Kp.app [] (S ++ [C.lst [D.bl (isNon x), D.bl (isNon y)]]) _).get _ _ (by simp) (get_push _ _)) (get_push _ _), Ok_ok]
  refine ⟨_, rfl, ?_⟩
  rw [if_neg (by simp), o_skip]
  exact hQ _ ((Kp.app _ _ _).push _)
def bR6 : DS := dIfS (dAnd (dB (dBin (opIsN true) (dVar 5) (dC .non))) (dB (dBin (opIsN true) (dCall d_law_number_due (dCons (dVar 4) (dCons (dVar 2) (dCons (dBin opIx (dVar 7) (dC (.int 0))) dNil)))) (dC .non)))) (dRet (dC (.bl false))) dSkip
def bR7 : DS := dIfS (dAnd (dB (dBin (opIsN true) (dVar 6) (dC .non))) (dB (dBin (opIsN true) (dCall d_law_round_due (dCons (dVar 4) (dCons (dVar 2) (dCons (dBin opIx (dVar 7) (dC (.int 1))) dNil)))) (dC .non)))) (dRet (dC (.bl false))) dSkip
theorem t_R6 {rs : List D} {ws : List (List Stp)} {tc : Nat} {t0 t1 x : D} {v0 v1 v3 v6 v8 v9 v10 v11 : Option D} (H : HOk R rs ws) (hP : PA [] S pc (pairsT ws)) (ht : S[tc]? = some (.lst [t0, t1])) (hx : isNon x = true ∨ (VOk t0 ∧ errN (pairsT ws) R t0 = .non))
    (hQ : ∀ S', Kp [] S S' → Q.nx [v0, v1, some (.int (R : Nat)), v3, some (.cell pc), some x, v6, some (.cell tc), v8, v9, v10, v11] S') : OkS (bR6 [v0, v1, some (.int (R : Nat)), v3, some (.cell pc), some x, v6, some (.cell tc), v8, v9, v10, v11] S) Q := by
  have i0 : opIx (.cell tc) (.int 0) S = .ok t0 S := p_ixL0 ht rfl
  unfold bR6
  simp only [o_ifS, o_and, o_B, o_bin, o_call, o_cons, o_nil, o_var, o_c, List.getElem?_cons_succ, List.getElem?_cons_zero]
  refine ⟨_, rfl, ?_⟩
  rw [p_notN, Ok_ok]
  refine ⟨_, rfl, ?_⟩
  cases hn : isNon x with
  | true =>
    rw [if_neg (by simp), if_neg (by simp), o_skip]
    exact hQ S (Kp.refl _ _)
  | false =>
    obtain ⟨hv, he⟩ : VOk t0 ∧ errN (pairsT ws) R t0 = .non := by
      rcases hx with h | h
      · rw [hn] at h; cases h
      · exact h
    have ef : (!false) = true := rfl
    rw [if_pos ef]
    refine ⟨_, rfl, _, rfl, _, rfl, ?_⟩
    rw [i0, Ok_ok]
    refine Ok.imp (r_number_due hP (rows_len H) (rows_ok H) hv) ?_
    rintro _ S1 ⟨rfl, k1⟩
    rw [he, p_notN, Ok_ok]
    refine ⟨_, rfl, ?_⟩
    rw [isNon_non, if_neg (by simp), o_skip]
    exact hQ S1 k1
theorem t_R7 {rs : List D} {ws : List (List Stp)} {tc : Nat} {t0 t1 y : D} {v0 v1 v3 v5 v8 v9 v10 v11 : Option D} (H : HOk R rs ws) (hP : PA [] S pc (pairsT ws)) (ht : S[tc]? = some (.lst [t0, t1])) (hx : isNon y = true ∨ (VOk t1 ∧ errR (E ws) R t1 = .non))
    (hQ : ∀ S', Kp [] S S' → Q.nx [v0, v1, some (.int (R : Nat)), v3, some (.cell pc), v5, some y, some (.cell tc), v8, v9, v10, v11] S') : OkS (bR7 [v0, v1, some (.int (R : Nat)), v3, some (.cell pc), v5, some y, some (.cell tc), v8, v9, v10, v11] S) Q := by
  have i1 : opIx (.cell tc) (.int 1) S = .ok t1 S := p_ix (n := 1) (it_cell ht) rfl rfl
  unfold bR7
  simp only [o_ifS, o_and, o_B, o_bin, o_call, o_cons, o_nil, o_var, o_c, List.getElem?_cons_succ, List.getElem?_cons_zero]
  refine ⟨_, rfl, ?_⟩
  rw [p_notN, Ok_ok]
  refine ⟨_, rfl, ?_⟩
  cases hn : isNon y with
  | true =>
    rw [if_neg (by simp), if_neg (by simp), o_skip]
    exact hQ S (Kp.refl _ _)
  | false =>
    obtain ⟨hv, he⟩ : VOk t1 ∧ errR (E ws) R t1 = .non := by
      rcases hx with h | h
      · rw [hn] at h; cases h
      · exact h
    have ef : (!false) = true := rfl
    rw [if_pos ef]
    refine ⟨_, rfl, _, rfl, _, rfl, ?_⟩
    rw [i1, Ok_ok]
    refine Ok.imp (r_round_due hP (rows_len H) H.r6 hv) ?_
    rintro _ S1 ⟨rfl, k1⟩
    rw [ent_fun, he, p_notN, Ok_ok]
    refine ⟨_, rfl, ?_⟩
    rw [isNon_non, if_neg (by simp), o_skip]
    exact hQ S1 k1
end
end Dn
set_option Elab.async false
set_option linter.all false
set_option maxRecDepth 100000
set_option maxHeartbeats 2000000
/-! Cr_k92: is right, the last test. -/
noncomputable section
namespace Dn
open PySem L2
theorem TOk.uniq {ws : List (List Stp)} {R : Nat} {t0 t1 s0 s1 : D} (h : TOk ws R t0 t1) (h' : TOk ws R s0 s1) : t0 = s0 ∧ t1 = s1 := by
  constructor
  · rcases h.n with ⟨rfl, hs⟩ | ⟨ns, rfl, hn, hs⟩ <;> rcases h'.n with ⟨rfl, hs'⟩ | ⟨ms, rfl, hn', hs'⟩
    · rfl
    · exact absurd hs hs'
    · exact absurd hs' hs
    · rw [hn.uniq hn']
  · rcases h.r with ⟨rfl, hs⟩ | ⟨v, rfl, _, hn, hs⟩ <;> rcases h'.r with ⟨rfl, hs'⟩ | ⟨v', rfl, _, hn', hs'⟩
    · rfl
    · exact absurd hs' hs
    · exact absurd hs hs'
    · rw [hn.uniq hn']
theorem TOk.rd {ws : List (List Stp)} {R : Nat} {t0 t1 : D} (hR : R ≤ 6) (h : TOk ws R t0 t1) : PW t0 ∧ PW t1 := by
  constructor
  · rcases h.n with ⟨rfl, hs⟩ | ⟨ns, rfl, hn, hs⟩
    · exact pw_non
    · exact fun K S => rd_tup (k := 0) (w := 7) (fun x hx => by
        obtain ⟨a, ha, rfl⟩ := List.mem_map.mp hx
        have := hn.lt a ha
        exact rd_sm (by omega)) (Nat.le_refl _) (by rw [List.length_map, hn.len]; omega)
  · rcases h.r with ⟨rfl, hs⟩ | ⟨v, rfl, hr, _, hs⟩
    · exact pw_non
    · exact fun K S => rd_tup (k := 0) (w := 7) (fun x hx => by
        obtain ⟨a, ha, rfl⟩ := List.mem_map.mp hx
        have := hr.lt a ha
        exact rd_sm (by omega)) (Nat.le_refl _) (by
          have := nodup_len R v hr.nd hr.lt
          rw [List.length_map]
          omega)
section
variable {S S' S0 : Sto} {kd kg hands R pc fo : Nat} {δ : En} {Q : Po} {P : D → Sto → Prop} {K : List Nat} {rows : List Row}
def bR12 : DS := dRet (dAndV (dBin opEq (dCall bRepr (dCons (dLst (dCons (dCallK d_numbers [0] (dCons (dVar 1) dNil)) (dCons (dCallK d_room_round [0] (dCons (dVar 1) dNil)) dNil))) dNil)) (dCall bRepr (dCons (dVar 7) dNil))) (dBin opEq (dCall bRepr (dCons (dVar 1) dNil)) (dVar 3)))
theorem t_R12 {rs : List D} {ws : List (List Stp)} {tc : Nat} {t0 t1 : D} {str : Str} {v0 v2 v4 v5 v6 v8 v9 v10 v11 : Option D} (H : HOk R rs ws) (hst : ∀ S, bRepr [houseD rs ws] S = .ok (.str str) S) (ht : S[tc]? = some (.lst [t0, t1])) (T : TOk ws R t0 t1)
    (hQ : ∀ S', Kp [] S S' → Q.rt (.bl true) S') : OkS (bR12 [v0, some (houseD rs ws), v2, some (.str str), v4, v5, v6, some (.cell tc), v8, v9, v10, v11] S) Q := by
  unfold bR12
  simp only [o_ret, o_andV, o_bin, o_call, o_callK, o_lst, o_cons, o_nil, o_var, List.getElem?_cons_succ, List.getElem?_cons_zero]
  refine ⟨_, rfl, rfl, ?_⟩
  show Ok (d_numbers [houseD rs ws] S) _
  refine Ok.imp (r_numbers H) ?_
  rintro s0 S1 ⟨k1, hn⟩
  refine ⟨_, rfl, rfl, ?_⟩
  show Ok (d_room_round [houseD rs ws] S1) _
  refine Ok.imp (r_room_round H) ?_
  rintro s1 S2 ⟨k2, hr⟩
  obtain ⟨rfl, rfl⟩ := T.uniq ⟨hn, hr⟩
  refine ⟨by simp [lim_eq], ?_⟩
  have k3 : Kp [] S2 (S2 ++ [.lst [t0, t1]]) := Kp.app _ _ _
  have hc := get_push S2 (C.lst [t0, t1])
  have ht3 := k3.get _ _ (by simp) ((k1.trans k2).get _ _ (by simp) ht)
  have k03 := (k1.trans k2).trans k3
  generalize S2 ++ [C.lst [t0, t1]] = S3 at k3 hc ht3 k03
  have rd := T.rd H.r6
  have mem : ∀ x ∈ [t0, t1], Rd [] 1 100 S3 x := fun x hx => by
    simp at hx
    rcases hx with rfl | rfl
    · exact rd.1 _ _
    · exact rd.2 _ _
  obtain ⟨p, p1, _, p3⟩ := b_repr (rd_cell (K := []) (k' := 2) (w' := 300) hc (by simp) mem (by decide) (by simp)) (by decide) (by decide)
  obtain ⟨q, q1, _, q3⟩ := b_repr (rd_cell (K := []) (k' := 2) (w' := 300) ht3 (by simp) mem (by decide) (by simp)) (by decide) (by decide)
  have e1 := p1 S3 (Kp.refl _ _)
  have e2 := q1 S3 (Kp.refl _ _)
  rw [toPy_succ_cell hc] at e1
  rw [toPy_succ_cell ht3] at e2
  have epq : p = q := Option.some.inj (e1.symm.trans e2)
  rw [p3 S3 (Kp.refl _ _), Ok_ok]
  refine ⟨_, rfl, ?_⟩
  rw [q3 S3 (Kp.refl _ _), Ok_ok, epq, p_eqS, Ok_ok]
  refine ⟨_, rfl, ?_⟩
  rw [decide_eq_true rfl, if_pos rfl]
  refine ⟨_, rfl, ?_⟩
  rw [hst, Ok_ok]
  refine ⟨_, rfl, ?_⟩
  rw [p_eqS, Ok_ok, decide_eq_true rfl]
  exact hQ S3 k03
end
end Dn
set_option Elab.async false
set_option linter.all false
set_option maxRecDepth 100000
set_option maxHeartbeats 2000000
/-! Cs_k92: is right. -/
noncomputable section
namespace Dn
open PySem L2
section
variable {S S' S0 : Sto} {kd kg hands R pc fo : Nat} {δ : En} {Q : Po} {P : D → Sto → Prop} {K : List Nat} {rows : List Row}
theorem seq4 {x y z u w : DS} (h : OkS (dSeq x (dSeq y (dSeq z u)) δ S) ⟨fun δ S => OkS (w δ S) Q, Q.rt, Q.bk, Q.ct⟩) : OkS (dSeq x (dSeq y (dSeq z (dSeq u w))) δ S) Q := by
  simp only [o_seq] at h ⊢
  exact h
def bR8 : DS := dSet 8 (dIf (dB (dBin (opIsN false) (dVar 5) (dC .non))) (dCall bTuple (dCons (dListRg (dVar 2)) dNil)) (dVar 5))
def bR10 : DS := dSet 8 (dIf (dB (dBin (opIsN false) (dVar 6) (dC .non))) (dCall bTuple (dCons (dListRg (dCall bMin (dCons (dVar 2) (dCons (dC (.int 3)) dNil)))) dNil)) (dVar 6))
def FewN (ns : List Nat) : Prop := 1 ≤ ns.length ∧ ns.length ≤ 7 ∧ ∀ a ∈ ns, a ≤ 6
theorem few_range {n : Nat} (h1 : 1 ≤ n) (h6 : n ≤ 6) : FewN (List.range n) := ⟨by simp; omega, by simp; omega, fun a ha => by have := List.mem_range.mp ha; omega⟩
theorem t_R8 {x : D} {v0 v1 v3 v4 v6 v7 v8 v9 v10 v11 : Option D} (h1 : 1 ≤ R) (hR : R ≤ 6) (hx : x = .non ∨ ∃ f : List Nat, x = .tup (nats f) ∧ FewN f)
    (hQ : ∀ S' ns, Kp [] S S' → FewN ns → Q.nx [v0, v1, some (.int (R : Nat)), v3, v4, some x, v6, v7, some (.tup (nats ns)), v9, v10, v11] S') : OkS (bR8 [v0, v1, some (.int (R : Nat)), v3, v4, some x, v6, v7, v8, v9, v10, v11] S) Q := by
  unfold bR8
  simp only [o_set, o_if, o_B, o_bin, o_call, o_cons, o_nil, o_var, o_c, List.getElem?_cons_succ, List.getElem?_cons_zero]
  refine ⟨_, rfl, ?_⟩
  rw [p_isN, Ok_ok]
  refine ⟨_, rfl, ?_⟩
  rcases hx with rfl | ⟨f, rfl, hf⟩
  · rw [isNon_non, if_pos rfl]
    refine ok_listRg (n := R) (by omega) ?_
    rw [o_var]
    refine ⟨_, rfl, rfl, ?_⟩
    rw [b_tupL (get_push _ _), Ok_ok]
    exact hQ _ _ (Kp.app _ _ _) (few_range h1 hR)
  · rw [isNon_tup, if_neg (by simp)]
    exact ⟨_, rfl, hQ S f (Kp.refl _ _) hf⟩
theorem t_R10 {x : D} {v0 v1 v3 v4 v5 v7 v8 v9 v10 v11 : Option D} (h1 : 1 ≤ R) (hR : R ≤ 6) (hx : x = .non ∨ ∃ f : List Nat, x = .tup (nats f) ∧ FewN f)
    (hQ : ∀ S' ns, Kp [] S S' → FewN ns → Q.nx [v0, v1, some (.int (R : Nat)), v3, v4, v5, some x, v7, some (.tup (nats ns)), v9, v10, v11] S') : OkS (bR10 [v0, v1, some (.int (R : Nat)), v3, v4, v5, some x, v7, v8, v9, v10, v11] S) Q := by
  unfold bR10
  simp only [o_set, o_if, o_B, o_bin, o_call, o_cons, o_nil, o_var, o_c, List.getElem?_cons_succ, List.getElem?_cons_zero]
  refine ⟨_, rfl, ?_⟩
  rw [p_isN, Ok_ok]
  refine ⟨_, rfl, ?_⟩
  rcases hx with rfl | ⟨f, rfl, hf⟩
  · rw [isNon_non, if_pos rfl]
    obtain ⟨n, hn, hn1, hn6⟩ : ∃ n : Nat, (if (3 : Int) < (R : Int) then (3 : Int) else (R : Int)) = (n : Int) ∧ 1 ≤ n ∧ n ≤ 6 := by
      by_cases h : (3 : Int) < (R : Int)
      · exact ⟨3, by rw [if_pos h]; rfl, by decide, by decide⟩
      · exact ⟨R, by rw [if_neg h], h1, hR⟩
    refine ok_listRg (n := n) (by omega) ?_
    simp only [o_call, o_cons, o_nil, o_var, o_c, List.getElem?_cons_succ, List.getElem?_cons_zero]
    refine ⟨_, rfl, ?_⟩
    rw [b_min2, Ok_ok, hn]
    refine ⟨rfl, ?_⟩
    rw [b_tupL (get_push _ _), Ok_ok]
    exact hQ _ _ (Kp.app _ _ _) (few_range hn1 hn6)
  · rw [isNon_tup, if_neg (by simp)]
    exact ⟨_, rfl, hQ S f (Kp.refl _ _) hf⟩
end
end Dn
set_option Elab.async false
set_option linter.all false
set_option maxRecDepth 100000
set_option maxHeartbeats 2000000
/-! Ct_k92: is right, joined. -/
noncomputable section
namespace Dn
open PySem L2
section
variable {S S' S0 : Sto} {kd kg hands R pc fo : Nat} {δ : En} {Q : Po} {P : D → Sto → Prop} {K : List Nat} {rows : List Row}
def f9 : DS := dFor (enA (dCons (dBin opAdd (dCall d_law_values (dCons (dVar 0) (dCons (dVar 2) (dCons (dVar 8) dNil)))) (dLst (dCons (dBin opIx (dVar 7) (dC (.int 0))) dNil))) dNil)) (.tp [(.nm 9), (.nm 10)]) bR9
def f11 : DS := dFor (enA (dCons (dBin opAdd (dCall d_law_values (dCons (dVar 0) (dCons (dVar 2) (dCons (dVar 8) dNil)))) (dLst (dCons (dBin opIx (dVar 7) (dC (.int 1))) dNil))) dNil)) (.tp [(.nm 9), (.nm 10)]) bR11
theorem law_split : b_law_is_right = dSeq (dPar [2, 3] (dCons (dCall bLen (dCons (dBin opIx (dVar 1) (dC (.int 0))) dNil)) (dCons (dCall bRepr (dCons (dVar 1) dNil)) dNil))) (dSeq (dSet 4 (dCall d_law_own_pairs (dCons (dBin opIx (dVar 1) (dC (.int 1))) dNil))) (dSeq (dAsgL [(.nm 5), (.nm 6)] (dCall d_law_sorted (dCons (dVar 4) (dCons (dVar 2) dNil)))) (dSeq (dSet 7 (dLst (dCons (dCall d_numbers (dCons (dVar 1) dNil)) (dCons (dCall d_room_round (dCons (dVar 1) dNil)) dNil)))) (dSeq bR5 (dSeq bR6 (dSeq bR7 (dSeq bR8 (dSeq f9 (dSeq bR10 (dSeq f11 bR12)))))))))) := rfl
theorem r_is_right {rs : List D} {ws : List (List Stp)} (Dk : Deck kd kg S) (H : HOk R rs ws) : Ok (d_law_is_right [.cell kd, houseD rs ws] S) fun r S' => r = .bl true ∧ Dw kd kg S S' := by
  have h1 := H.r1
  have r6 := H.r6
  obtain ⟨str, hst⟩ := repr_pure (house_rd H (K := []) (S := [])) (by decide) (by decide)
  obtain ⟨b5, hb5⟩ : ∃ b, b = bR5 := ⟨_, rfl⟩
  obtain ⟨b6, hb6⟩ : ∃ b, b = bR6 := ⟨_, rfl⟩
  obtain ⟨b7, hb7⟩ : ∃ b, b = bR7 := ⟨_, rfl⟩
  obtain ⟨b8, hb8⟩ : ∃ b, b = bR8 := ⟨_, rfl⟩
  obtain ⟨b9, hb9⟩ : ∃ b, b = f9 := ⟨_, rfl⟩
  obtain ⟨b10, hb10⟩ : ∃ b, b = bR10 := ⟨_, rfl⟩
  obtain ⟨b11, hb11⟩ : ∃ b, b = f11 := ⟨_, rfl⟩
  obtain ⟨b12, hb12⟩ : ∃ b, b = bR12 := ⟨_, rfl⟩
  have eb := law_split
  rw [← hb5, ← hb6, ← hb7, ← hb8, ← hb9, ← hb10, ← hb11, ← hb12] at eb
  simp only [d_law_is_right, eb, startD, o_fn]
  refine ⟨rfl, seq4 ?_⟩
  refine t_hR Dk H hst ?_
  intro S1 pc tc t0 t1 x y D1 k1 P1 ht htn so T
  simp only [o_seq]
  have iff0 : isNon t0 = isNon x ∧ isNon t1 = isNon y := by
    rcases so.ex with ⟨hs, rfl, f, rfl, _⟩ | ⟨hs, rfl, l, rfl, _⟩
    · rcases T.n with ⟨_, z⟩ | ⟨ns, rfl, _⟩
      · exact absurd z hs
      · rcases T.r with ⟨rfl, _⟩ | ⟨v, _, _, _, z⟩
        · exact ⟨rfl, rfl⟩
        · exact absurd z hs
    · rcases T.n with ⟨rfl, _⟩ | ⟨ns, _, _, z⟩
      · rcases T.r with ⟨_, z⟩ | ⟨v, rfl, _⟩
        · exact absurd hs z
        · exact ⟨rfl, rfl⟩
      · exact absurd hs z
  rw [hb5]
  refine t_R5 ht iff0.1 iff0.2 ?_
  intro S2 k2
  have ht2 := k2.get _ _ (by simp) ht
  have P2 := P1.mono k2.of
  show OkS (b6 _ _) _
  rw [hb6]
  have vt0 : VOk t0 := by
    rcases T.n with ⟨rfl, _⟩ | ⟨ns, rfl, hn, _⟩
    · exact vok_non
    · exact vok_tup (fun z hz => by
        obtain ⟨a, ha, rfl⟩ := List.mem_map.mp hz
        have := hn.lt a ha
        exact pv_nat (by omega)) (by rw [List.length_map, hn.len]; omega)
  have vt1 : VOk t1 := by
    rcases T.r with ⟨rfl, _⟩ | ⟨v, rfl, hr, _, _⟩
    · exact vok_non
    · exact vok_tup (fun z hz => by
        obtain ⟨a, ha, rfl⟩ := List.mem_map.mp hz
        have := hr.lt a ha
        exact pv_nat (by omega)) (by have := nodup_len R v hr.nd hr.lt; rw [List.length_map]; omega)
  have hx6 : isNon x = true ∨ (VOk t0 ∧ errN (pairsT ws) R t0 = .non) := by
    rcases T.n with ⟨rfl, _⟩ | ⟨ns, rfl, hn, _⟩
    · exact .inl (by rw [← iff0.1]; rfl)
    · exact .inr ⟨vt0, errN_ok H hn⟩
  have hy7 : isNon y = true ∨ (VOk t1 ∧ errR (E ws) R t1 = .non) := by
    rcases T.r with ⟨rfl, _⟩ | ⟨v, rfl, hr, _, _⟩
    · exact .inl (by rw [← iff0.2]; rfl)
    · exact .inr ⟨vt1, errR_ok hr⟩
  have hx8 : x = .non ∨ ∃ f : List Nat, x = .tup (nats f) ∧ FewN f := by
    rcases so.ex with ⟨_, _, f, rfl, hl, hf⟩ | ⟨_, rfl, _⟩
    · exact .inr ⟨f, rfl, by omega, by omega, hf⟩
    · exact .inl rfl
  have hy10 : y = .non ∨ ∃ f : List Nat, y = .tup (nats f) ∧ FewN f := by
    rcases so.ex with ⟨_, rfl, _⟩ | ⟨_, _, l, rfl, hne, hl, hf⟩
    · exact .inl rfl
    · exact .inr ⟨l, rfl, List.length_pos_iff.mpr hne, hl, hf⟩
  refine t_R6 H P2.nil ht2 hx6 ?_
  intro S3 k3
  have ht3 := k3.get _ _ (by simp) ht2
  have P3 := P2.mono k3.of
  show OkS (b7 _ _) _
  rw [hb7]
  refine t_R7 H P3.nil ht3 hy7 ?_
  intro S4 k4
  have ht4 := k4.get _ _ (by simp) ht3
  have P4 := P3.mono k4.of
  show OkS (b8 _ _) _
  rw [hb8]
  refine t_R8 h1 r6 hx8 ?_
  intro S5 ns k5 hns
  have ht5 := k5.get _ _ (by simp) ht4
  have P5 := P4.mono k5.of
  have k05 := (((k1.trans k2).trans k3).trans k4).trans k5
  have D5 := Dk.kp k05
  show OkS (b9 _ _) _
  rw [hb9]
  refine t_for9 D5 H hns.1 hns.2.1 hns.2.2 ht5 htn (fun S' h => p_ixL0 h rfl) vt0 P5 ?_ ?_
  · intro k v v9 v10 v11 S' Q1 hP hv hQ1
    exact t_bR9 H hP hv hQ1
  · intro S6 v9 v10 v11 d6
    have ht6 := d6.2.get _ _ htn ht5
    have P6 := P5.mono d6.2
    show OkS (b10 _ _) _
    rw [hb10]
    refine t_R10 h1 r6 hy10 ?_
    intro S7 ms k7 hms
    have ht7 := k7.get _ _ (by simp) ht6
    have P7 := P6.mono k7.of
    show OkS (b11 _ _) _
    rw [hb11]
    refine t_for9 (d6.1.kp k7) H hms.1 hms.2.1 hms.2.2 ht7 htn (fun S' h => p_ix (n := 1) (it_cell h) rfl rfl) vt1 P7 ?_ ?_
    · intro k v v9 v10 v11 S' Q1 hP hv hQ1
      exact t_bR11 H hP hv hQ1
    · intro S8 v9 v10 v11 d8
      show OkS (b12 _ _) _
      rw [hb12]
      refine t_R12 H hst (d8.2.get _ _ htn ht7) T ?_
      intro S9 k9
      exact ⟨rfl, d8.1.kp k9, (((k05.of.trans d6.2).trans k7.of).trans d8.2).trans k9.of⟩
end
end Dn
set_option Elab.async false
set_option linter.all false
set_option maxRecDepth 100000
set_option maxHeartbeats 2000000
/-! Cu_k92: the law. -/
noncomputable section
namespace Dn
open PySem L2
section
variable {S S' S0 : Sto} {kd kg hands R : Nat} {δ : En} {Q : Po} {P : D → Sto → Prop}
def bLaw3 : DS := dSet 3 (dTup (dCons (dCall d_law_draw (dCons (dVar 1) (dCons (dC (.int 3)) dNil))) (dCons (dCall d_law_draw (dCons (dVar 1) (dCons (dC (.int 4)) dNil))) dNil)))
def bLaw4 : DS := dPar [4, 5] (dCons (dBin opAdd (dC (.int 1)) (dCall d_law_draw (dCons (dVar 1) (dCons (dBin opIx (dLst (dCons (dC (.int 2)) (dCons (dC (.int 3)) (dCons (dC (.int 5)) (dCons (dC (.int 3)) dNil))))) (dVar 2)) dNil)))) (dCons (dBin opAdd (dC (.int 1)) (dCall d_law_draw (dCons (dVar 1) (dCons (dBin opIx (dLst (dCons (dC (.int 3)) (dCons (dC (.int 4)) (dCons (dC (.int 6)) (dCons (dC (.int 6)) dNil))))) (dVar 2)) dNil)))) dNil))
def bLaw5 : DS := dSet 6 (dIf (dAnd (dB (dBin opEq (dVar 2) (dC (.int 3)))) (dB (dBin opEq (dCall d_law_draw (dCons (dVar 1) (dCons (dC (.int 8)) dNil))) (dC (.int 0))))) (dC (.int 24)) (dCall d_law_pick (dCons (dVar 1) (dCons (dLst (dCons (dC (.int 2)) (dCons (dC (.int 4)) (dCons (dC (.int 6)) (dCons (dC (.int 10)) dNil))))) dNil))))
def bLaw6 : DS := dSet 7 (dCall d_law_own_house (dCons (dVar 1) (dCons (dVar 4) (dCons (dVar 5) (dCons (dVar 6) (dCons (dVar 3) dNil))))))
def bLaw7 : DS := dIfS (dAnd (dB (dBin opEq (dVar 2) (dC (.int 2)))) (dB (dBin opEq (dCall d_law_draw (dCons (dVar 1) (dCons (dC (.int 2)) dNil))) (dC (.int 0))))) (dSet 7 (dCall d_law_crossed (dCons (dVar 1) (dCons (dBin opAdd (dC (.int 2)) (dCall d_law_draw (dCons (dVar 1) (dCons (dC (.int 3)) dNil)))) (dCons (dVar 3) dNil))))) dSkip
def bLaw8 : DS := dIfS (dNot (dB (dCall d_law_is_right (dCons (dVar 1) (dCons (dCall d_law_own_mixed (dCons (dVar 1) (dCons (dCall bLen (dCons (dBin opIx (dVar 7) (dC (.int 0))) dNil)) (dCons (dBin opIx (dVar 7) (dC (.int 1))) dNil)))) dNil))))) (dRet (dC (.bl false))) dSkip
theorem lawT_split : b_law = dSeq (dSet 1 (dCall d_law_own_bag (dCons (dVar 0) dNil))) (dSeq (dFor (rng1 (dCons (dC (.int 4)) dNil)) (.nm 2) (dSeq bLaw3 (dSeq bLaw4 (dSeq bLaw5 (dSeq bLaw6 (dSeq bLaw7 bLaw8)))))) (dRet (dC (.bl true)))) := rfl
theorem dr {n : Nat} (Dk : Deck kd kg S) (h1 : 1 ≤ n) (hn : n ≤ 1000000) {P : D → Sto → Prop} (hP : ∀ (i : Nat) S', i < n → Deck kd kg S' → Kp [kd, kg] S S' → P (.int (i : Nat)) S') : Ok (d_law_draw [.cell kd, .int (n : Nat)] S) P := by
  refine Ok.imp (r_draw Dk h1 hn) ?_
  rintro _ S1 ⟨i, rfl, hi, D1, k1⟩
  exact hP i S1 hi D1 k1
theorem t_T3 {v0 v2 v3 v4 v5 v6 v7 : Option D} (Dk : Deck kd kg S)
    (hQ : ∀ S' (q0 q1 : Int), Deck kd kg S' → Q.nx [v0, some (.cell kd), v2, some (.tup [.int q0, .int q1]), v4, v5, v6, v7] S') : OkS (bLaw3 [v0, some (.cell kd), v2, v3, v4, v5, v6, v7] S) Q := by
  unfold bLaw3
  simp only [o_set, o_tup, o_call, o_cons, o_nil, o_var, o_c, List.getElem?_cons_succ, List.getElem?_cons_zero]
  refine ⟨_, rfl, ?_⟩
  refine dr (n := 3) Dk (by decide) (by decide) ?_
  intro i S1 hi D1 k1
  refine ⟨_, rfl, ?_⟩
  refine dr (n := 4) D1 (by decide) (by decide) ?_
  intro j S2 hj D2 k2
  exact ⟨by simp [lim_eq], hQ S2 _ _ D2⟩
theorem t_ixd {a b c d i n : Nat} (hi : i < 4) (ha : 1 ≤ a ∧ a ≤ n) (hb : 1 ≤ b ∧ b ≤ n) (hc : 1 ≤ c ∧ c ≤ n) (hd : 1 ≤ d ∧ d ≤ n) : ∃ k : Nat, [D.int (a : Nat), .int (b : Nat), .int (c : Nat), .int (d : Nat)][i]? = some (.int (k : Nat)) ∧ 1 ≤ k ∧ k ≤ n := by
  match i, hi with
  | 0, _ => exact ⟨a, rfl, ha⟩
  | 1, _ => exact ⟨b, rfl, hb⟩
  | 2, _ => exact ⟨c, rfl, hc⟩
  | 3, _ => exact ⟨d, rfl, hd⟩
theorem t_T4 {i : Nat} {v0 v3 v4 v5 v6 v7 : Option D} (hi : i < 4) (Dk : Deck kd kg S)
    (hQ : ∀ S' (h r : Nat), 1 ≤ h → h ≤ 5 → 1 ≤ r → r ≤ 6 → Deck kd kg S' → Q.nx [v0, some (.cell kd), some (.int (i : Nat)), v3, some (.int (h : Nat)), some (.int (r : Nat)), v6, v7] S') : OkS (bLaw4 [v0, some (.cell kd), some (.int (i : Nat)), v3, v4, v5, v6, v7] S) Q := by
  unfold bLaw4
  simp only [o_par, o_bin, o_lst, o_call, o_cons, o_nil, o_var, o_c, List.getElem?_cons_succ, List.getElem?_cons_zero]
  obtain ⟨n, hn, hn1, hn5⟩ := t_ixd (a := 2) (b := 3) (c := 5) (d := 3) (n := 5) hi (by decide) (by decide) (by decide) (by decide)
  obtain ⟨m, hm, hm1, hm6⟩ := t_ixd (a := 3) (b := 4) (c := 6) (d := 6) (n := 6) hi (by decide) (by decide) (by decide) (by decide)
  refine ⟨_, rfl, by simp [lim_eq], _, rfl, ?_⟩
  have q1 : ([D.int 2, D.int 3, D.int 5, D.int 3] : List D)[i]? = some (.int (n : Nat)) := hn
  have q2 : ([D.int 3, D.int 4, D.int 6, D.int 6] : List D)[i]? = some (.int (m : Nat)) := hm
  rw [p_ixL (get_push _ _) q1, Ok_ok]
  refine dr (Dk.push _) hn1 (by omega) ?_
  intro x S1 hx D1 k1
  rw [p_add, Ok_ok]
  refine ⟨_, rfl, by simp [lim_eq], _, rfl, ?_⟩
  rw [p_ixL (get_push _ _) q2, Ok_ok]
  refine dr (D1.push _) hm1 (by omega) ?_
  intro y S2 hy D2 k2
  rw [p_add, Ok_ok]
  refine ⟨_, rfl, ?_⟩
  have e1 : (1 : Int) + (x : Int) = ((1 + x : Nat) : Int) := by omega
  have e2 : (1 : Int) + (y : Int) = ((1 + y : Nat) : Int) := by omega
  rw [e1, e2]
  exact hQ S2 (1 + x) (1 + y) (by omega) (by omega) (by omega) (by omega) D2
theorem t_T5 {i : Nat} {v0 v3 v4 v5 v6 v7 : Option D} (Dk : Deck kd kg S)
    (hQ : ∀ S' (m : Nat), 2 ≤ m → m ≤ 24 → Deck kd kg S' → Q.nx [v0, some (.cell kd), some (.int (i : Nat)), v3, v4, v5, some (.int (m : Nat)), v7] S') : OkS (bLaw5 [v0, some (.cell kd), some (.int (i : Nat)), v3, v4, v5, v6, v7] S) Q := by
  have pick : ∀ S1, Deck kd kg S1 → Ok ((dCall d_law_pick (dCons (dVar 1) (dCons (dLst (dCons (dC (.int 2)) (dCons (dC (.int 4)) (dCons (dC (.int 6)) (dCons (dC (.int 10)) dNil))))) dNil))) [v0, some (.cell kd), some (.int (i : Nat)), v3, v4, v5, v6, v7] S1) fun d S' => Q.nx [v0, some (.cell kd), some (.int (i : Nat)), v3, v4, v5, some d, v7] S' := by
    intro S1 D1
    simp only [o_lst, o_call, o_cons, o_nil, o_var, o_c, List.getElem?_cons_succ, List.getElem?_cons_zero]
    refine ⟨_, rfl, by simp [lim_eq], ?_⟩
    refine Ok.imp (r_pick (D1.push _) (get_push _ _) (D1.fresh (Nat.le_refl _)) (by simp) (by simp)) ?_
    rintro r S2 ⟨hr, D2, k2⟩
    simp at hr
    rcases hr with rfl | rfl | rfl | rfl
    · exact hQ S2 2 (by decide) (by decide) D2
    · exact hQ S2 4 (by decide) (by decide) D2
    · exact hQ S2 6 (by decide) (by decide) D2
    · exact hQ S2 10 (by decide) (by decide) D2
  unfold bLaw5
  simp only [o_set, o_if, o_and, o_B, o_bin]
  simp only [o_call (f := d_law_draw), o_cons, o_nil, o_var, o_c, List.getElem?_cons_succ, List.getElem?_cons_zero]
  refine ⟨_, rfl, ?_⟩
  rw [p_eqI, Ok_ok]
  refine ⟨_, rfl, ?_⟩
  cases decide ((i : Int) = 3) with
  | true =>
    rw [if_pos rfl]
    refine ⟨_, rfl, ?_⟩
    refine dr (n := 8) Dk (by decide) (by decide) ?_
    intro x S1 hx D1 k1
    rw [p_eqI, Ok_ok]
    refine ⟨_, rfl, ?_⟩
    cases decide ((x : Int) = 0) with
    | true =>
      rw [if_pos rfl]
      exact hQ S1 24 (by decide) (by decide) D1
    | false =>
      rw [if_neg (by simp)]
      exact pick S1 D1
  | false =>
    rw [if_neg (by simp), if_neg (by simp)]
    exact pick S Dk
theorem t_T6 {h r m : Nat} {q0 q1 : Int} {v0 v2 v7 : Option D} (Dk : Deck kd kg S) (hh : h ≤ 5) (h1 : 1 ≤ r) (hr : r ≤ 6) (h2 : 2 ≤ m) (hm : m ≤ 24)
    (hQ : ∀ S' ws, WsOk r h ws → Deck kd kg S' → Q.nx [v0, some (.cell kd), v2, some (.tup [.int q0, .int q1]), some (.int (h : Nat)), some (.int (r : Nat)), some (.int (m : Nat)), some (houseD (List.replicate r storeD) ws)] S') : OkS (bLaw6 [v0, some (.cell kd), v2, some (.tup [.int q0, .int q1]), some (.int (h : Nat)), some (.int (r : Nat)), some (.int (m : Nat)), v7] S) Q := by
  unfold bLaw6
  simp only [o_set, o_call, o_cons, o_nil, o_var, o_c, List.getElem?_cons_succ, List.getElem?_cons_zero]
  refine ⟨_, rfl, _, rfl, _, rfl, _, rfl, _, rfl, ?_⟩
  refine Ok.imp (r_own_house Dk h1 hr hh h2 hm) ?_
  rintro _ S1 ⟨ws, rfl, W, d1⟩
  exact hQ S1 ws W d1.1
theorem t_T7 {h r i : Nat} {q0 q1 : Int} {ws : List (List Stp)} {v0 v4 v5 v6 : Option D} (Dk : Deck kd kg S) (h1 : 1 ≤ h) (h5 : h ≤ 5) (r1 : 1 ≤ r) (r6 : r ≤ 6) (W : WsOk r h ws)
    (hQ : ∀ S' (r h : Nat) ws, 1 ≤ h → h ≤ 5 → 1 ≤ r → r ≤ 6 → WsOk r h ws → Deck kd kg S' → Q.nx [v0, some (.cell kd), some (.int (i : Nat)), some (.tup [.int q0, .int q1]), v4, v5, v6, some (houseD (List.replicate r storeD) ws)] S') : OkS (bLaw7 [v0, some (.cell kd), some (.int (i : Nat)), some (.tup [.int q0, .int q1]), v4, v5, v6, some (houseD (List.replicate r storeD) ws)] S) Q := by
  unfold bLaw7
  simp only [o_ifS, o_and, o_B, o_bin, o_skip]
  simp only [o_call (f := d_law_draw), o_cons, o_nil, o_var, o_c, List.getElem?_cons_succ, List.getElem?_cons_zero]
  refine ⟨_, rfl, ?_⟩
  rw [p_eqI, Ok_ok]
  refine ⟨_, rfl, ?_⟩
  cases decide ((i : Int) = 2) with
  | true =>
    rw [if_pos rfl]
    refine ⟨_, rfl, ?_⟩
    refine dr (n := 2) Dk (by decide) (by decide) ?_
    intro x S1 hx D1 k1
    rw [p_eqI, Ok_ok]
    refine ⟨_, rfl, ?_⟩
    cases decide ((x : Int) = 0) with
    | true =>
      rw [if_pos rfl]
      simp only [o_set, o_bin, o_call, o_cons, o_nil, o_var, o_c, List.getElem?_cons_succ, List.getElem?_cons_zero]
      refine ⟨_, rfl, _, rfl, ?_⟩
      refine dr (n := 3) D1 (by decide) (by decide) ?_
      intro y S2 hy D2 k2
      rw [p_add, Ok_ok]
      have e : (2 : Int) + (y : Int) = ((2 + y : Nat) : Int) := by omega
      rw [e]
      refine ⟨_, rfl, ?_⟩
      refine Ok.imp (r_crossed D2 (hands := 2 + y) (by omega) (by omega)) ?_
      rintro _ S3 ⟨ws', rfl, W', d3⟩
      exact hQ S3 (2 + y + 1) (2 + y) ws' (by omega) (by omega) (by omega) (by omega) W' d3.1
    | false =>
      rw [if_neg (by simp)]
      exact hQ S1 r h ws h1 h5 r1 r6 W D1
  | false =>
    rw [if_neg (by simp), if_neg (by simp)]
    exact hQ S r h ws h1 h5 r1 r6 W Dk
theorem t_T8 {h r : Nat} {ws : List (List Stp)} {v0 v2 v3 v4 v5 v6 : Option D} (Dk : Deck kd kg S) (h1 : 1 ≤ h) (h5 : h ≤ 5) (r1 : 1 ≤ r) (r6 : r ≤ 6) (W : WsOk r h ws)
    (hQ : ∀ S', Deck kd kg S' → Q.nx [v0, some (.cell kd), v2, v3, v4, v5, v6, some (houseD (List.replicate r storeD) ws)] S') : OkS (bLaw8 [v0, some (.cell kd), v2, v3, v4, v5, v6, some (houseD (List.replicate r storeD) ws)] S) Q := by
  unfold bLaw8
  simp only [o_ifS, o_not, o_B, o_bin, o_skip, o_call, o_cons, o_nil, o_var, o_c, List.getElem?_cons_succ, List.getElem?_cons_zero]
  refine ⟨_, rfl, _, rfl, _, rfl, ?_⟩
  have e0 : opIx (houseD (List.replicate r storeD) ws) (.int 0) S = .ok (.tup (List.replicate r storeD)) S := p_ixT0
  have e1 : opIx (houseD (List.replicate r storeD) ws) (.int 1) S = .ok (.tup (ws.map wayD)) S := p_ixT1
  rw [e0, Ok_ok, b_lenT, Ok_ok, List.length_replicate]
  refine ⟨_, rfl, ?_⟩
  rw [e1, Ok_ok]
  refine Ok.imp (r_own_mixed Dk h1 h5 r6 W) ?_
  rintro _ S1 ⟨rs, rfl, hl, hr, d1⟩
  refine Ok.imp (r_is_right d1.1 (hok_of r1 r6 h1 h5 hl hr W)) ?_
  rintro _ S2 ⟨rfl, d2⟩
  refine ⟨_, rfl, ?_⟩
  rw [if_neg (by simp)]
  exact hQ S2 d2.1
theorem law_true (ns : List Int) (h : ns.length ≤ 63) : ∃ S', d_law [.ro (ns.map D.int)] [] = .ok (.bl true) S' := by
  have main : Ok (d_law [.ro (ns.map D.int)] []) fun r _ => r = .bl true := by
    unfold d_law
    obtain ⟨b3, hb3⟩ : ∃ b, b = bLaw3 := ⟨_, rfl⟩
    obtain ⟨b4, hb4⟩ : ∃ b, b = bLaw4 := ⟨_, rfl⟩
    obtain ⟨b5, hb5⟩ : ∃ b, b = bLaw5 := ⟨_, rfl⟩
    obtain ⟨b6, hb6⟩ : ∃ b, b = bLaw6 := ⟨_, rfl⟩
    obtain ⟨b7, hb7⟩ : ∃ b, b = bLaw7 := ⟨_, rfl⟩
    obtain ⟨b8, hb8⟩ : ∃ b, b = bLaw8 := ⟨_, rfl⟩
    have eb := lawT_split
    rw [← hb3, ← hb4, ← hb5, ← hb6, ← hb7, ← hb8] at eb
    rw [o_fn, eb]
    refine ⟨rfl, ?_⟩
    simp only [startD, o_seq, o_set, o_call, o_cons, o_nil, o_var]
    refine ⟨_, rfl, ?_⟩
    refine Ok.imp (r_own_bag (ns := ns)) ?_
    rintro _ S1 ⟨kd, kg, rfl, D1⟩
    refine ok_forR (n := 4) (by decide) (fun i δ S' => (∃ v0 v2 v3 v4 v5 v6 v7, δ = [v0, some (.cell kd), v2, v3, v4, v5, v6, v7]) ∧ Deck kd kg S') ?_ ?_ ?_
    · simp only [o_cons, o_nil, o_c]
      exact ⟨rfl, ⟨_, _, _, _, _, _, _, rfl⟩, D1⟩
    · rintro i δ S2 hi ⟨⟨v0, v2, v3, v4, v5, v6, v7, rfl⟩, D2⟩
      refine ⟨_, set_nm, ?_⟩
      simp only [List.set_cons_succ, List.set_cons_zero, o_seq]
      rw [hb3]
      refine t_T3 D2 ?_
      intro S3 q0 q1 D3
      show OkS (b4 _ _) _
      rw [hb4]
      refine t_T4 hi D3 ?_
      intro S4 hh r h1 h5 r1 r6 D4
      show OkS (b5 _ _) _
      rw [hb5]
      refine t_T5 D4 ?_
      intro S5 m m2 m24 D5
      show OkS (b6 _ _) _
      rw [hb6]
      refine t_T6 D5 h5 r1 r6 m2 m24 ?_
      intro S6 ws W D6
      show OkS (b7 _ _) _
      rw [hb7]
      refine t_T7 D6 h1 h5 r1 r6 W ?_
      intro S7 r' h' ws' h1' h5' r1' r6' W' D7
      show OkS (b8 _ _) _
      rw [hb8]
      refine t_T8 D7 h1' h5' r1' r6' W' ?_
      intro S8 D8
      exact ⟨⟨_, _, _, _, _, _, _, rfl⟩, D8⟩
    · rintro δ S2 ⟨_, D2⟩
      simp
  obtain ⟨r, S', e, rfl⟩ := main.ex
  exact ⟨S', e⟩
end
end Dn
set_option Elab.async false
set_option linter.all false
set_option maxRecDepth 100000
set_option maxHeartbeats 0
open PySem PySem.W PySem.Calls PyProof.Rows
theorem PySem.Challenge.cw_manylocks_k92_whole_numbers_or_a_round_holds : PySem.Challenge.rw_manylocks_k92_whole_numbers_or_a_round.Holds := by
  w_on; o_law
  refine HandSHeadRun.head_any (r := OpenLaw.row PySem.Challenge.rw_manylocks_k92_whole_numbers_or_a_round) (q := view (OpenLaw.row PySem.Challenge.rw_manylocks_k92_whole_numbers_or_a_round).prog [40]) (H := Dn.hk) (ob := Dn.ob) (M := 4000) (loose := Dn.looseL) (d := HandSHeadRun.topDef (OpenLaw.row PySem.Challenge.rw_manylocks_k92_whole_numbers_or_a_round).prog 40) (kwd := []) Dn.ob_eq
    (by kernel_rfl) (fun s => by kernel_rfl) Dn.run (by kernel_rfl) (by kernel_rfl) (by kernel_rfl) (by rfl) (by first | assumption | decide +kernel) (by decide +kernel) ⟨rfl, rfl, rfl, rfl, rfl, by decide +kernel⟩ ?hw ?hc
  case hw => w_witness2
  case hc =>
    refine Dn.walkGE (l := PySem.Challenge.rw_manylocks_k92_whole_numbers_or_a_round) (n := 63) (k := 7) (x := "script") (g := Dn.d_law) rfl (by decide) (by kernel_rfl) ⟨rfl, by decide, by decide⟩ (by kernel_rfl) ?F Dn.law_true
    intro w mg fa h Y G hmg0
    obtain ⟨K, KX, nt, c⟩ := Y
    have hmg : mg ("law" : PySem.Str) = some (.ref fa) := by
      have e : (HandSHeadRun.topDef (OpenLaw.row PySem.Challenge.rw_manylocks_k92_whole_numbers_or_a_round).prog 40).name = ("law" : PySem.Str) := by kernel_rfl
      rw [← e]
      exact hmg0
    obtain ⟨fd, cl, hb, hF⟩ := Dn.facts (P := (PySem.Challenge.rw_manylocks_k92_whole_numbers_or_a_round).prog) (w := w) KX G hmg c
    exact ⟨K, fd, cl, KX, nt, hb, hF⟩
#print axioms PySem.Challenge.cw_manylocks_k92_whole_numbers_or_a_round_holds
