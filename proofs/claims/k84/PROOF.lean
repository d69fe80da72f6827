import PyProof.Rows.All
import Wide.All
import OpenK.AllK
import Wide.FinOn
import HandS.ForMost
import HandS.Exc
import HandS.TryOnly
import HandS.ExcOwn
import HandS.WordsExc
import HandS.Walk
import HandS.TupAny
import HandS.TupMul
import HandS.IsInst
import HandS.Deep
import HandS.Style
import KE.GoesEnum
import HandS.Small
import PyProof.ReprLen
import HandS.Conv
import HandS.Strs
import HandS.Head0
import HandS.Head1
import HandS.Head2
import HandS.HeadHook1
import PySem.Challenge.RW_manylocks_k84_ranks_for_rooms_and_breach
set_option Elab.async false
set_option linter.all false
set_option maxRecDepth 100000
/-! Dn0: values, the store of lists and dicts, results; what stands for what. -/
namespace Dn
open PySem L2

inductive D where
  | non | bl (b : Bool) | int (i : Int) | str (x : Str) | tup (xs : List D) | ro (xs : List D) | cell (n : Nat)
inductive C where
  | lst (xs : List D) | dic (kvs : List (Key × D))
abbrev Sto := List C
abbrev En := List (Option D)
inductive Res (α : Type) where
  | ok (a : α) (S : Sto) | exc (c : Str) (S : Sto) | bad
def Res.bnd {α β : Type} (r : Res α) (f : α → Sto → Res β) : Res β := match r with
  | .ok a S => f a S
  | .exc c S => .exc c S
  | .bad => .bad
@[simp] theorem bnd_ok {α β : Type} (a : α) (S : Sto) (f : α → Sto → Res β) : (Res.ok a S).bnd f = f a S := rfl
@[simp] theorem bnd_exc {α β : Type} (c : Str) (S : Sto) (f : α → Sto → Res β) : (Res.exc c S).bnd f = .exc c S := rfl
@[simp] theorem bnd_bad {α β : Type} (f : α → Sto → Res β) : (Res.bad : Res α).bnd f = .bad := rfl
abbrev DE := En → Sto → Res D
abbrev DT := En → Sto → Res Bool
abbrev DA := En → Sto → Res (List D)
abbrev DO := En → Sto → Res (Option Int)
/-- how a statement ends -/
inductive Out where
  | nx (δ : En) (S : Sto) | rt (d : D) (S : Sto) | bk (δ : En) (S : Sto) | ct (δ : En) (S : Sto) | exc (c : Str) (S : Sto) | bad
abbrev DS := En → Sto → Out
abbrev DF := List D → Sto → Res D

/-! ### what stands for what -/
mutual
inductive Dv (K : PySem.W.Frag) (ρ : List Addr) (H : Hp) : V → D → Prop
  | non : Dv K ρ H .non .non
  | bl (b : Bool) : Dv K ρ H (.bl b) (.bl b)
  | int (i : Int) : Dv K ρ H (.int i) (.int i)
  | str (x : Str) : Dv K ρ H (.str x) (.str x)
  | tup {a : Addr} {xs : List V} {ds : List D} : SqT K H a xs → DvAll K ρ H xs ds → Dv K ρ H (.ref a) (.tup ds)
  | ro {a : Addr} {xs : List V} {ds : List D} : SqL K H a xs → ((∃ o, H a = some (.frz o (.lst xs))) ∨ ∀ H', SqL K H' a xs) → DvAll K ρ H xs ds → Dv K ρ H (.ref a) (.ro ds)
  | cell {a : Addr} {n : Nat} : ρ[n]? = some a → Dv K ρ H (.ref a) (.cell n)
inductive DvAll (K : PySem.W.Frag) (ρ : List Addr) (H : Hp) : List V → List D → Prop
  | nil : DvAll K ρ H [] []
  | cons {v : V} {vs : List V} {d : D} {ds : List D} : Dv K ρ H v d → DvAll K ρ H vs ds → DvAll K ρ H (v :: vs) (d :: ds)
end
inductive DvKs (K : PySem.W.Frag) (ρ : List Addr) (H : Hp) : List (Key × V) → List (Key × D) → Prop
  | nil : DvKs K ρ H [] []
  | cons {k : Key} {v : V} {vs : List (Key × V)} {d : D} {ds : List (Key × D)} : Dv K ρ H v d → DvKs K ρ H vs ds → DvKs K ρ H ((k, v) :: vs) ((k, d) :: ds)
def CellR (K : PySem.W.Frag) (ρ : List Addr) (H : Hp) (a : Addr) : C → Prop
  | .lst ds => ∃ xs, H a = some (.lst xs) ∧ DvAll K ρ H xs ds
  | .dic kvs => ∃ kws, H a = some (.dK kws) ∧ DvKs K ρ H kws kvs
structure Rep (K : PySem.W.Frag) (ρ : List Addr) (H : Hp) (S : Sto) : Prop where
  len : ρ.length = S.length
  inj : ∀ (i j : Nat) (a : Addr), ρ[i]? = some a → ρ[j]? = some a → i = j
  «at» : ∀ (n : Nat) (a : Addr) (c : C), ρ[n]? = some a → S[n]? = some c → CellR K ρ H a c
/-- what comes later -/
structure Ext (ρ : List Addr) (H : Hp) (ρ' : List Addr) (H' : Hp) : Prop where
  pre : ∀ (n : Nat) (a : Addr), ρ[n]? = some a → ρ'[n]? = some a
  tup : ∀ a xs, H a = some (.tup xs) → H' a = some (.tup xs)
  frz : ∀ a o u, H a = some (.frz o u) → H' a = some (.frz o u)
theorem Ext.refl (ρ : List Addr) (H : Hp) : Ext ρ H ρ H := ⟨fun _ _ h => h, fun _ _ h => h, fun _ _ _ h => h⟩
theorem Ext.trans {ρ ρ1 ρ2 : List Addr} {H H1 H2 : Hp} (a : Ext ρ H ρ1 H1) (b : Ext ρ1 H1 ρ2 H2) : Ext ρ H ρ2 H2 :=
  ⟨fun n x h => b.pre n x (a.pre n x h), fun x xs h => b.tup x xs (a.tup x xs h), fun x o u h => b.frz x o u (a.frz x o u h)⟩
theorem Ext.sqT {K : PySem.W.Frag} {ρ ρ' : List Addr} {H H' : Hp} {a : Addr} {xs : List V} (e : Ext ρ H ρ' H') (h : SqT K H a xs) : SqT K H' a xs := by
  rcases h with (h | ⟨o, h⟩) | h
  · exact .inl (.inl (e.tup _ _ h))
  · exact .inl (.inr ⟨o, e.frz _ _ _ h⟩)
  · exact .inr h
/-- a new object -/
theorem Ext.new {ρ : List Addr} {H : Hp} {p : Addr} {o : HO} (h : H p = none) : Ext ρ H ρ (upd H p o) :=
  ⟨fun _ _ h => h, fun a xs e => by rw [upd_ne (ne_of_none e h)]; exact e, fun a o u e => by rw [upd_ne (ne_of_none e h)]; exact e⟩
theorem Ext.newC {ρ : List Addr} {H : Hp} {p : Addr} {o : HO} (h : H p = none) : Ext ρ H (ρ ++ [p]) (upd H p o) :=
  ⟨fun n a e => by
    rw [List.getElem?_append_left (List.getElem?_eq_some_iff.mp e).1]
    exact e, (Ext.new (ρ := ρ) h).tup, (Ext.new (ρ := ρ) h).frz⟩
/-- a mutable object is changed -/
theorem Ext.write {ρ : List Addr} {H : Hp} {p : Addr} {o : HO} (hm : (∃ xs, H p = some (.lst xs)) ∨ ∃ kvs, H p = some (.dK kvs)) : Ext ρ H ρ (upd H p o) := by
  have ne : ∀ a u, H a = some u → (∀ xs, u ≠ .lst xs) → (∀ kvs, u ≠ .dK kvs) → a ≠ p := fun a u e h1 h2 z => by
    subst z
    rcases hm with ⟨xs, q⟩ | ⟨kvs, q⟩
    · rw [e] at q
      exact h1 xs (Option.some.inj q)
    · rw [e] at q
      exact h2 kvs (Option.some.inj q)
  refine ⟨fun _ _ h => h, fun a xs e => ?_, fun a o u e => ?_⟩
  · rw [upd_ne (ne a _ e (fun _ z => by cases z) fun _ z => by cases z)]
    exact e
  · rw [upd_ne (ne a _ e (fun _ z => by cases z) fun _ z => by cases z)]
    exact e
section
variable {K : PySem.W.Frag} {ρ ρ' : List Addr} {H H' : Hp}
mutual
theorem Dv.mono (e : Ext ρ H ρ' H') : ∀ {d : D} {v : V}, Dv K ρ H v d → Dv K ρ' H' v d
  | .non, _, h => by cases h; exact .non
  | .bl b, _, h => by cases h; exact .bl b
  | .int b, _, h => by cases h; exact .int b
  | .str b, _, h => by cases h; exact .str b
  | .cell n, _, h => by cases h with | cell q => exact .cell (e.pre _ _ q)
  | .tup ds, _, h => by cases h with | tup q r => exact .tup (e.sqT q) (DvAll.mono e r)
  | .ro ds, _, h => by
    cases h with
    | ro q f r =>
      refine .ro ?_ ?_ (DvAll.mono e r)
      · rcases f with ⟨o, f⟩ | f
        · exact .inl (.inr ⟨o, e.frz _ _ _ f⟩)
        · exact f H'
      · rcases f with ⟨o, f⟩ | f
        · exact .inl ⟨o, e.frz _ _ _ f⟩
        · exact .inr f
theorem DvAll.mono (e : Ext ρ H ρ' H') : ∀ {ds : List D} {vs : List V}, DvAll K ρ H vs ds → DvAll K ρ' H' vs ds
  | [], _, h => by cases h; exact .nil
  | d :: ds, _, h => by cases h with | cons a b => exact .cons (Dv.mono e a) (DvAll.mono e b)
end
theorem DvKs.mono (e : Ext ρ H ρ' H') : ∀ {ds : List (Key × D)} {vs : List (Key × V)}, DvKs K ρ H vs ds → DvKs K ρ' H' vs ds
  | [], _, h => by cases h; exact .nil
  | d :: ds, _, h => by cases h with | cons a b => exact .cons (a.mono e) (DvKs.mono e b)
theorem DvAll.length : ∀ {vs : List V} {ds : List D}, DvAll K ρ H vs ds → vs.length = ds.length
  | _, _, .nil => rfl
  | _, _, .cons _ t => congrArg Nat.succ (DvAll.length t)
theorem DvAll.get : ∀ {vs : List V} {ds : List D} {i : Nat} {d : D}, DvAll K ρ H vs ds → ds[i]? = some d → ∃ v, vs[i]? = some v ∧ Dv K ρ H v d
  | _, _, _, _, .nil, e => by simp at e
  | _, _, 0, _, .cons r _, e => by simp at e; subst e; exact ⟨_, rfl, r⟩
  | _, _, i + 1, d, .cons _ t, e => by
    obtain ⟨u, h1, h2⟩ := DvAll.get (i := i) (d := d) t (by simpa using e)
    exact ⟨u, by simpa using h1, h2⟩
theorem DvAll.getV : ∀ {vs : List V} {ds : List D} {i : Nat} {v : V}, DvAll K ρ H vs ds → vs[i]? = some v → ∃ d, ds[i]? = some d ∧ Dv K ρ H v d
  | _, _, _, _, .nil, e => by simp at e
  | _, _, 0, _, .cons r _, e => by simp at e; subst e; exact ⟨_, rfl, r⟩
  | _, _, i + 1, d, .cons _ t, e => by
    obtain ⟨u, h1, h2⟩ := DvAll.getV (i := i) (v := d) t (by simpa using e)
    exact ⟨u, by simpa using h1, h2⟩
theorem DvAll.append : ∀ {vs ws : List V} {ds es : List D}, DvAll K ρ H vs ds → DvAll K ρ H ws es → DvAll K ρ H (vs ++ ws) (ds ++ es)
  | _, _, _, _, .nil, s => s
  | _, _, _, _, .cons r t, s => .cons r (DvAll.append t s)
theorem DvAll.take : ∀ {vs : List V} {ds : List D} (n : Nat), DvAll K ρ H vs ds → DvAll K ρ H (vs.take n) (ds.take n)
  | _, _, 0, _ => .nil
  | _, _, _ + 1, .nil => .nil
  | _, _, n + 1, .cons r t => .cons r (DvAll.take n t)
theorem DvAll.drop : ∀ {vs : List V} {ds : List D} (n : Nat), DvAll K ρ H vs ds → DvAll K ρ H (vs.drop n) (ds.drop n)
  | _, _, 0, r => r
  | _, _, _ + 1, .nil => .nil
  | _, _, n + 1, .cons _ t => DvAll.drop n t
theorem DvAll.set {v : V} {d : D} (r : Dv K ρ H v d) : ∀ {vs : List V} {ds : List D} (i : Nat), DvAll K ρ H vs ds → DvAll K ρ H (vs.set i v) (ds.set i d)
  | _, _, _, .nil => .nil
  | _, _, 0, .cons _ t => .cons r t
  | _, _, i + 1, .cons q t => .cons q (DvAll.set r i t)
theorem DvAll.eraseIdx : ∀ {vs : List V} {ds : List D} (i : Nat), DvAll K ρ H vs ds → DvAll K ρ H (vs.eraseIdx i) (ds.eraseIdx i)
  | _, _, _, .nil => .nil
  | _, _, 0, .cons _ t => t
  | _, _, i + 1, .cons q t => .cons q (DvAll.eraseIdx i t)
theorem DvAll.dropLast {vs : List V} {ds : List D} (h : DvAll K ρ H vs ds) : DvAll K ρ H vs.dropLast ds.dropLast := by
  rw [List.dropLast_eq_take, List.dropLast_eq_take, h.length]
  exact h.take _
theorem DvAll.rep {vs : List V} {ds : List D} (h : DvAll K ρ H vs ds) : ∀ k : Nat, DvAll K ρ H (List.replicate k vs).flatten (List.replicate k ds).flatten
  | 0 => .nil
  | k + 1 => by
    rw [List.replicate_succ, List.replicate_succ, List.flatten_cons, List.flatten_cons]
    exact h.append (DvAll.rep h k)
theorem DvAll.nil_iff {vs : List V} {ds : List D} (h : DvAll K ρ H vs ds) : vs = [] ↔ ds = [] := by
  cases h with
  | nil => exact ⟨fun _ => rfl, fun _ => rfl⟩
  | cons a b => exact ⟨fun z => (by cases z), fun z => (by cases z)⟩
theorem CellR.mono (e : Ext ρ H ρ' H') {a : Addr} {c : C} (h : CellR K ρ H a c) (ha : H' a = H a) : CellR K ρ' H' a c := by
  cases c with
  | lst ds =>
    obtain ⟨xs, h1, h2⟩ := h
    exact ⟨xs, ha.trans h1, h2.mono e⟩
  | dic kvs =>
    obtain ⟨xs, h1, h2⟩ := h
    exact ⟨xs, ha.trans h1, h2.mono e⟩
theorem CellR.mut {a : Addr} {c : C} (h : CellR K ρ H a c) : (∃ xs, H a = some (.lst xs)) ∨ ∃ kvs, H a = some (.dK kvs) := by
  cases c with
  | lst ds =>
    obtain ⟨xs, h1, h2⟩ := h
    exact .inl ⟨xs, h1⟩
  | dic kvs =>
    obtain ⟨xs, h1, h2⟩ := h
    exact .inr ⟨xs, h1⟩
theorem CellR.some {a : Addr} {c : C} (h : CellR K ρ H a c) : ∃ o, H a = some o := by
  rcases h.mut with ⟨x, h⟩ | ⟨x, h⟩
  · exact ⟨_, h⟩
  · exact ⟨_, h⟩
end
section
variable {K : PySem.W.Frag} {ρ : List Addr} {H : Hp} {S : Sto}
theorem Rep.cell (R : Rep K ρ H S) {n : Nat} {a : Addr} (h : ρ[n]? = some a) : ∃ c, S[n]? = some c ∧ CellR K ρ H a c := by
  have hn : n < S.length := by
    rw [← R.len]
    exact (List.getElem?_eq_some_iff.mp h).1
  exact ⟨S[n], List.getElem?_eq_getElem hn, R.at n a _ h (List.getElem?_eq_getElem hn)⟩
theorem Rep.tracked (R : Rep K ρ H S) {n : Nat} {a : Addr} (h : ρ[n]? = some a) : ∃ o, H a = some o := by
  obtain ⟨c, _, q⟩ := R.cell h
  exact q.some
theorem Rep.lst (R : Rep K ρ H S) {n : Nat} {a : Addr} {ds : List D} (h : ρ[n]? = some a) (hs : S[n]? = some (.lst ds)) : ∃ xs, H a = some (.lst xs) ∧ DvAll K ρ H xs ds := R.at n a _ h hs
/-- a new tuple (or whatever is no cell) -/
theorem Rep.new (R : Rep K ρ H S) {p : Addr} {o : HO} (h : H p = none) : Rep K ρ (upd H p o) S := by
  refine ⟨R.len, R.inj, fun n a c h1 h2 => ?_⟩
  obtain ⟨u, hu⟩ := R.tracked h1
  exact (R.at n a c h1 h2).mono (Ext.new h) (upd_ne (ne_of_none hu h))
/-- a new cell -/
theorem Rep.newC (R : Rep K ρ H S) {p : Addr} {o : HO} {c : C} (h : H p = none) (hc : CellR K (ρ ++ [p]) (upd H p o) p c) : Rep K (ρ ++ [p]) (upd H p o) (S ++ [c]) := by
  have old : ∀ (n : Nat) (a : Addr), (ρ ++ [p])[n]? = some a → (ρ[n]? = some a ∧ n < ρ.length) ∨ (n = ρ.length ∧ a = p) := fun n a e => by
    by_cases hn : n < ρ.length
    · rw [List.getElem?_append_left hn] at e
      exact .inl ⟨e, hn⟩
    · rw [List.getElem?_append_right (Nat.le_of_not_lt hn)] at e
      have := (List.getElem?_eq_some_iff.mp e).1
      have hz : n - ρ.length = 0 := by
        simp at this
        omega
      rw [hz] at e
      exact .inr ⟨by omega, (Option.some.inj e).symm⟩
  refine ⟨by rw [List.length_append, List.length_append, R.len]; rfl, fun i j a h1 h2 => ?_, fun n a c' h1 h2 => ?_⟩
  · rcases old i a h1 with ⟨q1, _⟩ | ⟨q1, q2⟩
    · rcases old j a h2 with ⟨r1, _⟩ | ⟨r1, r2⟩
      · exact R.inj i j a q1 r1
      · obtain ⟨u, hu⟩ := R.tracked q1
        rw [r2, h] at hu
        cases hu
    · rcases old j a h2 with ⟨r1, _⟩ | ⟨r1, r2⟩
      · obtain ⟨u, hu⟩ := R.tracked r1
        rw [q2, h] at hu
        cases hu
      · omega
  · rcases old n a h1 with ⟨q1, q2⟩ | ⟨q1, q2⟩
    · rw [List.getElem?_append_left (by rw [← R.len]; exact q2)] at h2
      obtain ⟨u, hu⟩ := R.tracked q1
      exact (R.at n a c' q1 h2).mono (Ext.newC h) (upd_ne (ne_of_none hu h))
    · rw [q1, R.len, List.getElem?_append_right (Nat.le_refl _), Nat.sub_self] at h2
      have e : c = c' := Option.some.inj h2
      rw [← e, q2]
      exact hc
/-- a cell is changed -/
theorem Rep.write (R : Rep K ρ H S) {n : Nat} {a : Addr} {o : HO} {c : C} (hn : ρ[n]? = some a) (hc : CellR K ρ (upd H a o) a c) : Rep K ρ (upd H a o) (S.set n c) := by
  obtain ⟨c0, h0, q0⟩ := R.cell hn
  have e : Ext ρ H ρ (upd H a o) := Ext.write q0.mut
  refine ⟨by rw [List.length_set]; exact R.len, R.inj, fun i b c' h1 h2 => ?_⟩
  by_cases hi : n = i
  · subst hi
    rw [List.getElem?_set_self (List.getElem?_eq_some_iff.mp h0).1] at h2
    rw [hn] at h1
    cases h1
    cases h2
    exact hc
  · rw [List.getElem?_set_ne hi] at h2
    have hb : b ≠ a := fun z => hi (R.inj n i a hn (z ▸ h1))
    exact (R.at i b c' h1 h2).mono e (upd_ne hb)
theorem Rep.ext_write (R : Rep K ρ H S) {n : Nat} {a : Addr} {o : HO} (hn : ρ[n]? = some a) : Ext ρ H ρ (upd H a o) := by
  obtain ⟨c0, h0, q0⟩ := R.cell hn
  exact Ext.write q0.mut
end

/-! ### the names' values -/
structure EnvR (K : PySem.W.Frag) (ρ : List Addr) (H : Hp) (σ : L2.St) (δ : En) : Prop where
  len : δ.length = σ.length
  «at» : ∀ (i : Nat) (d : D), δ[i]? = some (some d) → ∃ v, σ[i]? = some (some v) ∧ Dv K ρ H v d
theorem EnvR.mono {K : PySem.W.Frag} {ρ ρ' : List Addr} {H H' : Hp} {σ : L2.St} {δ : En} (e : Ext ρ H ρ' H') (h : EnvR K ρ H σ δ) : EnvR K ρ' H' σ δ :=
  ⟨h.len, fun i d q => let ⟨v, a, b⟩ := h.at i d q; ⟨v, a, b.mono e⟩⟩
theorem EnvR.set {K : PySem.W.Frag} {ρ : List Addr} {H : Hp} {σ : L2.St} {δ : En} (h : EnvR K ρ H σ δ) (i : Nat) {v : V} {d : D} (r : Dv K ρ H v d) : EnvR K ρ H (σ.set i (some v)) (δ.set i (some d)) := by
  refine ⟨by rw [List.length_set, List.length_set]; exact h.len, fun j e q => ?_⟩
  by_cases hj : i = j
  · subst hj
    have hl : i < δ.length := by
      have := (List.getElem?_eq_some_iff.mp q).1
      rw [List.length_set] at this
      exact this
    rw [List.getElem?_set_self hl] at q
    cases q
    exact ⟨v, List.getElem?_set_self (by rw [← h.len]; exact hl), r⟩
  · rw [List.getElem?_set_ne hj] at q
    rw [List.getElem?_set_ne hj]
    exact h.at j e q
def wipeD (δ : En) : List Nat → En
  | [] => δ
  | v :: vs => (wipeD δ vs).set v none
theorem EnvR.wipe {K : PySem.W.Frag} {ρ : List Addr} {H : Hp} {σ : L2.St} {δ : En} (h : EnvR K ρ H σ δ) : ∀ vs : List Nat, EnvR K ρ H (L2.wipe σ vs) (wipeD δ vs)
  | [] => h
  | v :: vs => by
    have ih := EnvR.wipe h vs
    refine ⟨by show (List.set _ _ _).length = (List.set _ _ _).length; rw [List.length_set, List.length_set]; exact ih.len, fun j e q => ?_⟩
    have q' : ((wipeD δ vs).set v none)[j]? = some (some e) := q
    show ∃ w, ((L2.wipe σ vs).set v none)[j]? = some (some w) ∧ _
    by_cases hj : v = j
    · subst hj
      rw [List.getElem?_set, if_pos rfl] at q'
      split at q' <;> cases q'
    · rw [List.getElem?_set_ne hj] at q'
      rw [List.getElem?_set_ne hj]
      exact ih.at j e q'
end Dn
set_option Elab.async false
set_option linter.all false
set_option maxRecDepth 100000
set_option maxHeartbeats 1000000
/-! Dn1: what a result asks; expressions. -/
noncomputable section
namespace Dn
open PySem PySem.Spec PyProof.Rows L2

/-! ### what a result asks of what comes -/
structure Wt where
  K : PySem.W.Frag
  cl : Str → Value
  E : XK
section
variable {α β γ β' : Type}
def Post (W : Wt) (Rl : List Addr → Hp → β → α → Prop) (ρ : List Addr) (H : Hp) (r : Res α) (Q : β → Hp → Prop) : Prop := match r with
  | .ok d S' => ∀ ρ' H' v, Ext ρ H ρ' H' → Rep W.K ρ' H' S' → Rl ρ' H' v d → Q v H'
  | .exc c S' => ∀ ρ' H', Ext ρ H ρ' H' → Rep W.K ρ' H' S' → W.E (W.cl c) none H'
  | .bad => False
def rlB : List Addr → Hp → Bool → Bool → Prop := fun _ _ v d => v = d
def rlO : List Addr → Hp → Option Int → Option Int → Prop := fun _ _ v d => v = d
variable {W : Wt} {Rl : List Addr → Hp → β → α → Prop} {Rl' : List Addr → Hp → β' → γ → Prop} {ρ ρ' : List Addr} {H H' : Hp}
theorem Post.base {r : Res α} {Q : β → Hp → Prop} (e : Ext ρ H ρ' H') (h : Post W Rl ρ H r Q) : Post W Rl ρ' H' r Q := by
  cases r with
  | ok d S => exact fun ρ2 H2 v e2 R d => h ρ2 H2 v (e.trans e2) R d
  | exc c S => exact fun ρ2 H2 e2 R => h ρ2 H2 (e.trans e2) R
  | bad => exact h
theorem Post.imp {r : Res α} {Q Q' : β → Hp → Prop} (h : Post W Rl ρ H r Q) (q : ∀ v H', Q v H' → Q' v H') : Post W Rl ρ H r Q' := by
  cases r with
  | ok d S => exact fun ρ2 H2 v e2 R d => q _ _ (h ρ2 H2 v e2 R d)
  | exc c S => exact h
  | bad => exact h
/-- what stands between two steps -/
def Mid (W : Wt) (Rl : List Addr → Hp → β → α → Prop) (ρ : List Addr) (H : Hp) (v : β) (H1 : Hp) (k : List Addr → Sto → α → Prop) : Prop :=
  ∃ ρ1 S1 d, Ext ρ H ρ1 H1 ∧ Rep W.K ρ1 H1 S1 ∧ Rl ρ1 H1 v d ∧ k ρ1 S1 d
theorem Post.bnd {r : Res α} {f : α → Sto → Res γ} {Q : β' → Hp → Prop} (h : Post W Rl' ρ H (r.bnd f) Q) : Post W Rl ρ H r (fun v H1 => Mid W Rl ρ H v H1 fun ρ1 S1 d => Post W Rl' ρ1 H1 (f d S1) Q) := by
  cases r with
  | ok d S => exact fun ρ2 H2 v e2 R dv => ⟨ρ2, S, d, e2, R, dv, Post.base e2 h⟩
  | exc c S => exact h
  | bad => exact h
end
/-- the reading of a denotation -/
def tG {α β : Type} (W : Wt) (Rl : List Addr → Hp → β → α → Prop) (de : En → Sto → Res α) : L2.St → Hp → (β → Hp → Prop) → Prop :=
  fun σ H Q => ∃ ρ δ S, Rep W.K ρ H S ∧ EnvR W.K ρ H σ δ ∧ Post W Rl ρ H (de δ S) Q
abbrev tE (W : Wt) (de : DE) : TE := tG W (Dv W.K) de
abbrev tT (W : Wt) (de : DT) : TT := tG W rlB de
abbrev tAs (W : Wt) (de : DA) : TA := tG W (DvAll W.K) de
abbrev tOp' (W : Wt) (de : DO) : TO := tG W rlO de
abbrev SE (X : Cx) (W : Wt) (e : Expr) (de : DE) : Prop := PE X e (tE W de)
abbrev ST (X : Cx) (W : Wt) (e : Expr) (de : DT) : Prop := PT X e (tT W de)
abbrev SA (X : Cx) (W : Wt) (es : List Expr) (de : DA) : Prop := PA X es (tAs W de)
theorem pe_imp {X : Cx} {e : Expr} {t t' : TE} (h : PE X e t) (i : ∀ σ H Q, t' σ H Q → t σ H Q) : PE X e t' := ⟨fun pins s σ H Q I q => h.run pins s σ H Q I (i σ H Q q)⟩
theorem pt_imp {X : Cx} {e : Expr} {t t' : TT} (h : PT X e t) (i : ∀ σ H Q, t' σ H Q → t σ H Q) : PT X e t' := ⟨fun pins s σ H Q I q => h.run pins s σ H Q I (i σ H Q q)⟩
theorem pw_imp {X : Cx} {e : Expr} {t t' : TT} (h : PW X e t) (i : ∀ σ H Q, t' σ H Q → t σ H Q) : PW X e t' := ⟨fun wh pins s σ H Q I q => h.run wh pins s σ H Q I (i σ H Q q)⟩
theorem pa_imp {X : Cx} {e : List Expr} {t t' : TA} (h : PA X e t) (i : ∀ σ H Q, t' σ H Q → t σ H Q) : PA X e t' := ⟨fun pos pins s σ H Q I q => h.run pos pins s σ H Q I (i σ H Q q)⟩
theorem po_imp {X : Cx} {e : Option Expr} {t t' : TO} (h : PO X e t) (i : ∀ σ H Q, t' σ H Q → t σ H Q) : PO X e t' := ⟨fun pins s σ H Q I q => h.run pins s σ H Q I (i σ H Q q)⟩
/-- from a reading to its first part -/
theorem tG.step {α β γ β' : Type} {W : Wt} {Rl : List Addr → Hp → β → α → Prop} {Rl' : List Addr → Hp → β' → γ → Prop} {da : En → Sto → Res α} {f : En → α → Sto → Res γ} {σ : L2.St} {H : Hp} {Q : β' → Hp → Prop} {Q' : β → Hp → Prop}
    (h : tG W Rl' (fun δ S => (da δ S).bnd (f δ)) σ H Q)
    (k : ∀ ρ δ ρ1 S1 H1 v d, EnvR W.K ρ1 H1 σ δ → Ext ρ H ρ1 H1 → Rep W.K ρ1 H1 S1 → Rl ρ1 H1 v d → Post W Rl' ρ1 H1 (f δ d S1) Q → Q' v H1) : tG W Rl da σ H Q' := by
  obtain ⟨ρ, δ, S, R, N, P⟩ := h
  exact ⟨ρ, δ, S, R, N, (Post.bnd P).imp fun v H1 ⟨ρ1, S1, d, e, R1, dv, P1⟩ => k ρ δ ρ1 S1 H1 v d (N.mono e) e R1 dv P1⟩
theorem Post.now {α β : Type} {W : Wt} {Rl : List Addr → Hp → β → α → Prop} {ρ : List Addr} {H : Hp} {d : α} {S : Sto} {Q : β → Hp → Prop} (h : Post W Rl ρ H (.ok d S) Q) {v : β} (R : Rep W.K ρ H S) (r : Rl ρ H v d) : Q v H := h ρ H v (Ext.refl ρ H) R r

/-! ### denotations of names and constants -/
def dVar (i : Nat) : DE := fun δ S => match δ[i]? with
  | some (some d) => .ok d S
  | _ => .bad
def dC (d : D) : DE := fun _ S => .ok d S
section
variable {X : Cx} {W : Wt}
theorem se_var (i : Nat) {x : Str} {pos : Pos} (hN : X.N[i]? = some x := by rfl) (hv : Vis X.env.scope x := by first | exact Or.inl rfl | exact Or.inr (Or.inl rfl) | exact Or.inr (Or.inr rfl)) (hd : (x == ("__debug__" : Str)) = false := by decide)
    (hcd : (x == ("__classdict__" : Str)) = false := by decide) : SE X W (.Name x pos) (dVar i) := by
  refine pe_imp (pe_var hN hv hd hcd) fun σ H Q ⟨ρ, δ, S, R, N, P⟩ => ?_
  unfold dVar at P
  cases e : δ[i]? with
  | none => rw [e] at P; exact P.elim
  | some o =>
    cases o with
    | none => rw [e] at P; exact P.elim
    | some d =>
      rw [e] at P
      obtain ⟨v, h1, h2⟩ := N.at i d e
      exact ⟨v, h1, P.now R h2⟩
theorem se_c {e : Expr} {v : V} {d : D} (h : PE X e (tC v)) (r : ∀ ρ H, Dv W.K ρ H v d) : SE X W e (dC d) :=
  pe_imp h fun σ H Q ⟨ρ, δ, S, R, N, P⟩ => P.now R (r ρ H)
theorem se_int {i j pos} : SE X W (.Constant (.int i) j pos) (dC (.int i)) := se_c pe_int fun _ _ => .int i
theorem se_bl {b j pos} : SE X W (.Constant (.bool b) j pos) (dC (.bl b)) := se_c pe_bl fun _ _ => .bl b
theorem se_non {j pos} : SE X W (.Constant .none j pos) (dC .non) := se_c pe_non fun _ _ => .non
theorem se_str {x j pos} : SE X W (.Constant (.str x) j pos) (dC (.str x)) := se_c pe_str fun _ _ => .str x
end

/-! ### two-place operators -/
def dBin (op : D → D → Sto → Res D) (a b : DE) : DE := fun δ S => (a δ S).bnd fun x S1 => (b δ S1).bnd fun y S2 => op x y S2
def rD2 (W : Wt) (op : D → D → Sto → Res D) : R2 := fun x y H Q => ∃ ρ S d e, Rep W.K ρ H S ∧ Dv W.K ρ H x d ∧ Dv W.K ρ H y e ∧ Post W (Dv W.K) ρ H (op d e S) Q
theorem tOp_of {W : Wt} {op : D → D → Sto → Res D} {da db : DE} {σ : L2.St} {H : Hp} {Q : VK} (h : tE W (dBin op da db) σ H Q) : L2.tOp (rD2 W op) (tE W da) (tE W db) σ H Q :=
  tG.step h fun ρ δ ρ1 S1 H1 v d N e R r P => ⟨ρ1, δ, S1, R, N, (Post.bnd P).imp fun y H2 ⟨ρ2, S2, d2, e2, R2, r2, P2⟩ => ⟨ρ2, S2, d, d2, R2, r.mono e2, r2, P2⟩⟩
abbrev OpD (X : Cx) (W : Wt) (f : Value → Value → Sem Value) (op : D → D → Sto → Res D) : Prop := OpR X f (rD2 W op)
section
variable {X : Cx} {W : Wt} {a b : Expr} {da db : DE} {pos : Pos}
theorem OpR.imp {f : Value → Value → Sem Value} {r r' : R2} (h : OpR X f r) (i : ∀ x y H Q, r' x y H Q → r x y H Q) : OpR X f r' := fun pins s σ H x y v u Q I rx ry q => h pins s σ H x y v u Q I rx ry (i _ _ _ _ q)
theorem OpR.or {f : Value → Value → Sem Value} {r r' : R2} (h : OpR X f r) (h' : OpR X f r') : OpR X f (fun x y H Q => r x y H Q ∨ r' x y H Q) := fun pins s σ H x y v u Q I rx ry q => by
  rcases q with q | q
  · exact h pins s σ H x y v u Q I rx ry q
  · exact h' pins s σ H x y v u Q I rx ry q
theorem se_bin {op : Operator} {g : D → D → Sto → Res D} (ho : OpD X W (binaryOp op) g) (ha : SE X W a da) (hb : SE X W b db) : SE X W (.BinOp a op b pos) (dBin g da db) := pe_imp (pe_op ho ha hb) fun _ _ _ h => tOp_of h
theorem se_cmp {op : CmpOp} {g : D → D → Sto → Res D} (ho : OpD X W (compareOp op) g) (ha : SE X W a da) (hb : SE X W b db) (hm : behindInMarks op b = false) : SE X W (.Compare a [op] [b] pos) (dBin g da db) := pe_imp (pe_cmpR ho ha hb hm) fun _ _ _ h => tOp_of h
end

/-! ### tests -/
/-- a truth value as a test -/
def asB (r : Res D) : Res Bool := r.bnd fun d S => match d with
  | .bl b => .ok b S
  | _ => .bad
def dB (de : DE) : DT := fun δ S => asB (de δ S)
theorem tTest_of {W : Wt} {de : DE} {σ : L2.St} {H : Hp} {Q : Bool → Hp → Prop} (h : tT W (dB de) σ H Q) : tTest (tE W de) σ H Q :=
  tG.step h fun ρ δ ρ1 S1 H1 v d N e R r P => by
    cases r with
    | bl b => exact ⟨b, rfl, P.now R (show rlB ρ1 H1 b b from rfl)⟩
    | _ => exact P.elim
theorem tB_of {W : Wt} {de : DE} {σ : L2.St} {H : Hp} {Q : Bool → Hp → Prop} (h : tT W (dB de) σ H Q) : tB (tE W de) σ H Q := tTest_of h
def dAnd (a b : DT) : DT := fun δ S => (a δ S).bnd fun x S1 => if x = true then b δ S1 else .ok false S1
def dOr (a b : DT) : DT := fun δ S => (a δ S).bnd fun x S1 => if x = true then .ok true S1 else b δ S1
def dNot (a : DT) : DT := fun δ S => (a δ S).bnd fun x S1 => .ok (!x) S1
def dAndV (a b : DE) : DE := fun δ S => (asB (a δ S)).bnd fun x S1 => if x = true then b δ S1 else .ok (.bl false) S1
def dOrV (a b : DE) : DE := fun δ S => (asB (a δ S)).bnd fun x S1 => if x = true then .ok (.bl true) S1 else b δ S1
def dNotV (a : DE) : DE := fun δ S => (asB (a δ S)).bnd fun x S1 => .ok (.bl (!x)) S1
def dIf (t : DT) (a b : DE) : DE := fun δ S => (t δ S).bnd fun x S1 => if x = true then a δ S1 else b δ S1
section
variable {X : Cx} {W : Wt} {a b c : Expr} {da db : DE} {ta tb : DT} {pos : Pos} {rest : List Expr}
theorem st_cmp {op : CmpOp} {g : D → D → Sto → Res D} (ho : OpD X W (compareOp op) g) (ha : SE X W a da) (hb : SE X W b db) (hm : behindInMarks op b = false) : ST X W (.Compare a [op] [b] pos) (dB (dBin g da db)) :=
  pt_imp (pt_cmpR ho ha hb hm) fun σ H Q h => by
    have h2 := tTest_of h
    exact tOp_of h2
theorem st_val (h : SE X W a da) (he : ∀ whole, isTrue a X.env whole = (do let v ← whole; standAt a.pos; holding [v] (truthy v)) := by intro _; rfl) : ST X W a (dB da) :=
  pt_imp (pt_val h he) fun σ H Q h => tB_of h
theorem sw_and1 (ha : ST X W a ta) : PW X (.BoolOp .And [a] pos) (tT W ta) := pw_and1 ha
theorem sw_or1 (ha : ST X W a ta) : PW X (.BoolOp .Or [a] pos) (tT W ta) := pw_or1 ha
theorem sw_and (ha : ST X W a ta) (hb : PW X (.BoolOp .And (b :: rest) pos) (tT W tb)) : PW X (.BoolOp .And (a :: b :: rest) pos) (tT W (dAnd ta tb)) :=
  pw_imp (pw_and ha hb) fun σ H Q h => tG.step h fun ρ δ ρ1 S1 H1 v d N e R r P => by
    have r' : v = d := r
    subst r'
    cases v with
    | true =>
      show tT W tb σ H1 Q
      exact ⟨ρ1, δ, S1, R, N, P⟩
    | false =>
      show Q false H1
      exact Post.now (Rl := rlB) P R rfl
theorem sw_or (ha : ST X W a ta) (hb : PW X (.BoolOp .Or (b :: rest) pos) (tT W tb)) : PW X (.BoolOp .Or (a :: b :: rest) pos) (tT W (dOr ta tb)) :=
  pw_imp (pw_or ha hb) fun σ H Q h => tG.step h fun ρ δ ρ1 S1 H1 v d N e R r P => by
    have r' : v = d := r
    subst r'
    cases v with
    | false =>
      show tT W tb σ H1 Q
      exact ⟨ρ1, δ, S1, R, N, P⟩
    | true =>
      show Q true H1
      exact Post.now (Rl := rlB) P R rfl
theorem st_not (ha : ST X W a ta) : ST X W (.UnaryOp .Not a pos) (dNot ta) :=
  pt_imp (pt_not ha) fun σ H Q h => tG.step h fun ρ δ ρ1 S1 H1 v d N e R r P => by
    have r' : v = d := r
    subst r'
    exact Post.now (Rl := rlB) P R rfl
theorem bool_step {ρ : List Addr} {H : Hp} {W : Wt} {v : V} {d : D} {S : Sto} {γ β : Type} {Rl : List Addr → Hp → β → γ → Prop} {f : Bool → Sto → Res γ} {Q : β → Hp → Prop} (r : Dv W.K ρ H v d)
    (P : Post W Rl ρ H ((match d with | .bl b => (.ok b S : Res Bool) | _ => .bad).bnd f) Q) : ∃ b, v = .bl b ∧ d = .bl b ∧ Post W Rl ρ H (f b S) Q := by
  cases r with
  | bl b => exact ⟨b, rfl, rfl, P⟩
  | _ => exact P.elim
theorem asB_bnd {γ : Type} (r : Res D) (f : Bool → Sto → Res γ) : (asB r).bnd f = r.bnd fun d S => (match d with | .bl b => (.ok b S : Res Bool) | _ => .bad).bnd f := by
  cases r <;> rfl
theorem se_and (ha : SE X W a da) (hb : SE X W (.BoolOp .And (b :: rest) pos) db) : SE X W (.BoolOp .And (a :: b :: rest) pos) (dAndV da db) :=
  pe_imp (pe_and ha hb) fun σ H Q h => by
    have h' : tG W (Dv W.K) (fun δ S => (da δ S).bnd fun d S => (match d with | .bl b => (.ok b S : Res Bool) | _ => .bad).bnd fun x S1 => if x = true then db δ S1 else .ok (.bl false) S1) σ H Q := by
      obtain ⟨ρ, δ, S, R, N, P⟩ := h
      refine ⟨ρ, δ, S, R, N, ?_⟩
      unfold dAndV at P
      rw [asB_bnd] at P
      exact P
    refine tG.step h' fun ρ δ ρ1 S1 H1 v d N e R r P => ?_
    obtain ⟨k, rfl, rfl, P⟩ := bool_step r P
    refine ⟨k, rfl, ?_⟩
    cases k with
    | true =>
      show tE W db σ H1 Q
      exact ⟨ρ1, δ, S1, R, N, P⟩
    | false =>
      show Q (.bl false) H1
      exact P.now R (.bl false)
theorem se_or (ha : SE X W a da) (hb : SE X W (.BoolOp .Or (b :: rest) pos) db) : SE X W (.BoolOp .Or (a :: b :: rest) pos) (dOrV da db) :=
  pe_imp (pe_or ha hb) fun σ H Q h => by
    have h' : tG W (Dv W.K) (fun δ S => (da δ S).bnd fun d S => (match d with | .bl b => (.ok b S : Res Bool) | _ => .bad).bnd fun x S1 => if x = true then .ok (.bl true) S1 else db δ S1) σ H Q := by
      obtain ⟨ρ, δ, S, R, N, P⟩ := h
      refine ⟨ρ, δ, S, R, N, ?_⟩
      unfold dOrV at P
      rw [asB_bnd] at P
      exact P
    refine tG.step h' fun ρ δ ρ1 S1 H1 v d N e R r P => ?_
    obtain ⟨k, rfl, rfl, P⟩ := bool_step r P
    refine ⟨k, rfl, ?_⟩
    cases k with
    | false =>
      show tE W db σ H1 Q
      exact ⟨ρ1, δ, S1, R, N, P⟩
    | true =>
      show Q (.bl true) H1
      exact P.now R (.bl true)
theorem se_one {op : BoolOp} (h : SE X W a da) : SE X W (.BoolOp op [a] pos) da := pe_one h
theorem se_not (ha : SE X W a da) : SE X W (.UnaryOp .Not a pos) (dNotV da) :=
  pe_imp (pe_not ha) fun σ H Q h => by
    have h' : tG W (Dv W.K) (fun δ S => (da δ S).bnd fun d S => (match d with | .bl b => (.ok b S : Res Bool) | _ => .bad).bnd fun x S1 => .ok (.bl (!x)) S1) σ H Q := by
      obtain ⟨ρ, δ, S, R, N, P⟩ := h
      refine ⟨ρ, δ, S, R, N, ?_⟩
      unfold dNotV at P
      rw [asB_bnd] at P
      exact P
    refine tG.step h' fun ρ δ ρ1 S1 H1 v d N e R r P => ?_
    obtain ⟨k, rfl, rfl, P⟩ := bool_step r P
    exact ⟨k, rfl, P.now R (.bl (!k))⟩
theorem se_if (hc : ST X W c ta) (ha : SE X W a da) (hb : SE X W b db) : SE X W (.IfExp c a b pos) (dIf ta da db) :=
  pe_imp (pe_ifExp hc ha hb) fun σ H Q h => tG.step h fun ρ δ ρ1 S1 H1 v d N e R r P => by
    have r' : v = d := r
    subst r'
    cases v with
    | true =>
      show tE W da σ H1 Q
      exact ⟨ρ1, δ, S1, R, N, P⟩
    | false =>
      show tE W db σ H1 Q
      exact ⟨ρ1, δ, S1, R, N, P⟩
end

/-! ### chains: a op b op' c -/
def dChain (op op' : D → D → Sto → Res D) (a b c : DE) : DE := fun δ S => (a δ S).bnd fun x S1 => (b δ S1).bnd fun y S2 => (asB (op x y S2)).bnd fun k S3 => if k = true then (c δ S3).bnd fun z S4 => op' y z S4 else .ok (.bl false) S3
theorem tChain_of {W : Wt} {op op' : D → D → Sto → Res D} {da db dc : DE} {σ : L2.St} {H : Hp} {Q : VK} (h : tE W (dChain op op' da db dc) σ H Q) : tChain (rD2 W op) (rD2 W op') (tE W da) (tE W db) (tE W dc) σ H Q :=
  tG.step h fun ρ δ ρ1 S1 H1 v d N e R r P => ⟨ρ1, δ, S1, R, N, (Post.bnd P).imp fun y H2 ⟨ρ2, S2, d2, e2, R2, r2, P2⟩ => ⟨ρ2, S2, d, d2, R2, r.mono e2, r2, by
    dsimp only at P2
    rw [asB_bnd] at P2
    refine (Post.bnd P2).imp fun z H3 ⟨ρ3, S3, d3, e3, R3, r3, P3⟩ => ?_
    obtain ⟨k, rfl, rfl, P3⟩ := bool_step r3 P3
    refine ⟨k, rfl, ?_⟩
    cases k with
    | true =>
      have P4 : Post W (Dv W.K) ρ3 H3 ((dc δ S3).bnd fun z S4 => op' d2 z S4) Q := P3
      refine ⟨ρ3, δ, S3, R3, (N.mono e2).mono e3, (Post.bnd P4).imp fun w H4 ⟨ρ4, S4, d4, e4, R4, r4, P4⟩ => ⟨ρ4, S4, d2, d4, R4, (r2.mono e3).mono e4, r4, P4⟩⟩
    | false =>
      show Q (.bl false) H3
      exact P3.now R3 (.bl false)⟩⟩
section
variable {X : Cx} {W : Wt} {a b c : Expr} {da db dc : DE} {pos : Pos}
theorem se_chain {op op' : CmpOp} {g g' : D → D → Sto → Res D} (ho : OpD X W (compareOp op) g) (ho' : OpD X W (compareOp op') g') (ha : SE X W a da) (hb : SE X W b db) (hc : SE X W c dc)
    (hm : lastMarks [op, op'] [b, c] = false := by with_unfolding_all rfl) : SE X W (.Compare a [op, op'] [b, c] pos) (dChain g g' da db dc) := pe_imp (pe_chain ho ho' ha hb hc hm) fun _ _ _ h => tChain_of h
theorem st_chain {op op' : CmpOp} {g g' : D → D → Sto → Res D} (ho : OpD X W (compareOp op) g) (ho' : OpD X W (compareOp op') g') (ha : SE X W a da) (hb : SE X W b db) (hc : SE X W c dc)
    (hm : lastMarks [op, op'] [b, c] = false := by with_unfolding_all rfl) : ST X W (.Compare a [op, op'] [b, c] pos) (dB (dChain g g' da db dc)) := pt_imp (pt_chain ho ho' ha hb hc hm) fun _ _ _ h => by
    have h2 := tTest_of h
    exact tChain_of h2
end

/-! ### argument lists, displays -/
def dNil : DA := fun _ S => .ok [] S
def dCons (a : DE) (r : DA) : DA := fun δ S => (a δ S).bnd fun x S1 => (r δ S1).bnd fun xs S2 => .ok (x :: xs) S2
def lim : Nat := (Classical.choice (⟨⟨100000, rfl⟩⟩ : Nonempty { n : Nat // n = 100000 })).1
theorem lim_eq : lim = 100000 := (Classical.choice (⟨⟨100000, rfl⟩⟩ : Nonempty { n : Nat // n = 100000 })).2
def M64 : Int := (Classical.choice (⟨⟨2 ^ 64, rfl⟩⟩ : Nonempty { n : Int // n = 2 ^ 64 })).1
theorem M64_eq : M64 = 2 ^ 64 := (Classical.choice (⟨⟨2 ^ 64, rfl⟩⟩ : Nonempty { n : Int // n = 2 ^ 64 })).2
def M62 : Int := (Classical.choice (⟨⟨2 ^ 62, rfl⟩⟩ : Nonempty { n : Int // n = 2 ^ 62 })).1
theorem M62_eq : M62 = 2 ^ 62 := (Classical.choice (⟨⟨2 ^ 62, rfl⟩⟩ : Nonempty { n : Int // n = 2 ^ 62 })).2
def N30 : Nat := (Classical.choice (⟨⟨1073741824, rfl⟩⟩ : Nonempty { n : Nat // n = 1073741824 })).1
theorem N30_eq : N30 = 1073741824 := (Classical.choice (⟨⟨1073741824, rfl⟩⟩ : Nonempty { n : Nat // n = 1073741824 })).2
def N64 : Nat := (Classical.choice (⟨⟨2 ^ 64, rfl⟩⟩ : Nonempty { n : Nat // n = 2 ^ 64 })).1
theorem N64_eq : N64 = 2 ^ 64 := (Classical.choice (⟨⟨2 ^ 64, rfl⟩⟩ : Nonempty { n : Nat // n = 2 ^ 64 })).2
def M6 : Int := (Classical.choice (⟨⟨1000000, rfl⟩⟩ : Nonempty { n : Int // n = 1000000 })).1
theorem M6_eq : M6 = 1000000 := (Classical.choice (⟨⟨1000000, rfl⟩⟩ : Nonempty { n : Int // n = 1000000 })).2
theorem le_lim {n : Nat} (h : n ≤ lim) : n ≤ sizeLine := Nat.le_trans h (by rw [lim_eq]; decide)
theorem lt_lim {n : Nat} (h : n < lim) : n < sizeLine := Nat.lt_of_lt_of_le h (by rw [lim_eq]; decide)
def mkTup (xs : List D) (S : Sto) : Res D := if xs.length ≤ lim then .ok (.tup xs) S else .bad
def mkLst (xs : List D) (S : Sto) : Res D := if xs.length ≤ lim then .ok (.cell S.length) (S ++ [.lst xs]) else .bad
def dTup (as : DA) : DE := fun δ S => (as δ S).bnd mkTup
def dLst (as : DA) : DE := fun δ S => (as δ S).bnd mkLst
theorem Post.tup {W : Wt} {ρ : List Addr} {H : Hp} {vs : List V} {ds : List D} {S : Sto} {Q : VK} (P : Post W (Dv W.K) ρ H (mkTup ds S) Q) (R : Rep W.K ρ H S) (r : DvAll W.K ρ H vs ds) :
    vs.length ≤ sizeLine ∧ ∀ p, H p = none → Q (.ref p) (upd H p (.tup vs)) := by
  unfold mkTup at P
  split at P
  · rename_i hl
    refine ⟨by rw [r.length]; exact le_lim hl, fun p hp => ?_⟩
    exact P ρ _ _ (Ext.new hp) (R.new hp) (.tup (.inl (.inl upd_same)) (r.mono (Ext.new hp)))
  · exact P.elim
theorem Post.lst {W : Wt} {ρ : List Addr} {H : Hp} {vs : List V} {ds : List D} {S : Sto} {Q : VK} (P : Post W (Dv W.K) ρ H (mkLst ds S) Q) (R : Rep W.K ρ H S) (r : DvAll W.K ρ H vs ds) :
    vs.length ≤ sizeLine ∧ ∀ p, H p = none → Q (.ref p) (upd H p (.lst vs)) := by
  unfold mkLst at P
  split at P
  · rename_i hl
    refine ⟨by rw [r.length]; exact le_lim hl, fun p hp => ?_⟩
    refine P (ρ ++ [p]) _ _ (Ext.newC hp) (R.newC hp ⟨vs, upd_same, r.mono (Ext.newC hp)⟩) (.cell ?_)
    rw [← R.len, List.getElem?_append_right (Nat.le_refl _), Nat.sub_self]
    rfl
  · exact P.elim
section
variable {X : Cx} {W : Wt} {e : Expr} {es : List Expr} {de : DE} {da : DA} {pos : Pos}
theorem sa_nil : SA X W [] dNil := pa_imp pa_nil fun σ H Q ⟨ρ, δ, S, R, N, P⟩ => Post.now (Rl := DvAll W.K) P R .nil
theorem sa_cons (ha : SE X W e de) (hr : SA X W es da) (hs : starEach (e :: es) X.env = (false, eval e X.env) :: starEach es X.env := by rfl) : SA X W (e :: es) (dCons de da) :=
  pa_imp (pa_cons ha hr hs) fun σ H Q h => tG.step h fun ρ δ ρ1 S1 H1 v d N e R r P => ⟨ρ1, δ, S1, R, N, (Post.bnd P).imp fun vs H2 ⟨ρ2, S2, d2, e2, R2, r2, P2⟩ => Post.now (Rl := DvAll W.K) P2 R2 (.cons (r.mono e2) r2)⟩
theorem se_tup {x1} (h : SA X W es da) : SE X W (.Tuple es x1 pos) (dTup da) :=
  pe_imp (pe_tup h) fun σ H Q h => tG.step h fun ρ δ ρ1 S1 H1 v d N e R r P => P.tup R r
theorem se_lst (h : SA X W es da) : SE X W (.List es pos) (dLst da) :=
  pe_imp (pe_lst h) fun σ H Q h => tG.step h fun ρ δ ρ1 S1 H1 v d N e R r P => P.lst R r
end
end Dn
set_option Elab.async false
set_option linter.all false
set_option maxRecDepth 100000
set_option maxHeartbeats 1000000
/-! Dn2: operators by values. -/
noncomputable section
namespace Dn
open PySem PySem.Spec PyProof.Rows L2

/-! ### reading values -/
section
variable {K : PySem.W.Frag} {ρ : List Addr} {H : Hp} {v : V} {S : Sto}
theorem Dv.intI {i : Int} (h : Dv K ρ H v (.int i)) : v = .int i := by cases h; rfl
theorem Dv.blI {b : Bool} (h : Dv K ρ H v (.bl b)) : v = .bl b := by cases h; rfl
theorem Dv.strI {x : Str} (h : Dv K ρ H v (.str x)) : v = .str x := by cases h; rfl
theorem Dv.nonI (h : Dv K ρ H v .non) : v = .non := by cases h; rfl
theorem Dv.tupI {ds : List D} (h : Dv K ρ H v (.tup ds)) : ∃ a xs, v = .ref a ∧ SqT K H a xs ∧ DvAll K ρ H xs ds := by
  cases h with
  | tup a b => exact ⟨_, _, rfl, a, b⟩
theorem Dv.cellI {n : Nat} (h : Dv K ρ H v (.cell n)) : ∃ a, v = .ref a ∧ ρ[n]? = some a := by
  cases h with
  | cell a => exact ⟨_, rfl, a⟩
/-- the items of a tuple, a list -/
def items (S : Sto) : D → Option (List D)
  | .tup xs => some xs
  | .ro xs => some xs
  | .cell n => match S[n]? with
    | some (.lst xs) => some xs
    | _ => none
  | _ => none
theorem items_cell {n : Nat} {ds : List D} (h : items S (.cell n) = some ds) : S[n]? = some (.lst ds) := by
  unfold items at h
  cases e : S[n]? with
  | none => simp [e] at h
  | some c =>
    cases c with
    | lst xs => simp [e] at h; rw [h]
    | dic k => simp [e] at h
theorem Dv.seqI (R : Rep K ρ H S) {d : D} {ds : List D} (h : Dv K ρ H v d) (hi : items S d = some ds) : ∃ a xs, v = .ref a ∧ (SqL K H a xs ∨ SqT K H a xs) ∧ DvAll K ρ H xs ds := by
  cases h with
  | tup a b => cases hi; exact ⟨_, _, rfl, .inr a, b⟩
  | ro a f b => cases hi; exact ⟨_, _, rfl, .inl a, b⟩
  | cell q =>
    obtain ⟨xs, h1, h2⟩ := R.lst q (items_cell hi)
    exact ⟨_, xs, rfl, .inl (SqL.of h1), h2⟩
  | _ => cases hi
end

/-! ### arithmetic, + and * of sequences -/
def opAdd (x y : D) (S : Sto) : Res D := match x, y with
  | .int i, .int j => .ok (.int (i + j)) S
  | .tup xs, .tup ys => mkTup (xs ++ ys) S
  | .cell n, .cell m => match S[n]?, S[m]? with
    | some (.lst xs), some (.lst ys) => mkLst (xs ++ ys) S
    | _, _ => .bad
  | _, _ => .bad
def opI (g : Int → Int → Int) (c : Int → Int → Bool) (x y : D) (S : Sto) : Res D := match x, y with
  | .int i, .int j => if c i j = true then .ok (.int (g i j)) S else .bad
  | _, _ => .bad
def opSub := opI (fun i j => i - j) fun _ _ => true
def opFdiv := opI (fun i j => i.fdiv j) fun _ j => decide (j ≠ 0 ∧ j.natAbs < N30)
def opMod := opI (fun i j => i.fmod j) fun _ j => decide (j ≠ 0)
def opPow := opI (fun i j => i ^ j.toNat) fun i j => decide (0 ≤ j ∧ j ≤ M6 ∧ i.natAbs < N64)
def opCmpI (g : Int → Int → Bool) (x y : D) (S : Sto) : Res D := match x, y with
  | .int i, .int j => .ok (.bl (g i j)) S
  | _, _ => .bad
def opLt := opCmpI fun i j => decide (i < j)
def opLe := opCmpI fun i j => decide (i ≤ j)
def opGt := opCmpI fun i j => decide (j < i)
def opGe := opCmpI fun i j => decide (j ≤ i)
def opMul (x y : D) (S : Sto) : Res D := match x, y with
  | .int i, .int j => if decide ((-M64 < i ∧ i < M64) ∨ (-M64 < j ∧ j < M64)) = true then .ok (.int (i * j)) S else .bad
  | .tup xs, .int k => if decide (xs ≠ [] ∧ 1 ≤ k ∧ k ≤ 1000 ∧ xs.length ≤ 100) = true then .ok (.tup (List.replicate k.toNat xs).flatten) S else .bad
  | .cell n, .int k => match S[n]? with
    | some (.lst xs) => if decide (0 ≤ k ∧ k ≤ 1000 ∧ xs.length ≤ 100) = true then mkLst (List.replicate k.toNat xs).flatten S else .bad
    | _ => .bad
  | _, _ => .bad
section
variable {X : Cx} {cl : Str → Value} {E : XK}
abbrev wt (X : Cx) (cl : Str → Value) (E : XK) : Wt := ⟨X.K, cl, E⟩
theorem rD2.ints {W : Wt} {op : D → D → Sto → Res D} {x y : V} {H : Hp} {Q : VK} {C : Int → Int → Prop} {g : Int → Int → D} {gv : Int → Int → V} (hg : ∀ i j ρ H, Dv W.K ρ H (gv i j) (g i j))
    (h : rD2 W op x y H Q) (ho : ∀ d e S, op d e S = .bad ∨ ∃ i j, d = .int i ∧ e = .int j ∧ C i j ∧ op d e S = .ok (g i j) S) : ∃ i j, x = .int i ∧ y = .int j ∧ C i j ∧ Q (gv i j) H := by
  obtain ⟨ρ, S, d, e, R, r1, r2, P⟩ := h
  rcases ho d e S with z | ⟨i, j, rfl, rfl, c, z⟩
  · rw [z] at P
    exact P.elim
  · rw [z] at P
    exact ⟨i, j, r1.intI, r2.intI, c, P.now R (hg i j ρ H)⟩
theorem od_I {f : Value → Value → Sem Value} {g : Int → Int → Int} {c : Int → Int → Bool} {C : Int → Int → Prop} (h : OpR X f (rI C fun i j => .int (g i j))) (hc : ∀ i j, c i j = true → C i j) : OpD X (wt X cl E) f (opI g c) := by
  refine OpR.imp h fun x y H Q q => rD2.ints (g := fun i j => .int (g i j)) (gv := fun i j => .int (g i j)) (fun i j _ _ => .int _) q fun d e S => ?_
  unfold opI
  split
  · rename_i i j
    split
    · rename_i hh
      exact .inr ⟨i, j, rfl, rfl, hc i j hh, rfl⟩
    · exact .inl rfl
  · exact .inl rfl
theorem od_sub : OpD X (wt X cl E) (binaryOp .Sub) opSub := od_I (C := fun _ _ => True) (OpR.imp op_sub fun x y H Q ⟨i, j, a, b, _, c⟩ => ⟨i, j, a, b, c⟩) fun _ _ _ => trivial
theorem od_fdiv : OpD X (wt X cl E) (binaryOp .FloorDiv) opFdiv := od_I op_fdivN fun i j h => by
  have h2 := of_decide_eq_true (p := j ≠ 0 ∧ j.natAbs < N30) h
  rw [N30_eq] at h2
  exact h2
theorem od_mod : OpD X (wt X cl E) (binaryOp .Mod) opMod := od_I op_modN fun i j h => of_decide_eq_true h
theorem od_pow : OpD X (wt X cl E) (binaryOp .Pow) opPow := od_I op_pow fun i j h => by
  have h2 := of_decide_eq_true (p := 0 ≤ j ∧ j ≤ M6 ∧ i.natAbs < N64) h
  rw [M6_eq, N64_eq] at h2
  exact h2
theorem od_cmpI {f : Value → Value → Sem Value} {g : Int → Int → Bool} (h : OpR X f (rI0 fun i j => .bl (g i j))) : OpD X (wt X cl E) f (opCmpI g) := by
  refine OpR.imp h fun x y H Q q => ?_
  obtain ⟨i, j, a, b, _, c⟩ := rD2.ints (C := fun _ _ => True) (g := fun i j => .bl (g i j)) (gv := fun i j => .bl (g i j)) (fun i j _ _ => .bl _) q fun d e S => by
    unfold opCmpI
    split
    · rename_i i j
      exact .inr ⟨i, j, rfl, rfl, trivial, rfl⟩
    · exact .inl rfl
  exact ⟨i, j, a, b, c⟩
theorem od_lt : OpD X (wt X cl E) (compareOp .Lt) opLt := od_cmpI op_lt
theorem od_le : OpD X (wt X cl E) (compareOp .LtE) opLe := od_cmpI op_le
theorem od_gt : OpD X (wt X cl E) (compareOp .Gt) opGt := od_cmpI op_gt
theorem od_ge : OpD X (wt X cl E) (compareOp .GtE) opGe := od_cmpI op_ge
theorem od_add : OpD X (wt X cl E) (binaryOp .Add) opAdd := by
  refine OpR.imp (OpR.or op_add (OpR.or op_catA op_cat)) fun x y H Q q => ?_
  obtain ⟨ρ, S, d, e, R, r1, r2, P⟩ := q
  unfold opAdd at P
  split at P
  · rename_i i j
    exact .inl ⟨i, j, r1.intI, r2.intI, P.now R (.int _)⟩
  · rename_i xs ys
    refine .inr (.inl ?_)
    obtain ⟨a, us, rfl, s1, v1⟩ := r1.tupI
    obtain ⟨b, ws, rfl, s2, v2⟩ := r2.tupI
    obtain ⟨h1, h2⟩ := P.tup R (v1.append v2)
    rw [List.length_append] at h1
    refine ⟨a, b, us, ws, rfl, rfl, s1, s2, h1, fun z => ?_, fun z z2 => ?_, fun _ _ => h2⟩
    · have e1 : xs = [] := v1.nil_iff.mp z
      unfold mkTup at P
      split at P
      · rw [e1] at P
        exact P.now R r2
      · exact P.elim
    · have e1 : ys = [] := v2.nil_iff.mp z2
      unfold mkTup at P
      split at P
      · rw [e1, List.append_nil] at P
        exact P.now R r1
      · exact P.elim
  · rename_i n m
    split at P
    · rename_i xs ys h1 h2
      obtain ⟨a, rfl, q1⟩ := r1.cellI
      obtain ⟨b, rfl, q2⟩ := r2.cellI
      obtain ⟨us, g1, v1⟩ := R.lst q1 h1
      obtain ⟨ws, g2, v2⟩ := R.lst q2 h2
      obtain ⟨l, k⟩ := P.lst R (v1.append v2)
      rw [List.length_append] at l
      exact .inr (.inr ⟨a, b, us, ws, rfl, rfl, g1, g2, l, k⟩)
    · exact P.elim
  · exact P.elim
end

/-! ### a tuple times one is itself -/
theorem tup_mul_same (l : Addr) (its : Array Value) (n : Nat) (dd : Option Addr) (sl : Array (Option Value)) (x : Int) (u : Tok) (c0 : (decide (x < -(2 ^ 63)) || decide (x ≥ 2 ^ 63)) = false) (c1 : (its.isEmpty || x == 1) = true) :
    Meets (Builtin.«tuple.__mul__» ⟨[.ref l, .int x u], []⟩) (fun _ R s => s.heap.get? l = some { cls := .type "tuple", dict := dd, data := .seq its n, slots := sl } ∧ R (.ok (.ret (Value.ref l))) s) :=
  .of_wp fun prog w A R s h => by
    obtain ⟨hp, g, d, tk, os⟩ := s
    obtain ⟨hl, h⟩ := h
    have f1 := AutoSeq1.idx_int
    wp_walk using wpAny_loadPart' hl
    repeat (first
      | (refine wpAny_ite_false (decide_eq_false (by rw [c0]; exact Bool.false_ne_true)) ?_
         wp_walk using wpAny_loadPart' hl)
      | (refine wpAny_ite_true (by first | exact c1 | exact decide_eq_true c1) ?_
         wp_walk using wpAny_loadPart' hl))
    exact ⟨_, rfl, h⟩
def rRepT1 (K : PySem.W.Frag) : R2 := fun x y H Q => ∃ l xs, x = .ref l ∧ y = .int 1 ∧ SqT K H l xs ∧ Q (.ref l) H
section
variable {X : Cx} {cl : Str → Value} {E : XK}
theorem op_repT1 : OpR X (binaryOp .Mult) (rRepT1 X.K) := by
  intro pins s σ H x y v u Q I rx ry h
  obtain ⟨l, xs, rfl, rfl, hT, q⟩ := h
  obtain rfl : v = Value.ref l := rx
  obtain ⟨t, rfl⟩ := ry
  obtain ⟨its, r, ⟨⟨cls, dd, data, sl⟩, ho, hc, n, hd⟩, hs⟩ := I.tuple hT
  dsimp only at hc hd
  subst hc
  subst hd
  have same := tup_mul_same l its.toArray n dd sl 1 t (by decide) (by simp)
  have viaMul := call_meets (prog := X.prog) (w := X.w) (A := X.A) (E := X.xe) (s := s) (Q := EP X pins σ Q) F.slot_tuple_mul (show s.TypeIs (.ref l) "tuple" from ⟨_, ho, rfl⟩) F.entry_tuple_mul (F.args_tuple_mul_2 _ _) same ⟨ho, ⟨.ref l, H, I, rfl, q⟩⟩
  exact wpAny_binaryOp_repeat_ref (T := "tuple") (U := "int") (by decide) ⟨_, ho, rfl⟩ (fun s' => typeIs_int s' 1 t) noFill_tuple_mul F.fills_int_mul F.slot_int_rmul repeat_tuple F.slot_int_index.lookup
    (call_meets F.slot_int_rmul (typeIs_int s 1 t) F.entry_int_rmul (F.args_int_rmul_2 _ _) (int_rmul_tuple 1 t l its.toArray n dd sl) ⟨ho, rfl, ⟨_, ho, rfl⟩, viaMul⟩)
theorem od_mul : OpD X (wt X cl E) (binaryOp .Mult) opMul := by
  refine OpR.imp (OpR.or op_mul (OpR.or op_repT (OpR.or op_repT1 op_rep))) fun x y H Q q => ?_
  obtain ⟨ρ, S, d, e, R, r1, r2, P⟩ := q
  unfold opMul at P
  split at P
  · rename_i i j
    split at P
    · rename_i hc
      exact .inl ⟨i, j, r1.intI, r2.intI, (by
        have h2 := of_decide_eq_true (p := (-M64 < i ∧ i < M64) ∨ (-M64 < j ∧ j < M64)) hc
        rw [M64_eq] at h2
        exact h2), P.now R (.int _)⟩
    · exact P.elim
  · rename_i xs k
    split at P
    · rename_i hc
      obtain ⟨c1, c2, c3, c4⟩ := of_decide_eq_true hc
      obtain ⟨a, us, rfl, s1, v1⟩ := r1.tupI
      have e2 := r2.intI
      by_cases hk : k = 1
      · subst hk
        refine .inr (.inr (.inl ⟨a, us, rfl, e2, s1, ?_⟩))
        have e3 : (List.replicate (1 : Int).toNat xs).flatten = xs := by simp
        rw [e3] at P
        exact P.now R r1
      · refine .inr (.inl ⟨a, k, us, rfl, e2, s1, fun z => c1 (v1.nil_iff.mp z), by omega, c3, by rw [v1.length]; omega, fun p hp => ?_⟩)
        exact P ρ _ _ (Ext.new hp) (R.new hp) (.tup (.inl (.inl upd_same)) ((v1.rep _).mono (Ext.new hp)))
    · exact P.elim
  · rename_i n k
    split at P
    · rename_i xs h1
      split at P
      · rename_i hc
        obtain ⟨c2, c3, c4⟩ := of_decide_eq_true hc
        obtain ⟨a, rfl, q1⟩ := r1.cellI
        obtain ⟨us, g1, v1⟩ := R.lst q1 h1
        obtain ⟨l, kk⟩ := P.lst R (v1.rep k.toNat)
        refine .inr (.inr (.inr ⟨a, k, us, rfl, r2.intI, g1, by omega, by omega, ?_, kk⟩))
        have a1 : us.length * k.toNat ≤ 100 * 1000 := Nat.mul_le_mul (by rw [v1.length]; exact c4) (by omega)
        exact Nat.le_trans a1 (by decide)
      · exact P.elim
    · exact P.elim
  · exact P.elim

/-! ### == and !=: data of any depth -/
end
def allPy (f : D → Option PyData) : List D → Option (List PyData)
  | [] => some []
  | d :: ds => match f d, allPy f ds with
    | some p, some ps => some (p :: ps)
    | _, _ => none
def toPy : Nat → Sto → D → Option PyData
  | 0, _, _ => none
  | n + 1, S, d => match d with
    | .non => some .none
    | .bl b => some (.bool b)
    | .int i => some (.int i)
    | .str x => some (.str x)
    | .tup xs => (allPy (toPy n S) xs).map .tuple
    | .ro xs => (allPy (toPy n S) xs).map .list
    | .cell k => match S[k]? with
      | some (.lst xs) => (allPy (toPy n S) xs).map .list
      | _ => none
theorem allPy_dp {K : PySem.W.Frag} {ρ : List Addr} {H : Hp} {f : D → Option PyData} (hf : ∀ v d p, Dv K ρ H v d → f d = some p → Dp K H v p) : ∀ {vs : List V} {ds : List D} {ps : List PyData}, DvAll K ρ H vs ds → allPy f ds = some ps → DpAll K H vs ps
  | _, _, _, .nil, e => by cases e; exact .nil
  | _, _, _, .cons (d := d) (ds := ds) r t, e => by
    unfold allPy at e
    split at e
    · rename_i p qs h1 h2
      cases e
      exact .cons (hf _ _ _ r h1) (allPy_dp hf t h2)
    · cases e
theorem toPy_dp {K : PySem.W.Frag} {ρ : List Addr} {H : Hp} {S : Sto} (R : Rep K ρ H S) : ∀ (n : Nat) (v : V) (d : D) (p : PyData), Dv K ρ H v d → toPy n S d = some p → Dp K H v p
  | 0, _, _, _, _, e => by cases e
  | n + 1, v, d, p, h, e => by
    have ih := toPy_dp R n
    cases h with
    | non => cases e; exact .non
    | bl b => cases e; exact .bl b
    | int i => cases e; exact .int i
    | str x => cases e; exact .str x
    | tup a b =>
      obtain ⟨ps, h1, h2⟩ := Option.map_eq_some_iff.mp (show (allPy (toPy n S) _).map PyData.tuple = some p from e)
      rw [← h2]
      exact .tup a (allPy_dp ih b h1)
    | ro a f b =>
      obtain ⟨ps, h1, h2⟩ := Option.map_eq_some_iff.mp (show (allPy (toPy n S) _).map PyData.list = some p from e)
      rw [← h2]
      exact .lst a (allPy_dp ih b h1)
    | cell q =>
      unfold toPy at e
      dsimp only at e
      split at e
      · rename_i xs hx
        obtain ⟨us, g1, g2⟩ := R.lst q hx
        obtain ⟨ps, h1, h2⟩ := Option.map_eq_some_iff.mp e
        rw [← h2]
        exact .lst (SqL.of g1) (allPy_dp ih g2 h1)
      · cases e
def opEqP (neg : Bool) (x y : D) (S : Sto) : Res D := match toPy 60 S x, toPy 60 S y with
  | some p, some q => if (SeqAt.shaped p && SeqAt.shaped q) = true then .ok (.bl (if neg then !PyData.eqv p q else PyData.eqv p q)) S else .bad
  | _, _ => .bad
/-- two texts of any size; else data of any depth -/
def opEqG (neg : Bool) (x y : D) (S : Sto) : Res D := match x, y with
  | .str a, .str b => .ok (.bl (if neg then !decide (a = b) else decide (a = b))) S
  | x, y => opEqP neg x y S
def opEq := opEqG false
def opNe := opEqG true
section
variable {X : Cx} {cl : Str → Value} {E : XK}
theorem eqP_of {neg : Bool} {x y : V} {H : Hp} {Q : VK} (h : rD2 (wt X cl E) (opEqP neg) x y H Q) :
    ∃ d e, Dp X.K H x d ∧ Dp X.K H y e ∧ SeqAt.shaped d = true ∧ SeqAt.shaped e = true ∧ Q (.bl (if neg then !PyData.eqv d e else PyData.eqv d e)) H := by
  obtain ⟨ρ, S, d, e, R, r1, r2, P⟩ := h
  unfold opEqP at P
  split at P
  · rename_i p q h1 h2
    split at P
    · rename_i hc
      rw [Bool.and_eq_true] at hc
      exact ⟨p, q, toPy_dp R _ _ _ _ r1 h1, toPy_dp R _ _ _ _ r2 h2, hc.1, hc.2, P.now R (.bl _)⟩
    · exact P.elim
  · exact P.elim
theorem eqG_of {neg : Bool} {x y : V} {H : Hp} {Q : VK} (h : rD2 (wt X cl E) (opEqG neg) x y H Q) :
    (scal x y = true ∧ Q (.bl (if neg then !decide (x = y) else decide (x = y))) H) ∨ ∃ d e, Dp X.K H x d ∧ Dp X.K H y e ∧ SeqAt.shaped d = true ∧ SeqAt.shaped e = true ∧ Q (.bl (if neg then !PyData.eqv d e else PyData.eqv d e)) H := by
  obtain ⟨ρ, S, d, e, R, r1, r2, P⟩ := h
  unfold opEqG at P
  split at P
  · rename_i a b
    refine .inl ?_
    rw [r1.strI, r2.strI]
    refine ⟨rfl, ?_⟩
    have q := P.now R (.bl _)
    have e : decide (V.str a = V.str b) = decide (a = b) := by
      by_cases h : a = b
      · rw [h, decide_eq_true rfl, decide_eq_true rfl]
      · rw [decide_eq_false h, decide_eq_false (fun z => h (V.str.inj z))]
    rw [e]
    exact q
  · exact .inr (eqP_of ⟨ρ, S, d, e, R, r1, r2, P⟩)
theorem od_eq (hu : X.A.units + 64 < cLine) : OpD X (wt X cl E) (compareOp .Eq) opEq := OpR.imp (OpR.or op_eq (op_eqD hu)) fun x y H Q q => eqG_of (neg := false) q
theorem od_ne (hu : X.A.units + 64 < cLine) : OpD X (wt X cl E) (compareOp .NotEq) opNe := OpR.imp (OpR.or op_ne (op_neD hu)) fun x y H Q q => eqG_of (neg := true) q

/-! ### is None -/
end
def isNon : D → Bool
  | .non => true
  | _ => false
def opIsN (neg : Bool) (x y : D) (S : Sto) : Res D := match y with
  | .non => .ok (.bl (if neg then !isNon x else isNon x)) S
  | _ => .bad
section
variable {X : Cx} {cl : Str → Value} {E : XK}
theorem Dv.nonIff {K : PySem.W.Frag} {ρ : List Addr} {H : Hp} {v : V} {d : D} (h : Dv K ρ H v d) : decide (v = .non) = isNon d := by
  cases h <;> first | rfl | (exact decide_eq_false (by intro z; cases z))
theorem isN_of {neg : Bool} {x y : V} {H : Hp} {Q : VK} (h : rD2 (wt X cl E) (opIsN neg) x y H Q) : y = .non ∧ Q (.bl (if neg then !decide (x = .non) else decide (x = .non))) H := by
  obtain ⟨ρ, S, d, e, R, r1, r2, P⟩ := h
  unfold opIsN at P
  split at P
  · refine ⟨r2.nonI, ?_⟩
    rw [r1.nonIff]
    exact P.now R (.bl _)
  · exact P.elim
theorem od_isN : OpD X (wt X cl E) (compareOp .Is) (opIsN false) := OpR.imp op_isN fun _ _ _ _ q => isN_of (neg := false) q
theorem od_notN : OpD X (wt X cl E) (compareOp .IsNot) (opIsN true) := OpR.imp op_notN fun _ _ _ _ q => isN_of (neg := true) q
end

/-! ### in, not in: flat items -/
def flatD : D → Bool
  | .non => true
  | .bl _ => true
  | .int _ => true
  | .str _ => true
  | _ => false
def eqF : D → D → Bool
  | .non, .non => true
  | .bl a, .bl b => a == b
  | .bl a, .int b => (if a then 1 else 0) == b
  | .int a, .bl b => a == (if b then 1 else 0)
  | .int a, .int b => a == b
  | .str a, .str b => a == b
  | _, _ => false
def inD (x : D) (ys : List D) : Bool := ys.any fun y => eqF y x
def opIn (neg : Bool) (x y : D) (S : Sto) : Res D := match items S y with
  | some ys => if (flatD x && ys.all flatD) = true then .ok (.bl (if neg then !inD x ys else inD x ys)) S else .bad
  | none => .bad
section
variable {K : PySem.W.Frag} {ρ : List Addr} {H : Hp}
theorem Dv.flat {v : V} {d : D} (h : Dv K ρ H v d) (f : flatD d = true) : flatV v = true := by
  cases h <;> first | rfl | exact f
theorem Dv.eqF {v w : V} {d e : D} (h : Dv K ρ H v d) (h' : Dv K ρ H w e) (f : flatD d = true) (f' : flatD e = true) : eqV v w = Dn.eqF d e := by
  cases h <;> cases h' <;> first | rfl | (exact absurd f (by decide)) | (exact absurd f' (by decide)) | (exact absurd (show false = true from f) (by decide)) | (exact absurd (show false = true from f') (by decide))
theorem DvAll.flat : ∀ {vs : List V} {ds : List D}, DvAll K ρ H vs ds → ds.all flatD = true → vs.all flatV = true
  | _, _, .nil, _ => rfl
  | _, _, .cons r t, f => by
    rw [List.all_cons, Bool.and_eq_true] at f
    rw [List.all_cons, r.flat f.1, DvAll.flat t f.2]
    rfl
theorem DvAll.inV {v : V} {d : D} (h : Dv K ρ H v d) (f : flatD d = true) : ∀ {vs : List V} {ds : List D}, DvAll K ρ H vs ds → ds.all flatD = true → L2.inV v vs = inD d ds
  | _, _, .nil, _ => rfl
  | v' :: vs, d' :: ds, .cons r t, g => by
    rw [List.all_cons, Bool.and_eq_true] at g
    have ih := DvAll.inV h f t g.2
    show (eqV v' v || L2.inV v vs) = (Dn.eqF d' d || inD d ds)
    rw [ih, r.eqF h g.1 f]
end
section
variable {X : Cx} {cl : Str → Value} {E : XK}
theorem in_of {neg : Bool} {x y : V} {H : Hp} {Q : VK} (h : rD2 (wt X cl E) (opIn neg) x y H Q) : rIn X.K neg x y H Q := by
  obtain ⟨ρ, S, d, e, R, r1, r2, P⟩ := h
  unfold opIn at P
  split at P
  · rename_i ys hi
    split at P
    · rename_i hc
      rw [Bool.and_eq_true] at hc
      obtain ⟨a, us, rfl, sq, vs⟩ := r2.seqI R hi
      refine ⟨a, us, rfl, sq, r1.flat hc.1, vs.flat hc.2, ?_⟩
      rw [DvAll.inV r1 hc.1 vs hc.2]
      exact P.now R (.bl _)
    · exact P.elim
  · exact P.elim
theorem od_in : OpD X (wt X cl E) (compareOp .In) (opIn false) := OpR.imp op_in_seq fun _ _ _ _ q => in_of q
theorem od_notIn : OpD X (wt X cl E) (compareOp .NotIn) (opIn true) := OpR.imp op_notIn_seq fun _ _ _ _ q => in_of q
end

/-! ### subscripts, slices -/
def opIx (x y : D) (S : Sto) : Res D := match y with
  | .int i => match items S x with
    | some ds => match atI ds i with
      | some d => .ok d S
      | none => .bad
    | none => .bad
  | _ => .bad
theorem atI_dv {K : PySem.W.Frag} {ρ : List Addr} {H : Hp} {vs : List V} {ds : List D} {i : Int} {d : D} (h : DvAll K ρ H vs ds) (e : atI ds i = some d) : ∃ v, atI vs i = some v ∧ Dv K ρ H v d := by
  unfold atI at e ⊢
  rw [h.length]
  cases q : ixN ds.length i with
  | none => rw [q] at e; cases e
  | some j =>
    rw [q] at e
    exact h.get e
section
variable {X : Cx} {W : Wt} {cl : Str → Value} {E : XK} {a b : Expr} {da db : DE} {pos : Pos}
theorem ix_D : IxR X (rD2 (wt X cl E) opIx) := by
  intro value slice pins s σ H x y v u Q I rx ry q hs
  refine IxR.or ix_list ix_tup value slice pins s σ H x y v u Q I rx ry ?_ hs
  obtain ⟨ρ, S, d, e, R, r1, r2, P⟩ := q
  unfold opIx at P
  split at P
  · rename_i i
    split at P
    · rename_i ds hi
      split at P
      · rename_i z hz
        obtain ⟨p, us, rfl, sq, vs⟩ := r1.seqI R hi
        obtain ⟨w, h1, h2⟩ := atI_dv vs hz
        rcases sq with sq | sq
        · exact .inl ⟨p, us, i, w, rfl, r2.intI, sq, h1, P.now R h2⟩
        · exact .inr ⟨p, us, i, w, rfl, r2.intI, sq, h1, P.now R h2⟩
      · exact P.elim
    · exact P.elim
  · exact P.elim
theorem se_ix (ha : SE X (wt X cl E) a da) (hb : SE X (wt X cl E) b db) (hs : PlainIx b := by exact fun _ _ => rfl) : SE X (wt X cl E) (.Subscript a b pos) (dBin opIx da db) := pe_imp (pe_ix ix_D ha hb hs) fun _ _ _ h => tOp_of h
end
def cutD (xs : List D) (lo hi : Option Int) : List D := (xs.drop (HT.sIx xs.length 0 lo)).take (HT.sIx xs.length xs.length hi - HT.sIx xs.length 0 lo)
def opSl (x : D) (lo hi : Option Int) (S : Sto) : Res D := match x with
  | .tup xs => .ok (.tup (cutD xs lo hi)) S
  | .ro xs => .ok (.cell S.length) (S ++ [.lst (cutD xs lo hi)])
  | .cell n => match S[n]? with
    | some (.lst xs) => .ok (.cell S.length) (S ++ [.lst (cutD xs lo hi)])
    | _ => .bad
  | _ => .bad
def dNoPart : DO := fun _ S => .ok none S
def dPart (a : DE) : DO := fun δ S => (a δ S).bnd fun d S1 => match d with
  | .int i => .ok (some i) S1
  | _ => .bad
def dSl (a : DE) (lo hi : DO) : DE := fun δ S => (a δ S).bnd fun x S1 => (lo δ S1).bnd fun l S2 => (hi δ S2).bnd fun h S3 => opSl x l h S3
theorem cut_dv {K : PySem.W.Frag} {ρ : List Addr} {H : Hp} {vs : List V} {ds : List D} (lo hi : Option Int) (h : DvAll K ρ H vs ds) : DvAll K ρ H (cutV vs lo hi) (cutD ds lo hi) := by
  unfold cutV cutD
  rw [h.length]
  exact (h.drop _).take _
theorem cut_whole {α : Type} (xs : List α) {lo hi : Option Int} (h : HT.sIx xs.length 0 lo = 0 ∧ HT.sIx xs.length xs.length hi = xs.length) : (xs.drop (HT.sIx xs.length 0 lo)).take (HT.sIx xs.length xs.length hi - HT.sIx xs.length 0 lo) = xs := by
  rw [h.1, h.2, List.drop_zero, Nat.sub_zero, List.take_length]
section
variable {X : Cx} {W : Wt} {cl : Str → Value} {E : XK} {a : Expr} {da : DE} {pos p2 : Pos}
theorem so_none : PO X none (tOp' W dNoPart) := po_imp po_none fun σ H Q ⟨ρ, δ, S, R, N, P⟩ => Post.now (Rl := rlO) P R rfl
theorem so_some (h : SE X W a da) : PO X (some a) (tOp' W (dPart da)) := po_imp (po_some h) fun σ H Q h => tG.step h fun ρ δ ρ1 S1 H1 v d N e R r P => by
  cases r with
  | int i => exact ⟨i, rfl, Post.now (Rl := rlO) P R rfl⟩
  | _ => exact P.elim
theorem sl_D : SlR X (fun x lo hi H Q => ∃ ρ S d, Rep X.K ρ H S ∧ Dv X.K ρ H x d ∧ Post (wt X cl E) (Dv X.K) ρ H (opSl d lo hi S) Q) := by
  intro pins s σ H x v vl vu lo hi sl Q I rx hs pl pu q
  refine SlR.or sl_tupA sl_list pins s σ H x v vl vu lo hi sl Q I rx hs pl pu ?_
  obtain ⟨ρ, S, d, R, r, P⟩ := q
  unfold opSl at P
  have fresh : ∀ (us : List V) (ds : List D), DvAll X.K ρ H us ds → Post (wt X cl E) (Dv X.K) ρ H (.ok (.cell S.length) (S ++ [.lst (cutD ds lo hi)])) Q → ∀ p, H p = none → Q (.ref p) (upd H p (.lst (cutV us lo hi))) := fun us ds vs P p hp => by
    refine P (ρ ++ [p]) _ _ (Ext.newC hp) (R.newC hp ⟨_, upd_same, (cut_dv lo hi vs).mono (Ext.newC hp)⟩) (.cell ?_)
    rw [← R.len, List.getElem?_append_right (Nat.le_refl _), Nat.sub_self]
    rfl
  split at P
  · rename_i ds
    obtain ⟨p, us, rfl, sq, vs⟩ := r.tupI
    refine .inl ⟨p, us, rfl, sq, fun hw => ?_, fun _ p hp => ?_⟩
    · have e : cutD ds lo hi = ds := cut_whole ds (by rw [← vs.length]; exact hw)
      rw [e] at P
      exact P.now R r
    · exact P ρ _ _ (Ext.new hp) (R.new hp) (.tup (.inl (.inl upd_same)) ((cut_dv lo hi vs).mono (Ext.new hp)))
  · rename_i ds
    cases r with
    | ro sq f vs => exact .inr ⟨_, _, rfl, sq, fresh _ _ vs P⟩
  · rename_i n
    split at P
    · rename_i ds h1
      obtain ⟨p, rfl, q1⟩ := r.cellI
      obtain ⟨us, g1, vs⟩ := R.lst q1 h1
      exact .inr ⟨p, us, rfl, SqL.of g1, fresh _ _ vs P⟩
    · exact P.elim
  · exact P.elim
theorem se_sl {lo hi : Option Expr} {dl dh : DO} (ha : SE X (wt X cl E) a da) (hl : PO X lo (tOp' (wt X cl E) dl)) (hh : PO X hi (tOp' (wt X cl E) dh)) : SE X (wt X cl E) (.Subscript a (.Slice lo hi none p2) pos) (dSl da dl dh) :=
  pe_imp (pe_slice (sl_D (cl := cl) (E := E)) ha hl hh) fun σ H Q h => tG.step h fun ρ δ ρ1 S1 H1 v d N e R r P => ⟨ρ1, δ, S1, R, N, (Post.bnd P).imp fun l H2 ⟨ρ2, S2, d2, e2, R2, r2, P2⟩ => ⟨ρ2, δ, S2, R2, N.mono e2, (Post.bnd P2).imp fun h H3 ⟨ρ3, S3, d3, e3, R3, r3, P3⟩ => by
    have r2' : l = d2 := r2
    have r3' : h = d3 := r3
    rw [r2', r3']
    exact ⟨ρ3, S3, d, R3, (r.mono e2).mono e3, P3⟩⟩⟩
end
end Dn
set_option Elab.async false
set_option linter.all false
set_option maxRecDepth 100000
set_option maxHeartbeats 1000000
/-! DnE: enumerate(t), t a tuple. -/
noncomputable section
namespace Dn
open PySem PySem.Spec PyProof.Rows L2
theorem enum_new1 {v : Value} {o : Obj} {G : Heap → Prop} (B : Begins v o G) :
    Meets (Builtin.«enumerate.__new__» ⟨[.type "enumerate", v], []⟩) (fun _ R s => G s.heap ∧
      R (.ok (.ret (.ref (s.heap.push o).objs.size))) { s with heap := (s.heap.push o).push { cls := .type "enumerate", data := .fields #[.none, .bool false, .ref s.heap.objs.size, rawInt 0, .none, .none] } }) :=
  .of_wp fun prog w A R s h => by
    obtain ⟨hp, g, d, tk, os⟩ := s
    obtain ⟨h1, h⟩ := h
    have hsub := sub_enumerate
    have made : ∀ {A' : Around} {E : Value → Shared → Prop} {Q : Value → Shared → Prop}, Q (.ref hp.objs.size) ⟨hp.push o, g, d, tk, os⟩ → wpAny (model prog w) A' (pyIter v) Q E ⟨hp, g, d, tk, os⟩ :=
      fun q => B.iter prog w _ _ ⟨hp, g, d, tk, os⟩ _ h1 q
    wp_walk using made
    refine wpAny_stack_any fun st => wpAny_pure ?_
    split
    · rename_i c _ _ _ _ _
      cases (c == Value.type "enumerate") <;>
        (wp_walk using made
         exact ⟨_, rfl, h⟩)
    · wp_walk using made
      exact ⟨_, rfl, h⟩
section
variable {prog : Program} {w : World} {A : Around} {E : Value → Shared → Prop} {s : Shared}
theorem call_enum1 {v : Value} {o : Obj} {G : Heap → Prop} {Q : Value → Shared → Prop} (B : Begins v o G) (h1 : G s.heap)
    (h : ∀ h', IsEnum h' (s.heap.objs.size + 1) s.heap.objs.size 0 .none → h'.get? s.heap.objs.size = some o → h'.objs.size = s.heap.objs.size + 2 → (∀ b u, s.heap.get? b = some u → h'.get? b = some u) → Q (.ref (s.heap.objs.size + 1)) { s with heap := h' }) :
    wpAny (model prog w) A (call (.type "enumerate") [v]) Q E s := by
  have z1 : (s.heap.push o).objs.size = s.heap.objs.size + 1 := Heap.size_push ..
  refine callType_new F.called_enumerate (by decide) (F.typeCall_enumerate_1 _) (F.newCall_enumerate_1 _) (fun obj => F.args_object_init_2 obj _) F.entry_enumerate_new (enum_new1 B) ⟨h1, ?_⟩
  have there : IsEnum ((s.heap.push o).push { cls := .type "enumerate", data := .fields #[.none, .bool false, .ref s.heap.objs.size, rawInt 0, .none, .none] }) (s.heap.objs.size + 1) s.heap.objs.size 0 .none := by
    have q := Heap.get?_push_size (s.heap.push o) (o := { cls := .type "enumerate", data := .fields #[.none, .bool false, .ref s.heap.objs.size, rawInt 0, .none, .none] }) rfl
    rw [z1] at q
    exact q
  show _ ∧ _
  rw [z1]
  exact ⟨⟨_, there, rfl⟩, h _ there (Heap.get?_push_of_some _ (Heap.get?_push_size _ B.free)) (by rw [Heap.size_push, z1]) fun b u x => Heap.get?_push_of_some _ (Heap.get?_push_of_some _ x)⟩
end
/-- the tuple at a, its items in new pairs with their numbers -/
def ItU (K : PySem.W.Frag) (a : Addr) : It where
  go := fun i H => ∃ (xs : List V) (x : V), SqT K H a xs ∧ xs[i]? = some x
  yld := fun i H v H' => ∃ T x, v = .ref T ∧ H T = none ∧ H' = upd H T (.tup [.int (i : Nat), x]) ∧ ∀ xs, SqT K H a xs → xs[i]? = some x
  stop := fun i H => ∃ xs : List V, SqT K H a xs ∧ xs.length ≤ i
theorem turn_enumU {P : Program} {w : World} {K : PySem.W.Frag} {elts : List Expr} {kk : Nat} {tpos : Pos} (a e it : Addr) :
    Turn P w K (.Tuple elts kk tpos) (ItU K a) [e, it] e (fun i h => (∃ old, IsEnum h e it ((i : Nat) : Int) old) ∧ h.IsTupleIter it a i ∧ e ≠ it ∧ a ≠ it ∧ a ≠ e) where
  mem := by simp
  obj := fun i h ⟨⟨old, he⟩, ⟨o, ho, hc, hd⟩, _⟩ b hb => by
    rcases List.mem_cons.mp hb with z | z
    · exact z ▸ ⟨_, he, fun v q => nomatch q⟩
    · rw [List.mem_singleton.mp z]
      exact ⟨o, ho, fun v q => by
        rw [hd] at q
        cases q⟩
  keep := fun i h h' ⟨⟨old, he⟩, hi, hne⟩ k => ⟨⟨old, k e (by simp) _ he⟩, hi.at fun o q => k it (by simp) o q, hne⟩
  item := by
    intro X hP hw hK hc i pins s σ H E I hf ⟨⟨old, he⟩, hit, hne, hai, hae⟩ ⟨xs, x, hq, hx⟩
    subst hP
    subst hw
    subst hK
    obtain ⟨its, rv, p, hz⟩ := I.tuple hq
    obtain ⟨u, hu, ru⟩ := rv.get hx
    have hel : e < s.heap.objs.size := Heap.lt_size he
    have hil : it < s.heap.objs.size := let ⟨_, q, _⟩ := hit; Heap.lt_size q
    have hlt : i < its.toArray.size := by
      rw [List.size_toArray]
      exact (List.getElem?_eq_some_iff.mp hu).1
    have D := Draws.tuple (prog := X.prog) (w := X.w) (A := X.A.in1) (I.ok.hd hc) it a hai its.toArray
    refine wpAny_pyNext_enum_itemD D he ⟨hit, p⟩ hlt hne (by simp [hne, Ne.symm hae]) fun y h' tk hy ho hst hT hsz hk => ?_
    obtain rfl : u = y := by
      have hy' : its[i]? = some y := by simpa using hy
      rw [hu] at hy'
      exact Option.some.inj hy'
    refine ⟨_, rfl, wpAny_letOwnedTupleGo_enum (s := { s with heap := h', toks := tk + 1 }) ho fun h2 he2 sb => ?_⟩
    have hT2 : h2.get? s.heap.objs.size = some { cls := .type "tuple", data := .seq #[.int i tk, u] } := (sb.2 _ (Nat.ne_of_gt hel)).trans hT
    have new : ObjOk X.prog X.w (upd H s.heap.objs.size (.tup [.int (i : Nat), x])) h2 s.heap.objs.size (.tup [.int (i : Nat), x]) :=
      ⟨by show 2 ≤ sizeLine; decide, [.int i tk, u], .cons ⟨_, rfl⟩ (.cons ru .nil), ⟨_, hT2, rfl, _, rfl⟩⟩
    have kept : ∀ b ob, b ∉ [e, it] → s.heap.get? b = some ob → h2.get? b = some ob := fun b ob hb q =>
      (sb.2 b fun z => hb (by simp [z])).trans (hk b ob (fun z => hb (by simp [z])) (fun z => hb (by simp [z])) q)
    have I1 : Inv X pins σ (upd H s.heap.objs.size (.tup [.int (i : Nat), x])) { s with heap := h2, toks := tk + 1 } := I.turnedNew (ch := [e, it]) kept hf (Nat.le_refl _) new
    have nxt : ((i + 1 : Nat) : Int) = (i : Int) + 1 := by omega
    refine ⟨.ref s.heap.objs.size, _, I1, rfl, ⟨_, x, rfl, I.hok.fresh (Nat.le_refl _), rfl, fun ys hy => by rw [I.tuple_inj hy hq]; exact hx⟩, ⟨⟨u, by rw [nxt]; exact he2⟩, hst.1.at fun o q => (sb.2 it (Ne.symm hne)).trans q, hne, hai, hae⟩, fun b hb => ?_⟩
    have hb' : b < s.heap.objs.size := by
      rcases List.mem_cons.mp hb with z | z
      · exact z ▸ hel
      · rw [List.mem_singleton.mp z]
        exact hil
    rw [upd_ne (Nat.ne_of_lt hb')]
    exact (hf b hb).1
  done := by
    intro X hP hw hK hc i pins s σ H E I hf ⟨⟨old, he⟩, hit, hne, hai, hae⟩ ⟨xs, hq, hx⟩
    subst hP
    subst hw
    subst hK
    obtain ⟨its, rv, p, hz⟩ := I.tuple hq
    obtain ⟨f0, f1, f2, f3, f4, f5⟩ := hf it (by simp)
    have hl := rv.length
    unfold pyNext
    refine wpAny_bind (wpAny_attempt (wpAny_callSpecial?_slot (name := Str.ofString "__next__") (show s.TypeIs (.ref e) "enumerate" from ⟨_, he, rfl⟩) F.slot_enumerate_next
      (wpAny_call_entry F.slot_enumerate_next (show s.TypeIs (.ref e) "enumerate" from ⟨_, he, rfl⟩) F.entry_enumerate_next ?_ (F.args_enumerate_next_1 _))))
    show wpAny _ _ (field (.ref e) 2 >>= _) _ _ _
    refine wpAny_bind (wpAny_field he rfl (x := .ref it) rfl ?_)
    refine wpAny_bind (wpAny_nextOf_tuple_end (I.ok.hd hc) hit p (by simp; omega) fun h' x eb hx' => ?_)
    obtain ⟨o, ho, hcl⟩ := hx'
    exact wpAny_bind (wpAny_isInstance (T := "StopIteration") (b := true) ⟨o, ho, hcl⟩ isSubtype_stop (wpAny_pure ⟨rfl, I.turned (t' := s.toks) (fun b u hb q => eb b u hb q) f0 f1 f3 f4 f5⟩))
  self := fun A i s Q E ⟨⟨_, he⟩, _⟩ h => wpAny_pyIter_enum he h
def iEnumT (K : PySem.W.Frag) (ta : TA) : TI := fun σ H R => ta σ H fun vs H1 => ∃ a xs, vs = [.ref a] ∧ SqT K H1 a xs ∧ R (ItU K a) H1
theorem pi_enumT {X : Cx} {e : Expr} {ta : TA} {p pos tpos : Pos} {elts : List Expr} {kk : Nat} (hg : Gl X "enumerate") (hm : X.mg "enumerate" = none) (ha : PA X [e] ta) (hs : starEach [e] X.env = [(false, eval e X.env)] := by rfl) :
    PI X (.Tuple elts kk tpos) (.Call (.Name "enumerate" p) [e] [] pos) (iEnumT X.K ta) := by
  refine ⟨fun pins s σ H R I h => ?_⟩
  refine Call_ (ld_blt I hg hm boot_enumerate (PyProof.Rows.callWith_type1 (thn (ha.run pos pins s σ H _ I h) fun us s1 ⟨vs, H1, I1, r1, a, xs, ex, hq, q⟩ => ?_) hs rfl))
  subst ex
  cases r1 with
  | cons r rr =>
    cases rr
    cases r
    obtain ⟨its, rv, pt, hz⟩ := I1.tuple hq
    have hal : a < s1.heap.objs.size := by
      obtain ⟨o, ho, _⟩ := pt
      exact Heap.lt_size ho
    refine call_enum1 (begins_tuple a its.toArray) pt fun h' he hit hsz hk => wpAny_pyIter_enum he ?_
    have I2 : Inv X pins σ H1 { s1 with heap := h' } := I1.kept (t' := s1.toks) hk
    have own : ∀ b ∈ [s1.heap.objs.size + 1, s1.heap.objs.size], s1.heap.objs.size ≤ b := fun b hb => by
      rcases List.mem_cons.mp hb with z | z
      · exact z ▸ Nat.le_add_right _ _
      · rw [List.mem_singleton.mp z]
        exact Nat.le_refl _
    exact ⟨s1.heap.objs.size + 1, [s1.heap.objs.size + 1, s1.heap.objs.size], _, _, H1, rfl, I2, turn_enumU a (s1.heap.objs.size + 1) s1.heap.objs.size,
      ⟨⟨.none, he⟩, ⟨_, hit, rfl, rfl⟩, Nat.succ_ne_self _, Nat.ne_of_lt hal, Nat.ne_of_lt (Nat.lt_succ_of_lt hal)⟩, fun b hb => I1.fpOk (own b hb) (I1.hok.fresh (own b hb)), q⟩
end Dn
set_option Elab.async false
set_option linter.all false
set_option maxRecDepth 100000
set_option maxHeartbeats 1000000
/-! Dn3: targets, statements, loops, comprehensions, functions. -/
noncomputable section
namespace Dn
open PySem PySem.Spec PyProof.Rows L2

/-! ### targets -/
inductive Tg where
  | nm (i : Nat) | tp (ts : List Tg)
mutual
def Tg.set : Tg → D → En → Option En
  | .nm i, d, δ => some (δ.set i (some d))
  | .tp ts, d, δ => match d with
    | .tup ds => Tg.setAll ts ds δ
    | _ => none
def Tg.setAll : List Tg → List D → En → Option En
  | [], [], δ => some δ
  | t :: ts, d :: ds, δ => match t.set d δ with
    | some δ' => Tg.setAll ts ds δ'
    | none => none
  | _, _, _ => none
end
mutual
def Tg.slots : Tg → List Nat
  | .nm i => [i]
  | .tp ts => Tg.slotsAll ts
def Tg.slotsAll : List Tg → List Nat
  | [] => []
  | t :: ts => t.slots ++ Tg.slotsAll ts
end
structure Off (vs : List Nat) (σ σ' : L2.St) : Prop where
  len : σ'.length = σ.length
  at' : ∀ i, i ∉ vs → σ'[i]? = σ[i]?
theorem Off.trans {vs ws us : List Nat} {σ σ1 σ2 : L2.St} (a : Off vs σ σ1) (b : Off ws σ1 σ2) (h1 : ∀ i ∈ vs, i ∈ us) (h2 : ∀ i ∈ ws, i ∈ us) : Off us σ σ2 :=
  ⟨b.len.trans a.len, fun i hi => (b.at' i fun z => hi (h2 i z)).trans (a.at' i fun z => hi (h1 i z))⟩
def gD (K : PySem.W.Frag) (g : Tg) : TG := fun v σ H Q => ∃ ρ δ d δ', EnvR K ρ H σ δ ∧ Dv K ρ H v d ∧ g.set d δ = some δ' ∧ ∀ σ', EnvR K ρ H σ' δ' → Off g.slots σ σ' → Q σ' H
def gsD (K : PySem.W.Frag) (gs : List Tg) : TGs := fun vs σ H Q => ∃ ρ δ ds δ', EnvR K ρ H σ δ ∧ DvAll K ρ H vs ds ∧ Tg.setAll gs ds δ = some δ' ∧ ∀ σ', EnvR K ρ H σ' δ' → Off (Tg.slotsAll gs) σ σ' → Q σ' H
theorem pg_imp {X : Cx} {e : Expr} {t t' : TG} (h : PG X e t) (i : ∀ v σ H Q, t' v σ H Q → t v σ H Q) : PG X e t' := by
  obtain ⟨h1⟩ := h
  exact ⟨by intros; apply h1 <;> first | assumption | (apply i; assumption)⟩
theorem pgs_imp {X : Cx} {e : List Expr} {t t' : TGs} (h : PGs X e t) (i : ∀ v σ H Q, t' v σ H Q → t v σ H Q) : PGs X e t' := by
  obtain ⟨h1⟩ := h
  exact ⟨by intros; apply h1 <;> first | assumption | (apply i; assumption)⟩

section
variable {X : Cx} {pos : Pos}
theorem sg_name {i : Nat} {x : Str} (hN : X.N.Nodup) (hi : X.N[i]? = some x) (hx : Loc X.env.scope x) (hf : X.fn x = true ∨ X.env.scope.names.lookup x = some .local := by first | exact .inl rfl | exact .inr rfl | assumption) : PG X (.Name x pos) (gD X.K (.nm i)) :=
  pg_imp (pg_name hN hi hx hf) fun v σ H Q ⟨ρ, δ, d, δ', N, r, e, k⟩ => by
    cases e
    refine k _ (N.set i r) ⟨List.length_set, fun j hj => ?_⟩
    exact List.getElem?_set_ne fun z => hj (by rw [z]; exact List.mem_singleton.mpr rfl)
theorem sgs_nil : PGs X [] (gsD X.K []) :=
  pgs_imp pgs_nil fun vs σ H Q ⟨ρ, δ, ds, δ', N, r, e, k⟩ => by
    cases r with
    | nil =>
      cases e
      exact ⟨rfl, k σ N ⟨rfl, fun _ _ => rfl⟩⟩
    | cons a b => cases e
theorem sgs_cons {e : Expr} {es : List Expr} {g : Tg} {gs : List Tg} (h1 : PG X e (gD X.K g)) (h2 : PGs X es (gsD X.K gs))
    (hs : (assignEach (e :: es) X.env).map (·.2) = assign e X.env :: (assignEach es X.env).map (·.2) := by rfl) : PGs X (e :: es) (gsD X.K (g :: gs)) :=
  pgs_imp (pgs_cons h1 h2 hs) fun vs σ H Q ⟨ρ, δ, ds, δ', N, r, e, k⟩ => by
    cases r with
    | nil => cases e
    | cons a b =>
      unfold Tg.setAll at e
      split at e
      · rename_i δ1 h
        refine ⟨_, _, rfl, ρ, δ, _, δ1, N, a, h, fun σ1 N1 o1 => ⟨ρ, δ1, _, δ', N1, b, e, fun σ2 N2 o2 => k σ2 N2 (o1.trans o2 ?_ ?_)⟩⟩
        · intro i hi
          exact List.mem_append_left _ hi
        · intro i hi
          exact List.mem_append_right _ hi
      · cases e
theorem sg_tup {es : List Expr} {k : Nat} {gs : List Tg} (hc : X.calm = true) (h : PGs X es (gsD X.K gs)) (hl : gs.length = es.length := by rfl)
    (hn : (assignEach es X.env).length = es.length := by rfl) (hst : (assignEach es X.env).findIdx? (·.1) = none := by rfl) : PG X (.Tuple es k pos) (gD X.K (.tp gs)) :=
  pg_imp (pg_tup hc h hn hst) fun v σ H Q ⟨ρ, δ, d, δ', N, r, e, k⟩ => by
    unfold Tg.set at e
    split at e
    · rename_i ds
      obtain ⟨a, xs, rfl, sq, vs⟩ := r.tupI
      have len : ∀ (gs : List Tg) (ds : List D) (δ δ' : En), Tg.setAll gs ds δ = some δ' → ds.length = gs.length := by
        intro gs
        induction gs with
        | nil =>
          intro ds δ δ' e
          cases ds with
          | nil => rfl
          | cons a b => cases e
        | cons g gs ih =>
          intro ds δ δ' e
          cases ds with
          | nil => cases e
          | cons a b =>
            unfold Tg.setAll at e
            split at e
            · exact congrArg Nat.succ (ih b _ _ e)
            · cases e
      refine ⟨a, xs, rfl, sq, ?_, ρ, δ, ds, δ', N, vs, e, k⟩
      rw [vs.length, len gs ds δ δ' e, hl]
    · cases e
end

/-! ### how statements end -/
def PostS (W : Wt) (ρ : List Addr) (H : Hp) (o : Out) (D : Ends) : Prop := match o with
  | .nx δ S => ∀ ρ' H' σ', Ext ρ H ρ' H' → Rep W.K ρ' H' S → EnvR W.K ρ' H' σ' δ → D.nx σ' H'
  | .bk δ S => ∀ ρ' H' σ', Ext ρ H ρ' H' → Rep W.K ρ' H' S → EnvR W.K ρ' H' σ' δ → D.bk σ' H'
  | .ct δ S => ∀ ρ' H' σ', Ext ρ H ρ' H' → Rep W.K ρ' H' S → EnvR W.K ρ' H' σ' δ → D.ct σ' H'
  | .rt d S => ∀ ρ' H' v, Ext ρ H ρ' H' → Rep W.K ρ' H' S → Dv W.K ρ' H' v d → D.rt v H'
  | .exc c S => ∀ ρ' H', Ext ρ H ρ' H' → Rep W.K ρ' H' S → W.E (W.cl c) none H'
  | .bad => False
theorem PostS.base {W : Wt} {ρ ρ' : List Addr} {H H' : Hp} {o : Out} {D : Ends} (e : Ext ρ H ρ' H') (h : PostS W ρ H o D) : PostS W ρ' H' o D := by
  cases o with
  | nx δ S => exact fun ρ2 H2 σ2 e2 => h ρ2 H2 σ2 (e.trans e2)
  | bk δ S => exact fun ρ2 H2 σ2 e2 => h ρ2 H2 σ2 (e.trans e2)
  | ct δ S => exact fun ρ2 H2 σ2 e2 => h ρ2 H2 σ2 (e.trans e2)
  | rt d S => exact fun ρ2 H2 v e2 => h ρ2 H2 v (e.trans e2)
  | exc c S => exact fun ρ2 H2 e2 => h ρ2 H2 (e.trans e2)
  | bad => exact h
/-- a statement's reading -/
def tS (W : Wt) (ds : DS) : TS := fun D σ H => ∃ ρ δ S, Rep W.K ρ H S ∧ EnvR W.K ρ H σ δ ∧ PostS W ρ H (ds δ S) D
abbrev SS (X : Cx) (W : Wt) (st : Stmt) (ds : DS) : Prop := PS X st (tS W ds)
abbrev SB (X : Cx) (W : Wt) (st : List Stmt) (ds : DS) : Prop := PSs X st (tS W ds)
theorem ps_imp {X : Cx} {st : Stmt} {t t' : TS} (h : PS X st t) (i : ∀ D σ H, t' D σ H → t D σ H) : PS X st t' := ⟨fun pins s σ H D I q => h.run pins s σ H D I (i D σ H q)⟩
theorem pss_imp {X : Cx} {st : List Stmt} {t t' : TS} (h : PSs X st t) (i : ∀ D σ H, t' D σ H → t D σ H) : PSs X st t' := ⟨fun pins s σ H D I q => h.run pins s σ H D I (i D σ H q)⟩
def andThen (o : Out) (k : DS) : Out := match o with
  | .nx δ S => k δ S
  | .bk δ S => .bk δ S
  | .ct δ S => .ct δ S
  | .rt d S => .rt d S
  | .exc c S => .exc c S
  | .bad => .bad
def dSkip : DS := fun δ S => .nx δ S
def dSeq (a b : DS) : DS := fun δ S => andThen (a δ S) b
/-- a result, then a statement -/
def thenS {α : Type} (r : Res α) (k : α → Sto → Out) : Out := match r with
  | .ok a S => k a S
  | .exc c S => .exc c S
  | .bad => .bad
def dDrop (e : DE) : DS := fun δ S => thenS (e δ S) fun _ S1 => .nx δ S1
def dRet (e : DE) : DS := fun δ S => thenS (e δ S) fun d S1 => .rt d S1
def dRetN : DS := fun _ S => .rt .non S
def dIfS (c : DT) (a b : DS) : DS := fun δ S => thenS (c δ S) fun k S1 => if k = true then a δ S1 else b δ S1
def dSet (i : Nat) (e : DE) : DS := fun δ S => thenS (e δ S) fun d S1 => .nx (δ.set i (some d)) S1
def dAsg (g : Tg) (e : DE) : DS := fun δ S => thenS (e δ S) fun d S1 => match g.set d δ with
  | some δ' => .nx δ' S1
  | none => .bad
def dBrk : DS := fun δ S => .bk δ S
def dCont : DS := fun δ S => .ct δ S
theorem PostS.res {α β : Type} {W : Wt} {Rl : List Addr → Hp → β → α → Prop} {ρ : List Addr} {H : Hp} {r : Res α} {k : α → Sto → Out} {D : Ends} {Q : β → Hp → Prop} (h : PostS W ρ H (thenS r k) D)
    (q : ∀ ρ1 H1 v d S1, Ext ρ H ρ1 H1 → Rep W.K ρ1 H1 S1 → Rl ρ1 H1 v d → PostS W ρ1 H1 (k d S1) D → Q v H1) : Post W Rl ρ H r Q := by
  cases r with
  | ok d S => exact fun ρ1 H1 v e R r => q ρ1 H1 v d S e R r (PostS.base e h)
  | exc c S => exact h
  | bad => exact h
section
variable {X : Cx} {W : Wt} {st : Stmt} {rest : List Stmt} {e : Expr} {pos : Pos} {a b : DS} {de : DE}
theorem sb_nil : SB X W [] dSkip := pss_imp pss_nil fun D σ H ⟨ρ, δ, S, R, N, P⟩ => P ρ H σ (Ext.refl ρ H) R N
theorem sb_cons (h1 : SS X W st a) (h2 : SB X W rest b) : SB X W (st :: rest) (dSeq a b) := pss_imp (pss_cons h1 h2) fun D σ H ⟨ρ, δ, S, R, N, P⟩ => by
  refine ⟨ρ, δ, S, R, N, ?_⟩
  unfold dSeq at P
  cases q : a δ S with
  | nx δ1 S1 =>
    rw [q] at P
    exact fun ρ1 H1 σ1 e1 R1 N1 => ⟨ρ1, δ1, S1, R1, N1, PostS.base e1 P⟩
  | bk δ1 S1 => rw [q] at P; exact P
  | ct δ1 S1 => rw [q] at P; exact P
  | rt δ1 S1 => rw [q] at P; exact P
  | exc δ1 S1 => rw [q] at P; exact P
  | bad => rw [q] at P; exact P
theorem sb_one (h1 : SS X W st a) : SB X W [st] a := pss_one h1
theorem ss_pass : SS X W (.Pass pos) dSkip := ps_imp ps_pass fun D σ H ⟨ρ, δ, S, R, N, P⟩ => P ρ H σ (Ext.refl ρ H) R N
theorem ss_break : SS X W (.Break pos) dBrk := ps_imp ps_break fun D σ H ⟨ρ, δ, S, R, N, P⟩ => P ρ H σ (Ext.refl ρ H) R N
theorem ss_continue : SS X W (.Continue pos) dCont := ps_imp ps_continue fun D σ H ⟨ρ, δ, S, R, N, P⟩ => P ρ H σ (Ext.refl ρ H) R N
theorem ss_expr (he : SE X W e de) (hs : swapsWith e none pos.line X.env = pure false := by rfl) : SS X W (.Expr e pos) (dDrop de) := ps_imp (ps_expr he hs) fun D σ H ⟨ρ, δ, S, R, N, P⟩ =>
  ⟨ρ, δ, S, R, N, PostS.res P fun ρ1 H1 v d S1 e1 R1 r1 P1 => P1 ρ1 H1 σ (Ext.refl ρ1 H1) R1 (N.mono e1)⟩
theorem ss_ret (he : SE X W e de) : SS X W (.Return (some e) pos) (dRet de) := ps_imp (ps_ret he) fun D σ H ⟨ρ, δ, S, R, N, P⟩ =>
  ⟨ρ, δ, S, R, N, PostS.res P fun ρ1 H1 v d S1 e1 R1 r1 P1 => P1 ρ1 H1 v (Ext.refl ρ1 H1) R1 r1⟩
theorem ss_retN : SS X W (.Return none pos) dRetN := ps_imp ps_retN fun D σ H ⟨ρ, δ, S, R, N, P⟩ => P ρ H .non (Ext.refl ρ H) R .non
theorem ss_if {c : Expr} {as bs : List Stmt} {dt : DT} (hc : ST X W c dt) (ha : SB X W as a) (hb : SB X W bs b) : SS X W (.If c as bs pos) (dIfS dt a b) := ps_imp (ps_if hc ha hb) fun D σ H ⟨ρ, δ, S, R, N, P⟩ =>
  ⟨ρ, δ, S, R, N, PostS.res P fun ρ1 H1 v d S1 e1 R1 r1 P1 => by
    have r1' : v = d := r1
    subst r1'
    cases v with
    | true =>
      show tS W a D σ H1
      exact ⟨ρ1, δ, S1, R1, N.mono e1, P1⟩
    | false =>
      show tS W b D σ H1
      exact ⟨ρ1, δ, S1, R1, N.mono e1, P1⟩⟩
theorem tSet_of {i : Nat} {D : Ends} {σ : L2.St} {H : Hp} (h : tS W (dSet i de) D σ H) : tAsg (tE W de) (gName i) D σ H := by
  obtain ⟨ρ, δ, S, R, N, P⟩ := h
  exact ⟨ρ, δ, S, R, N, PostS.res P fun ρ1 H1 v d S1 e1 R1 r1 P1 => P1 ρ1 H1 _ (Ext.refl ρ1 H1) R1 ((N.mono e1).set i r1)⟩
theorem ss_set {i : Nat} {x : Str} {pos' : Pos} (hN : X.N.Nodup) (hi : X.N[i]? = some x) (hx : Loc X.env.scope x) (he : SE X W e de) (hs : swapsWith e (some (.Name x pos')) pos.line X.env = pure false := by rfl)
    (hf : X.fn x = true ∨ X.env.scope.names.lookup x = some .local := by first | exact .inl rfl | exact .inr rfl | assumption) : SS X W (.Assign [.Name x pos'] e pos) (dSet i de) := ps_imp (ps_set hN hi hx he hs hf) fun D σ H h => tSet_of h
theorem ss_asg {tg : Expr} {g : Tg} (he : SE X W e de) (hg : PG X tg (gD X.K g)) (hW : W.K = X.K := by rfl) (hs : swapsWithSole [tg] e pos.line X.env = pure false := by rfl) (hw : swappedStores [tg] e X.env = pure none := by rfl)
    (h1 : (assignEach [tg] X.env).map (·.2) = [assign tg X.env] := by rfl) : SS X W (.Assign [tg] e pos) (dAsg g de) := ps_imp (ps_asg he hg hs hw h1) fun D σ H ⟨ρ, δ, S, R, N, P⟩ =>
  ⟨ρ, δ, S, R, N, PostS.res P fun ρ1 H1 v d S1 e1 R1 r1 P1 => by
    split at P1
    · rename_i δ' hδ
      rw [← hW]
      exact ⟨ρ1, δ, d, δ', N.mono e1, r1, hδ, fun σ' N' o' => P1 ρ1 H1 σ' (Ext.refl ρ1 H1) R1 N'⟩
    · exact P1.elim⟩
end
/-- a, b = e, f without a tuple; a, b, c = e, f, g -/
def dPar (is : List Nat) (as : DA) : DS := fun δ S => thenS (as δ S) fun ds S1 => match Tg.setAll (is.map .nm) ds δ with
  | some δ' => .nx δ' S1
  | none => .bad
section
variable {X : Cx} {W : Wt} {da : DA} {pos : Pos}
theorem ss_par {i j : Nat} {x y : Str} {a b : Expr} {px py pt : Pos} {kt k2 pt2} (hc : X.calm = true) (hN : X.N.Nodup) (hi : X.N[i]? = some x) (hj : X.N[j]? = some y) (hij : i ≠ j)
    (hx : X.env.scope.names.lookup x = some .local) (hy : X.env.scope.names.lookup y = some .local) (ha : SA X W [a, b] da)
    (hw : swappedStores [.Tuple [.Name x px, .Name y py] kt pt] (.Tuple [a, b] k2 pt2) X.env = pure (some [x, y]))
    (hs : swapsWithSole [.Tuple [.Name x px, .Name y py] kt pt] (.Tuple [a, b] k2 pt2) pos.line X.env = pure false := by rfl) :
    SS X W (.Assign [.Tuple [.Name x px, .Name y py] kt pt] (.Tuple [a, b] k2 pt2) pos) (dPar [i, j] da) := ps_imp (ps_par hc hN hi hj hij hx hy ha hw hs) fun D σ H ⟨ρ, δ, S, R, N, P⟩ =>
  ⟨ρ, δ, S, R, N, PostS.res P fun ρ1 H1 v d S1 e1 R1 r1 P1 => by
    cases r1 with
    | nil => exact P1.elim
    | cons r1 r2 =>
      cases r2 with
      | nil => exact P1.elim
      | cons r2 r3 =>
        cases r3 with
        | cons _ _ => exact P1.elim
        | nil => exact ⟨_, _, rfl, P1 ρ1 H1 _ (Ext.refl ρ1 H1) R1 (((N.mono e1).set i r1).set j r2)⟩⟩
theorem ss_par3 {i j l : Nat} {x y z : Str} {a b c : Expr} {px py pz pt : Pos} {kt k2 pt2} (hc : X.calm = true) (hN : X.N.Nodup) (hi : X.N[i]? = some x) (hj : X.N[j]? = some y) (hl : X.N[l]? = some z) (hij : i ≠ j) (hil : i ≠ l) (hjl : j ≠ l)
    (hx : X.env.scope.names.lookup x = some .local) (hy : X.env.scope.names.lookup y = some .local) (hz : X.env.scope.names.lookup z = some .local) (ha : SA X W [a, b, c] da)
    (hw : swappedStores [.Tuple [.Name x px, .Name y py, .Name z pz] kt pt] (.Tuple [a, b, c] k2 pt2) X.env = pure (some [x, y, z]))
    (hs : swapsWithSole [.Tuple [.Name x px, .Name y py, .Name z pz] kt pt] (.Tuple [a, b, c] k2 pt2) pos.line X.env = pure false := by rfl) :
    SS X W (.Assign [.Tuple [.Name x px, .Name y py, .Name z pz] kt pt] (.Tuple [a, b, c] k2 pt2) pos) (dPar [i, j, l] da) := ps_imp (ps_par3 hc hN hi hj hl hij hil hjl hx hy hz ha hw hs) fun D σ H ⟨ρ, δ, S, R, N, P⟩ =>
  ⟨ρ, δ, S, R, N, PostS.res P fun ρ1 H1 v d S1 e1 R1 r1 P1 => by
    cases r1 with
    | nil => exact P1.elim
    | cons r1 r2 =>
      cases r2 with
      | nil => exact P1.elim
      | cons r2 r3 =>
        cases r3 with
        | nil => exact P1.elim
        | cons r3 r4 =>
          cases r4 with
          | cons _ _ => exact P1.elim
          | nil => exact ⟨_, _, _, rfl, P1 ρ1 H1 _ (Ext.refl ρ1 H1) R1 ((((N.mono e1).set i r1).set j r2).set l r3)⟩⟩
end

/-! ### what is walked -/
inductive Src where
  | seq (d : D) | rng (lo hi : Int) | en (d : D)
def Src.len (S : Sto) : Src → Option Nat
  | .seq d => (items S d).map List.length
  | .rng lo hi => some (hi - lo).toNat
  | .en d => (items S d).map List.length
def Src.item (S : Sto) (i : Nat) : Src → Option D
  | .seq d => (items S d).bind (·[i]?)
  | .rng lo hi => if i < (hi - lo).toNat then some (.int (lo + i)) else none
  | .en d => (items S d).bind fun xs => xs[i]?.map fun x => .tup [.int i, x]
/-- the walk is that of the source, from here on -/
def SrcR (K : PySem.W.Frag) (ρ0 : List Addr) (H0 : Hp) (J : It) (s : Src) : Prop := ∀ ρ H S, Ext ρ0 H0 ρ H → Rep K ρ H S → ∀ n, s.len S = some n →
  (∀ i, i < n → J.go i H) ∧ (∀ i, n ≤ i → J.stop i H) ∧ ∀ i x H', i < n → J.yld i H x H' → ∃ d, s.item S i = some d ∧ Ext ρ H ρ H' ∧ Rep K ρ H' S ∧ Dv K ρ H' x d
abbrev DSrc := En → Sto → Res Src
def tSrc (W : Wt) (ds : DSrc) : TI := tG W (fun ρ H J s => SrcR W.K ρ H J s) ds
theorem pi_imp {X : Cx} {tg iter : Expr} {t t' : TI} (h : PI X tg iter t) (i : ∀ σ H R, t' σ H R → t σ H R) : PI X tg iter t' := ⟨fun pins s σ H R I q => h.run pins s σ H R I (i σ H R q)⟩
def isL (S : Sto) : D → Bool
  | .ro _ => true
  | .cell n => match S[n]? with
    | some (.lst _) => true
    | _ => false
  | _ => false
def isT : D → Bool
  | .tup _ => true
  | _ => false
def srcL (a : DE) : DSrc := fun δ S => (a δ S).bnd fun d S1 => if isL S1 d = true then .ok (.seq d) S1 else .bad
def srcT (a : DE) : DSrc := fun δ S => (a δ S).bnd fun d S1 => if isT d = true then .ok (.seq d) S1 else .bad
def enL (a : DA) : DSrc := fun δ S => (a δ S).bnd fun ds S1 => match ds with
  | [d] => if isL S1 d = true then .ok (.en d) S1 else .bad
  | _ => .bad
def enT (a : DA) : DSrc := fun δ S => (a δ S).bnd fun ds S1 => match ds with
  | [d] => if isT d = true then .ok (.en d) S1 else .bad
  | _ => .bad
def inRng (i : Int) : Bool := decide (-M62 ≤ i ∧ i < M62)
theorem inRng_bd {i : Int} (h : inRng i = true) : -(2 ^ 62) ≤ i ∧ i < 2 ^ 62 := by
  have h2 := of_decide_eq_true (p := -M62 ≤ i ∧ i < M62) h
  rw [M62_eq] at h2
  exact h2
def rng1 (a : DA) : DSrc := fun δ S => (a δ S).bnd fun ds S1 => match ds with
  | [.int j] => if inRng j = true then .ok (.rng 0 j) S1 else .bad
  | _ => .bad
def rng2 (a : DA) : DSrc := fun δ S => (a δ S).bnd fun ds S1 => match ds with
  | [.int i, .int j] => if (inRng i && inRng j) = true then .ok (.rng i j) S1 else .bad
  | _ => .bad
section
variable {K : PySem.W.Frag} {ρ : List Addr} {H : Hp} {S : Sto}
theorem isL_items {d : D} (h : isL S d = true) : ∃ ds, items S d = some ds := by
  unfold isL at h
  unfold items
  split at h
  · exact ⟨_, rfl⟩
  · dsimp only
    split at h
    · rename_i ds e
      exact ⟨ds, by first | rfl | rw [e]⟩
    · cases h
  · cases h
/-- a list value reads as a list, now and later -/
theorem Dv.listI (R : Rep K ρ H S) {v : V} {d : D} {ds : List D} (h : Dv K ρ H v d) (hl : isT d = false) (hi : items S d = some ds) : ∃ a xs, v = .ref a ∧ SqL K H a xs ∧ DvAll K ρ H xs ds := by
  cases h with
  | tup a b => cases hl
  | ro a f b => cases hi; exact ⟨_, _, rfl, a, b⟩
  | cell q =>
    obtain ⟨xs, h1, h2⟩ := R.lst q (items_cell hi)
    exact ⟨_, xs, rfl, SqL.of h1, h2⟩
  | _ => cases hi
theorem isL_not {d : D} (h : isL S d = true) : isT d = false := by
  cases d <;> first | rfl | cases h
theorem src_list {v : V} {d : D} {a : Addr} (hv : v = .ref a) (r : Dv K ρ H v d) (hl : isT d = false) : SrcR K ρ H (Itl K a) (.seq d) := fun ρ1 H1 S1 e R n hn => by
  obtain ⟨ds, hi, rfl⟩ := Option.map_eq_some_iff.mp (show (items S1 d).map List.length = some n from hn)
  obtain ⟨b, xs, hb, sq, vs⟩ := (r.mono e).listI R hl hi
  rw [hv] at hb
  cases hb
  refine ⟨fun i hi2 => ⟨xs, xs[i]'(by rw [vs.length]; exact hi2), sq, List.getElem?_eq_getElem _⟩, fun i hi2 => ⟨xs, sq, by rw [vs.length]; exact hi2⟩, fun i x H' hi2 y => ?_⟩
  obtain ⟨hH, hx⟩ := y
  obtain ⟨d', q1, q2⟩ := vs.getV (hx xs sq)
  refine ⟨d', ?_, by rw [hH]; exact Ext.refl _ _, by rw [hH]; exact R, by rw [hH]; exact q2⟩
  show (items S1 d).bind _ = _
  rw [hi]
  exact q1
theorem src_tup {v : V} {d : D} {a : Addr} (hv : v = .ref a) (r : Dv K ρ H v d) (hl : isT d = true) : SrcR K ρ H (Itt K a) (.seq d) := fun ρ1 H1 S1 e R n hn => by
  cases d with
  | tup ds =>
    obtain ⟨b, xs, hb, sq, vs⟩ := (r.mono e).tupI
    rw [hv] at hb
    cases hb
    have hn' : ds.length = n := Option.some.inj hn
    subst hn'
    refine ⟨fun i hi2 => ⟨xs, xs[i]'(by rw [vs.length]; exact hi2), sq, List.getElem?_eq_getElem _⟩, fun i hi2 => ⟨xs, sq, by rw [vs.length]; exact hi2⟩, fun i x H' hi2 y => ?_⟩
    obtain ⟨hH, hx⟩ := y
    obtain ⟨d', q1, q2⟩ := vs.getV (hx xs sq)
    exact ⟨d', q1, by rw [hH]; exact Ext.refl _ _, by rw [hH]; exact R, by rw [hH]; exact q2⟩
  | _ => cases hl
theorem pairD {R : Rep K ρ H S} {T : Addr} {i : Nat} {x : V} {d : D} (hT : H T = none) (r : Dv K ρ H x d) : Ext ρ H ρ (upd H T (.tup [.int i, x])) ∧ Rep K ρ (upd H T (.tup [.int i, x])) S ∧ Dv K ρ (upd H T (.tup [.int i, x])) (.ref T) (.tup [.int i, d]) :=
  ⟨Ext.new hT, R.new hT, .tup (.inl (.inl upd_same)) (.cons (.int _) (.cons (r.mono (Ext.new hT)) .nil))⟩
theorem src_enL {v : V} {d : D} {a : Addr} (hv : v = .ref a) (r : Dv K ρ H v d) (hl : isT d = false) : SrcR K ρ H (Ite K a) (.en d) := fun ρ1 H1 S1 e R n hn => by
  obtain ⟨ds, hi, rfl⟩ := Option.map_eq_some_iff.mp (show (items S1 d).map List.length = some n from hn)
  obtain ⟨b, xs, hb, sq, vs⟩ := (r.mono e).listI R hl hi
  rw [hv] at hb
  cases hb
  refine ⟨fun i hi2 => ⟨xs, xs[i]'(by rw [vs.length]; exact hi2), sq, List.getElem?_eq_getElem _⟩, fun i hi2 => ⟨xs, sq, by rw [vs.length]; exact hi2⟩, fun i x H' hi2 y => ?_⟩
  obtain ⟨T, z, rfl, hT, rfl, hx⟩ := y
  obtain ⟨d', q1, q2⟩ := vs.getV (hx xs sq)
  obtain ⟨k1, k2, k3⟩ := pairD (R := R) (i := i) hT q2
  refine ⟨.tup [.int i, d'], ?_, k1, k2, k3⟩
  show (items S1 d).bind _ = _
  rw [hi]
  show ds[i]?.map _ = _
  rw [q1]
  rfl
theorem src_enT {v : V} {d : D} {a : Addr} (hv : v = .ref a) (r : Dv K ρ H v d) (hl : isT d = true) : SrcR K ρ H (ItU K a) (.en d) := fun ρ1 H1 S1 e R n hn => by
  cases d with
  | tup ds =>
    obtain ⟨b, xs, hb, sq, vs⟩ := (r.mono e).tupI
    rw [hv] at hb
    cases hb
    have hn' : ds.length = n := Option.some.inj hn
    subst hn'
    refine ⟨fun i hi2 => ⟨xs, xs[i]'(by rw [vs.length]; exact hi2), sq, List.getElem?_eq_getElem _⟩, fun i hi2 => ⟨xs, sq, by rw [vs.length]; exact hi2⟩, fun i x H' hi2 y => ?_⟩
    obtain ⟨T, z, rfl, hT, rfl, hx⟩ := y
    obtain ⟨d', q1, q2⟩ := vs.getV (hx xs sq)
    obtain ⟨k1, k2, k3⟩ := pairD (R := R) (i := i) hT q2
    refine ⟨.tup [.int i, d'], ?_, k1, k2, k3⟩
    show ds[i]?.map _ = _
    rw [q1]
    rfl
  | _ => cases hl
theorem src_rng (lo hi : Int) : SrcR K ρ H (Itr lo (hi - lo).toNat) (.rng lo hi) := fun ρ1 H1 S1 e R n hn => by
  have hn' : (hi - lo).toNat = n := Option.some.inj hn
  subst hn'
  refine ⟨fun i h => h, fun i h => h, fun i x H' h y => ?_⟩
  obtain ⟨hH, hx⟩ := y
  refine ⟨.int (lo + i), if_pos h, by rw [hH]; exact Ext.refl _ _, by rw [hH]; exact R, by rw [hx]; exact .int _⟩
end
section
variable {X : Cx} {cl : Str → Value} {E : XK} {tg e : Expr} {de : DE} {da : DA} {p pos tpos : Pos}
theorem so_list (h : SE X (wt X cl E) e de) : PI X tg e (tSrc (wt X cl E) (srcL de)) := pi_imp (pi_list h) fun σ H R h => tG.step h fun ρ δ ρ1 S1 H1 v d N e R1 r P => by
  split at P
  · rename_i hl
    obtain ⟨ds, hi⟩ := isL_items hl
    obtain ⟨a, xs, rfl, sq, vs⟩ := r.listI R1 (isL_not hl) hi
    exact ⟨a, rfl, ⟨xs, sq⟩, Post.now (Rl := fun ρ H J s => SrcR X.K ρ H J s) P R1 (src_list rfl r (isL_not hl))⟩
  · exact P.elim
theorem so_tup (h : SE X (wt X cl E) e de) : PI X tg e (tSrc (wt X cl E) (srcT de)) := pi_imp (pi_tup h) fun σ H R h => tG.step h fun ρ δ ρ1 S1 H1 v d N e R1 r P => by
  split at P
  · rename_i hl
    cases d with
    | tup ds =>
      obtain ⟨a, xs, rfl, sq, vs⟩ := r.tupI
      exact ⟨a, rfl, ⟨xs, sq⟩, Post.now (Rl := fun ρ H J s => SrcR X.K ρ H J s) P R1 (src_tup rfl r hl)⟩
    | _ => cases hl
  · exact P.elim
theorem one_of {K : PySem.W.Frag} {ρ : List Addr} {H : Hp} {vs : List V} {d : D} (h : DvAll K ρ H vs [d]) : ∃ v, vs = [v] ∧ Dv K ρ H v d := by
  cases h with
  | cons a b =>
    cases b
    exact ⟨_, rfl, a⟩
theorem two_of {K : PySem.W.Frag} {ρ : List Addr} {H : Hp} {vs : List V} {d d' : D} (h : DvAll K ρ H vs [d, d']) : ∃ v w, vs = [v, w] ∧ Dv K ρ H v d ∧ Dv K ρ H w d' := by
  cases h with
  | cons a b =>
    obtain ⟨w, rfl, c⟩ := one_of b
    exact ⟨_, w, rfl, a, c⟩
theorem so_enumL {elts : List Expr} {kk : Nat} (hg : Gl X "enumerate") (hm : X.mg "enumerate" = none) (ha : SA X (wt X cl E) [e] da) (hs : starEach [e] X.env = [(false, eval e X.env)] := by rfl) :
    PI X (.Tuple elts kk tpos) (.Call (.Name "enumerate" p) [e] [] pos) (tSrc (wt X cl E) (enL da)) := pi_imp (pi_enum hg hm ha hs) fun σ H R h => tG.step h fun ρ δ ρ1 S1 H1 v d N e R1 r P => by
  split at P
  · split at P
    · rename_i d hl
      obtain ⟨w, rfl, r3⟩ := one_of r
      obtain ⟨ds, hi⟩ := isL_items hl
      obtain ⟨a, xs, rfl, sq, vs⟩ := r3.listI R1 (isL_not hl) hi
      exact ⟨a, xs, rfl, sq, Post.now (Rl := fun ρ H J s => SrcR X.K ρ H J s) P R1 (src_enL rfl r3 (isL_not hl))⟩
    · exact P.elim
  · exact P.elim
theorem so_enumT {elts : List Expr} {kk : Nat} (hg : Gl X "enumerate") (hm : X.mg "enumerate" = none) (ha : SA X (wt X cl E) [e] da) (hs : starEach [e] X.env = [(false, eval e X.env)] := by rfl) :
    PI X (.Tuple elts kk tpos) (.Call (.Name "enumerate" p) [e] [] pos) (tSrc (wt X cl E) (enT da)) := pi_imp (pi_enumT hg hm ha hs) fun σ H R h => tG.step h fun ρ δ ρ1 S1 H1 v d N e R1 r P => by
  split at P
  · split at P
    · rename_i d hl
      obtain ⟨w, rfl, r3⟩ := one_of r
      cases d with
      | tup ds =>
        obtain ⟨a, xs, rfl, sq, vs⟩ := r3.tupI
        exact ⟨a, xs, rfl, sq, Post.now (Rl := fun ρ H J s => SrcR X.K ρ H J s) P R1 (src_enT rfl r3 hl)⟩
      | _ => cases hl
    · exact P.elim
  · exact P.elim
theorem so_range1 (hg : Gl X "range") (hm : X.mg "range" = none) (ha : SA X (wt X cl E) [e] da) (hs : starEach [e] X.env = [(false, eval e X.env)] := by rfl) : PI X tg (.Call (.Name "range" p) [e] [] pos) (tSrc (wt X cl E) (rng1 da)) :=
  pi_imp (pi_range1 hg hm ha hs) fun σ H R h => tG.step h fun ρ δ ρ1 S1 H1 v d N e R1 r P => by
    split at P
    · rename_i j
      split at P
      · rename_i hl
        obtain ⟨w, rfl, r3⟩ := one_of r
        have b := inRng_bd hl
        refine ⟨j, by rw [r3.intI], b.1, b.2, Post.now (Rl := fun ρ H J s => SrcR X.K ρ H J s) P R1 ?_⟩
        have q := src_rng (K := X.K) (ρ := ρ1) (H := H1) 0 j
        rw [show (j - 0).toNat = j.toNat by rw [Int.sub_zero]] at q
        exact q
      · exact P.elim
    · exact P.elim
theorem so_range2 {f : Expr} (hg : Gl X "range") (hm : X.mg "range" = none) (ha : SA X (wt X cl E) [e, f] da) (hs : starEach [e, f] X.env = [(false, eval e X.env), (false, eval f X.env)] := by rfl) (hs2 : starEach [f] X.env = [(false, eval f X.env)] := by rfl) :
    PI X tg (.Call (.Name "range" p) [e, f] [] pos) (tSrc (wt X cl E) (rng2 da)) :=
  pi_imp (pi_range2 hg hm ha hs hs2) fun σ H R h => tG.step h fun ρ δ ρ1 S1 H1 v d N e R1 r P => by
    split at P
    · rename_i i j
      split at P
      · rename_i hl
        rw [Bool.and_eq_true] at hl
        obtain ⟨w1, w2, rfl, r1, r2⟩ := two_of r
        have b1 := inRng_bd hl.1
        have b2 := inRng_bd hl.2
        exact ⟨i, j, by rw [r1.intI, r2.intI], ⟨b1.1, b1.2, b2.1, b2.2⟩, Post.now (Rl := fun ρ H J s => SrcR X.K ρ H J s) P R1 (src_rng i j)⟩
      · exact P.elim
    · exact P.elim
end
end Dn
set_option Elab.async false
set_option linter.all false
set_option maxRecDepth 100000
set_option maxHeartbeats 1000000
/-! Dn4: for, comprehensions, functions and their calls. -/
noncomputable section
namespace Dn
open PySem PySem.Spec PyProof.Rows L2

/-! ### for -/
/-- one turn's end -/
def loopEnd (o : Out) (k : En → Sto → Out) : Out := match o with
  | .nx δ S => k δ S
  | .ct δ S => k δ S
  | .bk δ S => .nx δ S
  | .rt d S => .rt d S
  | .exc c S => .exc c S
  | .bad => .bad
def dLoop (g : Tg) (body : DS) (s : Src) : Nat → Nat → DS
  | 0, i, δ, S => match s.len S with
    | some n => if n ≤ i then .nx δ S else .bad
    | none => .bad
  | f + 1, i, δ, S => match s.len S with
    | some n => if n ≤ i then .nx δ S else match s.item S i with
      | some d => match g.set d δ with
        | some δ1 => loopEnd (body δ1 S) fun δ2 S2 => dLoop g body s f (i + 1) δ2 S2
        | none => .bad
      | none => .bad
    | none => .bad
def dFor (src : DSrc) (g : Tg) (body : DS) : DS := fun δ S => thenS (src δ S) fun s S1 => match s.len S1 with
  | some n => dLoop g body s n 0 δ S1
  | none => .bad
theorem tFor_of {W : Wt} {src : DSrc} {g : Tg} {body : DS} {D : Ends} {σ : L2.St} {H : Hp} (h : tS W (dFor src g body) D σ H) : tFor (tSrc W src) (gD W.K g) (tS W body) D σ H := by
  obtain ⟨ρ, δ, S, R, N, P⟩ := h
  refine ⟨ρ, δ, S, R, N, PostS.res P fun ρ1 H1 J s S1 e1 R1 sr P1 => ?_⟩
  cases hn : s.len S1 with
  | none => rw [hn] at P1; exact P1.elim
  | some n =>
    rw [hn] at P1
    refine ⟨fun i m σ H => ∃ ρ δ S, Ext ρ1 H1 ρ H ∧ Rep W.K ρ H S ∧ EnvR W.K ρ H σ δ ∧ PostS W ρ H (dLoop g body s m i δ S) D, ⟨n, ρ1, δ, S1, Ext.refl _ _, R1, N.mono e1, P1⟩, ?_⟩
    rintro i m σ H ⟨ρ, δ, S, e, R, N, P⟩
    cases m with
    | zero =>
      unfold dLoop at P
      cases hl : s.len S with
      | none => rw [hl] at P; exact P.elim
      | some l =>
        rw [hl] at P
        dsimp only at P
        split at P
        · rename_i hle
          exact .inl ⟨(sr ρ H S e R l hl).2.1 i hle, P ρ H σ (Ext.refl _ _) R N⟩
        · exact P.elim
    | succ m =>
      unfold dLoop at P
      cases hl : s.len S with
      | none => rw [hl] at P; exact P.elim
      | some l =>
        rw [hl] at P
        dsimp only at P
        split at P
        · rename_i hle
          exact .inl ⟨(sr ρ H S e R l hl).2.1 i hle, P ρ H σ (Ext.refl _ _) R N⟩
        · rename_i hle
          have hlt : i < l := Nat.lt_of_not_le hle
          refine .inr ⟨(sr ρ H S e R l hl).1 i hlt, fun σ' H' => ∃ ρ δ S, Ext ρ1 H1 ρ H' ∧ Rep W.K ρ H' S ∧ EnvR W.K ρ H' σ' δ ∧ PostS W ρ H' (dLoop g body s m (i + 1) δ S) D, fun σ' H' q => ⟨m, Nat.lt_succ_self m, q⟩, fun x H' y => ?_⟩
          obtain ⟨d, hd, e2, R2, r2⟩ := (sr ρ H S e R l hl).2.2 i x H' hlt y
          rw [hd] at P
          dsimp only at P
          cases hg : g.set d δ with
          | none => rw [hg] at P; exact P.elim
          | some δ1 =>
            rw [hg] at P
            refine ⟨ρ, δ, d, δ1, N.mono e2, r2, hg, fun σ2 N2 _ => ⟨ρ, δ1, S, R2, N2, ?_⟩⟩
            have P2 : PostS W ρ H' (loopEnd (body δ1 S) fun δ2 S2 => dLoop g body s m (i + 1) δ2 S2) D := PostS.base e2 P
            have e02 := e.trans e2
            cases hb : body δ1 S with
            | nx δ2 S2 =>
              rw [hb] at P2
              exact fun ρ3 H3 σ3 e3 R3 N3 => ⟨ρ3, δ2, S2, e02.trans e3, R3, N3, PostS.base e3 P2⟩
            | ct δ2 S2 =>
              rw [hb] at P2
              exact fun ρ3 H3 σ3 e3 R3 N3 => ⟨ρ3, δ2, S2, e02.trans e3, R3, N3, PostS.base e3 P2⟩
            | bk δ2 S2 => rw [hb] at P2; exact P2
            | rt d2 S2 => rw [hb] at P2; exact P2
            | exc c2 S2 => rw [hb] at P2; exact P2
            | bad => rw [hb] at P2; exact P2
theorem ss_for {X : Cx} {cl : Str → Value} {E : XK} {tg iter : Expr} {bs : List Stmt} {src : DSrc} {g : Tg} {b : DS} {pos : Pos} (hp : PassesOwn (model X.prog X.w) X.A X.env X.xe) (hc : X.calm = true) (hi : PI X tg iter (tSrc (wt X cl E) src)) (hg : PG X tg (gD X.K g))
    (hb : SB X (wt X cl E) bs b) (hs : ∀ x, foldedSetIterable iter X.env x = pure x := by intro _; rfl) : SS X (wt X cl E) (.For tg iter bs [] pos) (dFor src g b) := ps_imp (ps_for hp hc hi hg hb hs) fun D σ H h => tFor_of h

/-! ### comprehensions -/
def nox {α : Type} (r : Res α) : Res α := match r with
  | .ok a S => .ok a S
  | .exc _ _ => .bad
  | .bad => .bad
@[simp] theorem nox_ok {α : Type} (a : α) (S : Sto) : nox (.ok a S) = .ok a S := rfl
@[simp] theorem nox_bad {α : Type} : nox (.bad : Res α) = .bad := rfl
def lcPut (c : Nat) (y : D) (S : Sto) : Option Sto := match S[c]? with
  | some (.lst acc) => if acc.length < lim then some (S.set c (.lst (acc ++ [y]))) else none
  | _ => none
def dLcGo (g : Tg) (t : DT) (elt : DE) (s : Src) (c : Nat) (δ : En) : Nat → Nat → Sto → Res D
  | 0, i, S => match s.len S with
    | some n => if n ≤ i then .ok (.cell c) S else .bad
    | none => .bad
  | f + 1, i, S => match s.len S with
    | some n => if n ≤ i then .ok (.cell c) S else match s.item S i with
      | some d => match g.set d δ with
        | some δ1 => (nox (t δ1 S)).bnd fun b S2 => if b = true then (nox (elt δ1 S2)).bnd fun y S3 => match lcPut c y S3 with
            | some S4 => dLcGo g t elt s c δ f (i + 1) S4
            | none => .bad
          else dLcGo g t elt s c δ f (i + 1) S2
        | none => .bad
      | none => .bad
    | none => .bad
def dLc (src : DSrc) (g : Tg) (t : DT) (elt : DE) (own : List Nat) : DE := fun δ S => (src δ S).bnd fun s S1 => match s.len (S1 ++ [.lst []]) with
  | some n => dLcGo g t elt s S1.length (wipeD δ own) n 0 (S1 ++ [.lst []])
  | none => .bad
def dYes : DT := fun _ S => .ok true S
theorem wipe_len (σ : L2.St) (vs : List Nat) : (L2.wipe σ vs).length = σ.length := L2.wipe_length σ vs
theorem wipe_get {σ : L2.St} {i : Nat} : ∀ {vs : List Nat}, i ∉ vs → (L2.wipe σ vs)[i]? = σ[i]?
  | [], _ => rfl
  | v :: vs, h => by
    show ((L2.wipe σ vs).set v none)[i]? = _
    rw [List.getElem?_set_ne fun z => h (by rw [z]; exact List.mem_cons_self)]
    exact wipe_get fun z => h (List.mem_cons_of_mem _ z)
theorem wipe_in {σ : L2.St} {i : Nat} : ∀ {vs : List Nat}, i ∈ vs → i < σ.length → (L2.wipe σ vs)[i]? = some none
  | v :: vs, h, hl => by
    show ((L2.wipe σ vs).set v none)[i]? = _
    by_cases e : v = i
    · subst e
      exact List.getElem?_set_self (by rw [wipe_len]; exact hl)
    · rw [List.getElem?_set_ne e]
      rcases List.mem_cons.mp h with z | z
      · exact absurd z.symm e
      · exact wipe_in z hl
theorem wipe_off {vs ws : List Nat} {σ σ2 : L2.St} (h : Off ws (L2.wipe σ vs) σ2) (hs : ∀ i ∈ ws, i ∈ vs) : L2.wipe σ2 vs = L2.wipe σ vs := by
  apply List.ext_getElem?
  intro i
  by_cases hi : i ∈ vs
  · by_cases hl : i < σ.length
    · rw [wipe_in hi hl, wipe_in hi (by rw [h.len, wipe_len]; exact hl)]
    · rw [List.getElem?_eq_none (by rw [wipe_len, h.len, wipe_len]; exact Nat.le_of_not_lt hl), List.getElem?_eq_none (by rw [wipe_len]; exact Nat.le_of_not_lt hl)]
  · rw [wipe_get hi, h.at' i fun z => hi (hs i z)]
theorem Post.nox {α β γ β' : Type} {W W0 : Wt} {Rl : List Addr → Hp → β → α → Prop} {Rl' : List Addr → Hp → β' → γ → Prop} (hK : W0.K = W.K) {ρ : List Addr} {H : Hp} {r : Res α} {f : α → Sto → Res γ} {Q : β' → Hp → Prop} (h : Post W Rl' ρ H ((Dn.nox r).bnd f) Q) {Q' : β → Hp → Prop}
    (q : ∀ ρ1 H1 v d S1, Ext ρ H ρ1 H1 → Rep W.K ρ1 H1 S1 → Rl ρ1 H1 v d → Post W Rl' ρ1 H1 (f d S1) Q → Q' v H1) : Post W0 Rl ρ H r Q' := by
  cases r with
  | ok d S => exact fun ρ1 H1 v e R r => q ρ1 H1 v d S e (hK ▸ R) r (Post.base e h)
  | exc c S => exact h.elim
  | bad => exact h
theorem tLc_of {W W0 : Wt} (hK : W0.K = W.K) {src : DSrc} {g : Tg} {t : DT} {elt : DE} {own : List Nat} (hs : ∀ i ∈ g.slots, i ∈ own) {σ : L2.St} {H : Hp} {Q : VK} (h : tE W (dLc src g t elt own) σ H Q) : tLc (tSrc W src) (gD W.K g) (tT W0 t) (tE W0 elt) own σ H Q := by
  refine tG.step h fun ρ δ ρ1 S1 H1 J s N e R1 sr P => ?_
  intro D hD
  cases hn : s.len (S1 ++ [.lst []]) with
  | none => rw [hn] at P; exact P.elim
  | some n =>
    rw [hn] at P
    have e1 : Ext ρ1 H1 (ρ1 ++ [D]) (upd H1 D (.lst [])) := Ext.newC hD
    have R2 : Rep W.K (ρ1 ++ [D]) (upd H1 D (.lst [])) (S1 ++ [.lst []]) := R1.newC hD ⟨[], upd_same, .nil⟩
    have hc : (ρ1 ++ [D])[S1.length]? = some D := by
      rw [← R1.len, List.getElem?_append_right (Nat.le_refl _), Nat.sub_self]
      rfl
    refine ⟨fun i m H => ∃ ρ S, Ext (ρ1 ++ [D]) (upd H1 D (.lst [])) ρ H ∧ Rep W.K ρ H S ∧ Post W (Dv W.K) ρ H (dLcGo g t elt s S1.length (wipeD δ own) m i S) Q, ⟨n, _, _, Ext.refl _ _, R2, Post.base e1 P⟩, ?_⟩
    rintro i m H ⟨ρ, S, e2, R, P⟩
    have e12 := e1.trans e2
    have hcρ := e2.pre _ _ hc
    have stop : ∀ l, s.len S = some l → l ≤ i → Post W (Dv W.K) ρ H (.ok (.cell S1.length) S) Q → (J.stop i H ∧ Q (.ref D) H) := fun l hl hle P => ⟨(sr ρ H S e12 R l hl).2.1 i hle, P.now R (.cell hcρ)⟩
    cases m with
    | zero =>
      unfold dLcGo at P
      cases hl : s.len S with
      | none => rw [hl] at P; exact P.elim
      | some l =>
        rw [hl] at P
        dsimp only at P
        split at P
        · rename_i hle
          exact .inl (stop l hl hle P)
        · exact P.elim
    | succ m =>
      unfold dLcGo at P
      cases hl : s.len S with
      | none => rw [hl] at P; exact P.elim
      | some l =>
        rw [hl] at P
        dsimp only at P
        split at P
        · rename_i hle
          exact .inl (stop l hl hle P)
        · rename_i hle
          have hlt : i < l := Nat.lt_of_not_le hle
          refine .inr ⟨(sr ρ H S e12 R l hl).1 i hlt, fun H' => ∃ ρ S, Ext (ρ1 ++ [D]) (upd H1 D (.lst [])) ρ H' ∧ Rep W.K ρ H' S ∧ Post W (Dv W.K) ρ H' (dLcGo g t elt s S1.length (wipeD δ own) m (i + 1) S) Q, fun H' q => ⟨m, Nat.lt_succ_self m, q⟩, fun x H' y => ?_⟩
          obtain ⟨d, hd, e3, R3, r3⟩ := (sr ρ H S e12 R l hl).2.2 i x H' hlt y
          rw [hd] at P
          dsimp only at P
          cases hg : g.set d (wipeD δ own) with
          | none => rw [hg] at P; exact P.elim
          | some δ1 =>
            rw [hg] at P
            have N3 : EnvR W.K ρ H' (L2.wipe σ own) (wipeD δ own) := ((N.mono e12).mono e3).wipe own
            refine ⟨ρ, wipeD δ own, d, δ1, N3, r3, hg, fun σ2 N2 o2 => ⟨wipe_off o2 hs, ?_⟩⟩
            have N2' : EnvR W0.K ρ H' σ2 δ1 := by rw [hK]; exact N2
            have R3' : Rep W0.K ρ H' S := by rw [hK]; exact R3
            refine ⟨ρ, δ1, S, R3', N2', Post.nox (Rl := rlB) hK (Post.base e3 P) fun ρ4 H4 b b' S4 e4 R4 r4 P4 => ?_⟩
            have r4' : b = b' := r4
            subst r4'
            cases b with
            | false => exact ⟨ρ4, S4, (e2.trans e3).trans e4, R4, P4⟩
            | true =>
              have P4' : Post W (Dv W.K) ρ4 H4 ((Dn.nox (elt δ1 S4)).bnd fun y S3 => match lcPut S1.length y S3 with
                | some S4 => dLcGo g t elt s S1.length (wipeD δ own) m (i + 1) S4
                | none => .bad) Q := P4
              refine ⟨ρ4, δ1, S4, by rw [hK]; exact R4, N2'.mono e4, Post.nox (Rl := Dv W0.K) hK P4' fun ρ5 H5 v dv S5 e5 R5 r5 P5 => ?_⟩
              have r5' : Dv W.K ρ5 H5 v dv := by rw [← hK]; exact r5
              have hc5 := e5.pre _ _ (e4.pre _ _ hcρ)
              unfold lcPut at P5
              split at P5
              · rename_i S6 hput
                split at hput
                · rename_i acc hacc
                  split at hput
                  · rename_i hlim
                    cases hput
                    obtain ⟨us, g1, g2⟩ := R5.lst hc5 hacc
                    have ew : Ext ρ5 H5 ρ5 (upd H5 D (.lst (us ++ [v]))) := R5.ext_write hc5
                    refine ⟨us, g1, by rw [g2.length]; exact lt_lim hlim, ρ5, _, (((e2.trans e3).trans e4).trans e5).trans ew, R5.write (c := .lst (acc ++ [dv])) hc5 ⟨_, upd_same, (g2.append (.cons r5' .nil)).mono ew⟩, Post.base ew P5⟩
                  · cases hput
                · cases hput
              · exact P5.elim
section
variable {X : Cx} {cl : Str → Value} {E : XK} {elt tg iter : Expr} {ifs : List Expr} {scope : Scope} {own : List (Str × Nat)} {pos : Pos} {src : DSrc} {g : Tg} {t : DT} {de : DE}
theorem pts_yes {X : Cx} {W : Wt} : PTs X [] (tT W dYes) := ⟨fun pins s σ H Q I ⟨ρ, δ, S, R, N, P⟩ => pts_nil.run pins s σ H Q I (Post.now (Rl := rlB) P R rfl)⟩
theorem se_lc (hc : X.calm = true) (hN : X.N.Nodup) (hi : PI X tg iter (tSrc (wt X cl E) src)) (ok : BlkOk X.N X.env.scope scope own) (hsl : ∀ i ∈ g.slots, i ∈ own.map (·.2))
    (hg : ∀ (s : Shared) (H : Hp) (C : Addr) (cs : List (Str × Addr)) (fp : List Addr), PG (X.blk s H scope (compEnvC scope cs C X.env) fp) tg (gD X.K g)) (ht : ∀ (s : Shared) (H : Hp) (C : Addr) (cs : List (Str × Addr)) (fp : List Addr), PTs (X.blk s H scope (compEnvC scope cs C X.env) fp) ifs (tT (wt X cl E0) t))
    (he : ∀ (s : Shared) (H : Hp) (C : Addr) (cs : List (Str × Addr)) (fp : List Addr), PE (X.blk s H scope (compEnvC scope cs C X.env) fp) elt (tE (wt X cl E0) de)) (hs : ∀ x, foldedSetIterable iter X.env x = pure x := by intro _; rfl) :
    SE X (wt X cl E) (.ListComp elt [⟨tg, iter, ifs, 0⟩] scope pos) (dLc src g t de (own.map (·.2))) := pe_imp (pe_lc hc hN hi ok hg ht he hs) fun σ H Q h => tLc_of (W := wt X cl E) (W0 := wt X cl E0) rfl hsl h
theorem ss_setLc {i : Nat} {y : Str} {py spos : Pos} (hc : X.calm = true) (hN : X.N.Nodup) (hy : X.N[i]? = some y) (hyl : X.env.scope.names.lookup y = some .local)
    (hsw : swapsWith (.ListComp elt [⟨tg, iter, ifs, 0⟩] scope pos) (some (.Name y py)) spos.line X.env = pure true) (hi : PI X tg iter (tSrc (wt X cl E) src)) (ok : BlkOk X.N X.env.scope scope own) (hsl : ∀ i ∈ g.slots, i ∈ own.map (·.2))
    (hg : ∀ (s : Shared) (H : Hp) (C : Addr) (cs : List (Str × Addr)) (fp : List Addr), PG (X.blk s H scope (compEnvC scope cs C X.env) fp) tg (gD X.K g)) (ht : ∀ (s : Shared) (H : Hp) (C : Addr) (cs : List (Str × Addr)) (fp : List Addr), PTs (X.blk s H scope (compEnvC scope cs C X.env) fp) ifs (tT (wt X cl E0) t))
    (he : ∀ (s : Shared) (H : Hp) (C : Addr) (cs : List (Str × Addr)) (fp : List Addr), PE (X.blk s H scope (compEnvC scope cs C X.env) fp) elt (tE (wt X cl E0) de)) (hs : ∀ x, foldedSetIterable iter X.env x = pure x := by intro _; rfl) :
    SS X (wt X cl E) (.Assign [.Name y py] (.ListComp elt [⟨tg, iter, ifs, 0⟩] scope pos) spos) (dSet i (dLc src g t de (own.map (·.2)))) := ps_imp (ps_setLc hc hN hy hyl hsw hi ok hg ht he hs) fun D σ H h => by
    obtain ⟨ρ, δ, S, R, N, P⟩ := h
    have q : tE (wt X cl E) (dLc src g t de (own.map (·.2))) σ H fun x H1 => gName i x σ H1 D.nx := ⟨ρ, δ, S, R, N, PostS.res P fun ρ1 H1 v d S1 e1 R1 r1 P1 => P1 ρ1 H1 _ (Ext.refl ρ1 H1) R1 ((N.mono e1).set i r1)⟩
    exact tLc_of (W := wt X cl E) (W0 := wt X cl E0) rfl hsl q
end

/-! ### functions -/
def rDF (W : Wt) (f : DF) : List V → Hp → VK → Prop := fun vs H Q => ∃ ρ S ds, Rep W.K ρ H S ∧ DvAll W.K ρ H vs ds ∧ Post W (Dv W.K) ρ H (f ds S) Q
def SpD (K : PySem.W.Frag) (cl : Str → Value) (f : DF) : Sp := fun vs H Q E => rDF ⟨K, cl, E⟩ f vs H Q
def startD (N : Nat) (ds : List D) : En := ds.map some ++ List.replicate (N - ds.length) none
def endF (o : Out) : Res D := match o with
  | .nx _ S => .ok .non S
  | .rt d S => .ok d S
  | .exc c S => .exc c S
  | _ => .bad
/-- a function of n parameters and N names -/
def dFn (n N : Nat) (body : DS) : DF := fun ds S => if ds.length = n then endF (body (startD N ds) S) else .bad
def dCall (f : DF) (as : DA) : DE := fun δ S => (as δ S).bnd f
theorem envR_start {K : PySem.W.Frag} {ρ : List Addr} {H : Hp} {N : List Str} {vs : List V} {ds : List D} (h : DvAll K ρ H vs ds) : EnvR K ρ H (L2.start N vs) (startD N.length ds) := by
  refine ⟨by unfold L2.start startD; simp only [List.length_append, List.length_map, List.length_replicate]; rw [h.length], fun i d e => ?_⟩
  unfold startD at e
  unfold L2.start
  by_cases hi : i < ds.length
  · rw [List.getElem?_append_left (by simpa using hi), List.getElem?_map] at e
    cases q : ds[i]? with
    | none => rw [q] at e; cases e
    | some d' =>
      rw [q] at e
      cases e
      obtain ⟨v, h1, h2⟩ := h.get q
      refine ⟨v, ?_, h2⟩
      rw [List.getElem?_append_left (by simpa [h.length] using hi), List.getElem?_map, h1]
      rfl
  · rw [List.getElem?_append_right (by simpa using hi), List.getElem?_replicate] at e
    split at e <;> cases e
section
variable {P : Program} {w : World} {K : PySem.W.Frag} {mg : Str → Option Value} {base : Heap} {cl : Str → Value}
/-- THE RULE for a def: its body's denotation -/
theorem fn_ok {x qual : Str} {st : Stmt} {f : Addr} {fd : FuncData} {N ps : List Str} {k : Nat} {body : DS} (F : Fun K x qual st f fd) (S : FnScope N ps (defScope st))
    (hbody : ∀ (cdv : Value) (A : Around) (outer : List Env) (s : Shared) (H : Hp) (E : XK), Room k (A.deeper (envOfC qual (defScope st) s.heap.objs.size f cdv)) →
      SB (cxOf (L2.CX P w) P w K mg base N qual (defScope st) f cdv A outer s H E) ⟨K, cl, E⟩ (defBody st) body) : FnOk P w K mg base (L2.CX P w) (k + 1) f fd ps (SpD K cl (dFn ps.length N.length body)) := by
  refine F.okX S (fun vs H Q E h => ?_) fun cdv A outer s H vs Q E hr h => ?_
  · obtain ⟨ρ, S, ds, R, v, P⟩ := h
    unfold dFn at P
    split at P
    · rename_i hl
      rw [v.length, hl]
    · exact P.elim
  · obtain ⟨ρ, S, ds, R, v, P⟩ := h
    refine ⟨_, hbody cdv A outer s H E hr, ρ, startD N.length ds, S, R, envR_start v, ?_⟩
    unfold dFn at P
    split at P
    · cases q : body (startD N.length ds) S with
      | nx δ S1 =>
        rw [q] at P
        exact fun ρ1 H1 σ1 e1 R1 N1 => P ρ1 H1 .non e1 R1 .non
      | rt d S1 =>
        rw [q] at P
        exact P
      | exc c S1 =>
        rw [q] at P
        exact P
      | bk δ S1 => rw [q] at P; exact P.elim
      | ct δ S1 => rw [q] at P; exact P.elim
      | bad => rw [q] at P; exact P.elim
    · exact P.elim
/-- a def as its callers see it -/
structure Has (P : Program) (w : World) (K : PySem.W.Frag) (mg : Str → Option Value) (base : Heap) (cl : Str → Value) (x : Str) (k : Nat) (g : DF) : Prop where
  ex : ∃ (f : Addr) (fd : FuncData) (ps : List Str), FnOk P w K mg base (L2.CX P w) k f fd ps (SpD K cl g) ∧ mg x = some (.ref f) ∧ PySem.W.keepIn K (.ref f) = true ∧ Binds K fd ps []
end
section
variable {X : Cx} {cl : Str → Value} {E : XK} {x : Str} {p pos : Pos} {e : Expr} {es : List Expr} {da : DA} {k : Nat} {g : DF}
theorem se_call (F : Has X.prog X.w X.K X.mg X.base cl x k g) (hr : Room k X.A) (hg : Gl X x) (hx : Passes (L2.CX X.prog X.w) X E) (ha : SA X (wt X cl E) (e :: es) da) (hdb : (x == ("__debug__" : Str)) = false := by decide)
    (he : starEach (e :: es) X.env = (false, eval e X.env) :: starEach es X.env := by rfl) (hpl : (backTo pos (starEach es X.env)).any (·.1) = false := by rfl) : SE X (wt X cl E) (.Call (.Name x p) (e :: es) [] pos) (dCall g da) := by
  obtain ⟨f, fd, ps, F, hm, hk, hb⟩ := F.ex
  exact pe_imp (pe_call F hr hg hm hk hb .nil hx ha hdb he hpl) fun σ H Q h => tG.step h fun ρ δ ρ1 S1 H1 v d N e R r P => by
    show SpD X.K cl g (v ++ []) H1 Q E
    rw [List.append_nil]
    exact ⟨ρ1, S1, d, R, r, P⟩
/-- a built-in function, a built-in type called -/
abbrev CallD (X : Cx) (cl : Str → Value) (E : XK) (f : Value) (g : DF) : Prop := CallR X f (rDF (wt X cl E) g)
theorem se_callB {id : String} (h : CallD X cl E (.builtin id) g) (hg : Gl X x) (hm : X.mg x = none) (hv : bootBuiltins x = some (.builtin id)) (ha : SA X (wt X cl E) (e :: es) da) (hn : x ≠ "__name__" := by decide) (hdb : (x == ("__debug__" : Str)) = false := by decide)
    (he : starEach (e :: es) X.env = (false, eval e X.env) :: starEach es X.env := by rfl) (hpl : (backTo pos (starEach es X.env)).any (·.1) = false := by rfl) : SE X (wt X cl E) (.Call (.Name x p) (e :: es) [] pos) (dCall g da) :=
  pe_imp (pe_callB h hg hm hv ha hn hdb he hpl) fun σ H Q h => tG.step h fun ρ δ ρ1 S1 H1 v d N e R r P => ⟨ρ1, S1, d, R, r, P⟩
theorem se_callTy {T : String} (h : CallD X cl E (.type T) g) (hg : Gl X x) (hm : X.mg x = none) (hv : bootBuiltins x = some (.type T)) (ha : SA X (wt X cl E) (e :: es) da) (hn : x ≠ "__name__" := by decide) (hdb : (x == ("__debug__" : Str)) = false := by decide)
    (he : starEach (e :: es) X.env = (false, eval e X.env) :: starEach es X.env := by rfl) (hpl : (backTo pos (starEach es X.env)).any (·.1) = false := by rfl) : SE X (wt X cl E) (.Call (.Name x p) (e :: es) [] pos) (dCall g da) :=
  pe_imp (pe_callTy h hg hm hv ha hn hdb he hpl) fun σ H Q h => tG.step h fun ρ δ ρ1 S1 H1 v d N e R r P => ⟨ρ1, S1, d, R, r, P⟩
end
end Dn
set_option Elab.async false
set_option linter.all false
set_option maxRecDepth 100000
set_option maxHeartbeats 1000000
/-! Dn5: built-ins, methods, dicts, raise, try, keywords. -/
noncomputable section
namespace Dn
open PySem PySem.Spec PyProof.Rows L2

theorem cr_imp {X : Cx} {f : Value} {r r' : List V → Hp → VK → Prop} (h : CallR X f r) (i : ∀ xs H Q, r' xs H Q → r xs H Q) : CallR X f r' := fun pins s σ H xs us Q I r q => h pins s σ H xs us Q I r (i _ _ _ q)
def bLen : DF := fun ds S => match ds with
  | [d] => match items S d with
    | some xs => .ok (.int xs.length) S
    | none => .bad
  | _ => .bad
def bTuple : DF := fun ds S => match ds with
  | [.tup xs] => .ok (.tup xs) S
  | [d] => match items S d with
    | some xs => .ok (.tup xs) S
    | none => .bad
  | _ => .bad
def bList : DF := fun ds S => match ds with
  | [d] => match items S d with
    | some xs => .ok (.cell S.length) (S ++ [.lst xs])
    | none => .bad
  | _ => .bad
def bInt : DF := fun ds S => match ds with
  | [.int i] => .ok (.int i) S
  | [.bl k] => .ok (.int (if k then 1 else 0)) S
  | _ => .bad
def bAbs : DF := fun ds S => match ds with
  | [.int i] => .ok (.int (if i < 0 then -i else i)) S
  | _ => .bad
def blsOf : List D → Option (List Bool)
  | [] => some []
  | .bl b :: r => (blsOf r).map (b :: ·)
  | _ => none
def intsOf : List D → Option (List Int)
  | [] => some []
  | .int b :: r => (intsOf r).map (b :: ·)
  | _ => none
def bAll : DF := fun ds S => match ds with
  | [d] => if isL S d = true then match (items S d).bind blsOf with
      | some bs => .ok (.bl (bs.all id)) S
      | none => .bad
    else .bad
  | _ => .bad
def maxI : List Int → Int
  | [] => 0
  | [x] => x
  | x :: y :: r => if maxI (y :: r) > x then maxI (y :: r) else x
def bMax : DF := fun ds S => match ds with
  | [.int i, .int j] => .ok (.int (if j > i then j else i)) S
  | [d] => if isL S d = true then match (items S d).bind intsOf with
      | some (n :: ns) => .ok (.int (maxI (n :: ns))) S
      | _ => .bad
    else .bad
  | _ => .bad
theorem maxI_mem : ∀ (x : Int) (r : List Int), maxI (x :: r) ∈ x :: r
  | x, [] => List.mem_singleton.mpr rfl
  | x, y :: r => by
    have ih := maxI_mem y r
    show (if maxI (y :: r) > x then maxI (y :: r) else x) ∈ _
    split
    · exact List.mem_cons_of_mem _ ih
    · exact List.mem_cons_self
theorem maxI_le : ∀ (x : Int) (r : List Int) (z : Int), z ∈ x :: r → z ≤ maxI (x :: r)
  | x, [], z, h => by
    rw [List.mem_singleton.mp h]
    exact Int.le_refl _
  | x, y :: r, z, h => by
    show z ≤ (if maxI (y :: r) > x then maxI (y :: r) else x)
    rcases List.mem_cons.mp h with rfl | h
    · split <;> omega
    · have ih := maxI_le y r z h
      split <;> omega
section
variable {X : Cx} {cl : Str → Value} {E : XK} {K : PySem.W.Frag} {ρ : List Addr} {H : Hp} {S : Sto}
theorem ints_dv : ∀ {vs : List V} {ds : List D} {ns : List Int}, DvAll K ρ H vs ds → intsOf ds = some ns → vs = ns.map V.int
  | _, _, _, .nil, e => by cases e; rfl
  | _, _, ns, .cons (d := d) (ds := ds) r t, e => by
    unfold intsOf at e
    split at e
    · rename_i heq
      cases heq
    · rename_i i q heq
      cases heq
      obtain ⟨ms, h1, h2⟩ := Option.map_eq_some_iff.mp e
      rw [← h2, r.intI, ints_dv t h1]
      rfl
    · cases e
theorem bls_dv : ∀ {vs : List V} {ds : List D} {ns : List Bool}, DvAll K ρ H vs ds → blsOf ds = some ns → vs = ns.map V.bl
  | _, _, _, .nil, e => by cases e; rfl
  | _, _, ns, .cons (d := d) (ds := ds) r t, e => by
    unfold blsOf at e
    split at e
    · rename_i heq
      cases heq
    · rename_i i q heq
      cases heq
      obtain ⟨ms, h1, h2⟩ := Option.map_eq_some_iff.mp e
      rw [← h2, r.blI, bls_dv t h1]
      rfl
    · cases e
theorem cd_len : CallD X cl E (.builtin "len") bLen := cr_imp call_len_seq fun xs H Q ⟨ρ, S, ds, R, rs, P⟩ => by
  unfold bLen at P
  split at P
  · rename_i d
    split at P
    · rename_i its hi
      obtain ⟨v, rfl, r⟩ := one_of rs
      obtain ⟨a, us, rfl, sq, vs⟩ := r.seqI R hi
      refine ⟨a, us, rfl, sq, ?_⟩
      rw [vs.length]
      exact P.now R (.int _)
    · exact P.elim
  · exact P.elim
theorem cd_tuple : CallD X cl E (.type "tuple") bTuple := cr_imp call_tuple_of fun xs H Q ⟨ρ, S, ds, R, rs, P⟩ => by
  unfold bTuple at P
  split at P
  · obtain ⟨v, rfl, r⟩ := one_of rs
    obtain ⟨a, us, rfl, sq, vs⟩ := r.tupI
    exact ⟨a, us, rfl, .inr ⟨sq, P.now R r⟩⟩
  · rename_i d hd
    split at P
    · rename_i its hi
      obtain ⟨v, rfl, r⟩ := one_of rs
      have ht : isT d = false := by
        cases d <;> first | rfl | exact absurd rfl (hd _)
      obtain ⟨a, us, rfl, sq, vs⟩ := r.listI R ht hi
      exact ⟨a, us, rfl, .inl ⟨sq, fun p hp => P ρ _ _ (Ext.new hp) (R.new hp) (.tup (.inl (.inl upd_same)) (vs.mono (Ext.new hp)))⟩⟩
    · exact P.elim
  · exact P.elim
theorem cd_list : CallD X cl E (.type "list") bList := cr_imp call_list_of fun xs H Q ⟨ρ, S, ds, R, rs, P⟩ => by
  unfold bList at P
  split at P
  · rename_i d
    split at P
    · rename_i its hi
      obtain ⟨v, rfl, r⟩ := one_of rs
      obtain ⟨a, us, rfl, sq, vs⟩ := r.seqI R hi
      refine ⟨a, us, rfl, sq, fun p hp => P (ρ ++ [p]) _ _ (Ext.newC hp) (R.newC hp ⟨us, upd_same, vs.mono (Ext.newC hp)⟩) (.cell ?_)⟩
      rw [← R.len, List.getElem?_append_right (Nat.le_refl _), Nat.sub_self]
      rfl
    · exact P.elim
  · exact P.elim
theorem cd_int : CallD X cl E (.type "int") bInt := cr_imp call_int1 fun xs H Q ⟨ρ, S, ds, R, rs, P⟩ => by
  unfold bInt at P
  split at P
  · obtain ⟨v, rfl, r⟩ := one_of rs
    exact .inl ⟨_, by rw [r.intI], P.now R (.int _)⟩
  · obtain ⟨v, rfl, r⟩ := one_of rs
    exact .inr ⟨_, by rw [r.blI], P.now R (.int _)⟩
  · exact P.elim
theorem cd_abs : CallD X cl E (.builtin "abs") bAbs := cr_imp call_abs fun xs H Q ⟨ρ, S, ds, R, rs, P⟩ => by
  unfold bAbs at P
  split at P
  · obtain ⟨v, rfl, r⟩ := one_of rs
    exact ⟨_, by rw [r.intI], P.now R (.int _)⟩
  · exact P.elim
theorem cd_all (hc : X.calm = true) : CallD X cl E (.builtin "all") bAll := cr_imp (cr_all hc) fun xs H Q ⟨ρ, S, ds, R, rs, P⟩ => by
  unfold bAll at P
  split at P
  · rename_i d
    split at P
    · rename_i hl
      split at P
      · rename_i bs hb
        obtain ⟨v, rfl, r⟩ := one_of rs
        obtain ⟨its, hi, h2⟩ := Option.bind_eq_some_iff.mp hb
        obtain ⟨a, us, rfl, sq, vs⟩ := r.listI R (isL_not hl) hi
        refine ⟨a, bs, rfl, ?_, P.now R (.bl _)⟩
        rw [← bls_dv vs h2]
        exact sq
      · exact P.elim
    · exact P.elim
  · exact P.elim
theorem cd_max (hc : X.calm = true) : CallD X cl E (.builtin "max") bMax := cr_imp (CallR.or (call_max2 hc) (cr_max hc)) fun xs H Q ⟨ρ, S, ds, R, rs, P⟩ => by
  unfold bMax at P
  split at P
  · obtain ⟨v, w, rfl, r1, r2⟩ := two_of rs
    exact .inl ⟨_, _, by rw [r1.intI, r2.intI], P.now R (.int _)⟩
  · rename_i d
    split at P
    · rename_i hl
      split at P
      · rename_i n ns hb
        obtain ⟨v, rfl, r⟩ := one_of rs
        obtain ⟨its, hi, h2⟩ := Option.bind_eq_some_iff.mp hb
        obtain ⟨a, us, rfl, sq, vs⟩ := r.listI R (isL_not hl) hi
        refine .inr ⟨a, n :: ns, rfl, ?_, Nat.succ_pos _, fun m hm hle => ?_⟩
        · rw [← ints_dv vs h2]
          exact sq
        · have e : m = maxI (n :: ns) := Int.le_antisymm (maxI_le n ns m hm) (hle _ (maxI_mem n ns))
          rw [e]
          exact P.now R (.int _)
      · exact P.elim
    · exact P.elim
  · exact P.elim
end

/-! ### isinstance -/
def tyD (S : Sto) : D → String
  | .non => "NoneType"
  | .bl _ => "bool"
  | .int _ => "int"
  | .str _ => "str"
  | .tup _ => "tuple"
  | .ro _ => "list"
  | .cell n => match S[n]? with
    | some (.dic _) => "dict"
    | _ => "list"
def dIsI (T : String) (a : DE) : DE := fun δ S => (a δ S).bnd fun d S1 => match kitB (tyD S1 d) T with
  | some b => .ok (.bl b) S1
  | none => .bad
section
variable {X : Cx} {cl : Str → Value} {E : XK} {K : PySem.W.Frag} {ρ : List Addr} {H : Hp} {S : Sto}
theorem Dv.ty (R : Rep K ρ H S) {v : V} {d : D} (h : Dv K ρ H v d) : TyX K H v (.type (tyD S d)) := by
  cases h with
  | non => exact .base .non
  | bl b => exact .base (.bl b)
  | int i => exact .base (.int i)
  | str x => exact .base (.str x)
  | tup sq vs =>
    rcases sq with (sq | ⟨o, sq⟩) | ⟨o, its, n, k, c, _⟩
    · exact .base (.tup sq)
    · exact .fTuple sq
    · exact .kTuple k c
  | ro sq f vs =>
    rcases sq with (sq | ⟨o, sq⟩) | ⟨o, its, n, k, c, _⟩
    · exact .base (.lst sq)
    · exact .base (.frz sq)
    · exact .kList k c
  | @cell a n q =>
    obtain ⟨c, h1, h2⟩ := R.cell q
    cases c with
    | lst xs =>
      obtain ⟨us, g1, _⟩ := h2
      have e : tyD S (.cell n) = "list" := by simp only [tyD, h1]
      rw [e]
      exact .base (.lst g1)
    | dic kvs =>
      obtain ⟨us, g1, _⟩ := h2
      have e : tyD S (.cell n) = "dict" := by simp only [tyD, h1]
      rw [e]
      exact .base (.dK g1)
theorem se_isi {x y : Str} {p p2 pos : Pos} {e : Expr} {de : DE} {T : String} (hgx : Gl X x) (hmx : X.mg x = none) (hvx : bootBuiltins x = some (.builtin "isinstance")) (he : SE X (wt X cl E) e de) (hg : Gl X y) (hm : X.mg y = none) (hv : bootBuiltins y = some (.type T))
    (hnx : x ≠ "__name__" := by decide) (hdx : (x == ("__debug__" : Str)) = false := by decide) (hn : y ≠ "__name__" := by decide) (hd : (y == ("__debug__" : Str)) = false := by decide)
    (hs : starEach [e, .Name y p2] X.env = (false, eval e X.env) :: starEach [.Name y p2] X.env := by rfl) (hpl : (backTo pos (starEach [.Name y p2] X.env)).any (·.1) = false := by rfl) : SE X (wt X cl E) (.Call (.Name x p) [e, .Name y p2] [] pos) (dIsI T de) :=
  pe_imp (pe_callB call_isi hgx hmx hvx (pa_cons he (pa_cons (pe_bltn hg hm hv (v := .ty T) rfl hn hd) pa_nil) hs) hnx hdx hs hpl) fun σ H Q h => tG.step h fun ρ δ ρ1 S1 H1 v d N e R r P => by
    split at P
    · rename_i b hb
      exact ⟨v, .ty T, _, _, b, rfl, .ty T, r.ty R, kit_ty hb, P.now R (.bl b)⟩
    · exact P.elim
end

/-! ### methods of lists -/
def dMth (f : D → List D → Sto → Res D) (o : DE) (as : DA) : DE := fun δ S => (o δ S).bnd fun x S1 => if isL S1 x = true then (as δ S1).bnd fun xs S2 => f x xs S2 else .bad
def rMD (W : Wt) (f : D → List D → Sto → Res D) : V → List V → Hp → VK → Prop := fun x xs H Q => ∃ ρ S d ds, Rep W.K ρ H S ∧ Dv W.K ρ H x d ∧ DvAll W.K ρ H xs ds ∧ Post W (Dv W.K) ρ H (f d ds S) Q
def mAppend (x : D) (xs : List D) (S : Sto) : Res D := match x, xs with
  | .cell n, [d] => match S[n]? with
    | some (.lst ds) => if ds.length < lim then .ok .non (S.set n (.lst (ds ++ [d]))) else .bad
    | _ => .bad
  | _, _ => .bad
def mPop (x : D) (xs : List D) (S : Sto) : Res D := match x, xs with
  | .cell n, [] => match S[n]? with
    | some (.lst ds) => match ds[ds.length - 1]? with
      | some d => .ok d (S.set n (.lst ds.dropLast))
      | none => .bad
    | _ => .bad
  | .cell n, [.int i] => match S[n]? with
    | some (.lst ds) => if decide (0 ≤ i ∧ i < ds.length ∧ ds.length ≤ lim) = true then match ds[i.toNat]? with
        | some d => .ok d (S.set n (.lst (ds.eraseIdx i.toNat)))
        | none => .bad
      else .bad
    | _ => .bad
  | _, _ => .bad
section
variable {X : Cx} {cl : Str → Value} {E : XK}
theorem mt_imp {id : String} {r r' : V → List V → Hp → VK → Prop} (h : MtM X id r) (i : ∀ x xs H Q, r' x xs H Q → r x xs H Q) : MtR X id r' := fun pins s σ H x xs v us Q I r1 r2 q => h pins s σ H x xs v us Q I r1 r2 (i _ _ _ _ q)
theorem mt_or {id : String} {r r' : V → List V → Hp → VK → Prop} (h : MtM X id r) (h' : MtM X id r') : MtM X id (fun x xs H Q => r x xs H Q ∨ r' x xs H Q) := fun pins s σ H x xs v us Q I r1 r2 q => by
  rcases q with q | q
  · exact h pins s σ H x xs v us Q I r1 r2 q
  · exact h' pins s σ H x xs v us Q I r1 r2 q
theorem md_append : MtR X "list.append" (rMD (wt X cl E) mAppend) := mt_imp mt_append fun x xs H Q ⟨ρ, S, d, ds, R, r, rs, P⟩ => by
  unfold mAppend at P
  split at P
  · rename_i n e
    split at P
    · rename_i its hi
      split at P
      · rename_i hl
        obtain ⟨v, rfl, r2⟩ := one_of rs
        obtain ⟨a, rfl, q⟩ := r.cellI
        obtain ⟨us, g1, g2⟩ := R.lst q hi
        have ew : Ext ρ H ρ (upd H a (.lst (us ++ [v]))) := R.ext_write q
        exact ⟨a, us, v, rfl, rfl, g1, by rw [g2.length]; exact lt_lim hl, P ρ _ .non ew (R.write (c := .lst (its ++ [e])) q ⟨_, upd_same, (g2.append (.cons r2 .nil)).mono ew⟩) .non⟩
      · exact P.elim
    · exact P.elim
  · exact P.elim
theorem md_pop : MtR X "list.pop" (rMD (wt X cl E) mPop) := mt_imp (mt_or mt_pop mt_popAt) fun x xs H Q ⟨ρ, S, d, ds, R, r, rs, P⟩ => by
  unfold mPop at P
  split at P
  · rename_i n
    split at P
    · rename_i its hi
      split at P
      · rename_i e he
        cases rs
        obtain ⟨a, rfl, q⟩ := r.cellI
        obtain ⟨us, g1, g2⟩ := R.lst q hi
        obtain ⟨v, h1, h2⟩ := g2.get he
        have ew : Ext ρ H ρ (upd H a (.lst us.dropLast)) := R.ext_write q
        exact .inl ⟨a, us, v, rfl, rfl, g1, by rw [g2.length]; exact h1, P ρ _ v ew (R.write (c := .lst its.dropLast) q ⟨_, upd_same, g2.dropLast.mono ew⟩) (h2.mono ew)⟩
      · exact P.elim
    · exact P.elim
  · rename_i n i
    split at P
    · rename_i its hi
      split at P
      · rename_i hb
        have hb' := of_decide_eq_true (p := 0 ≤ i ∧ i < its.length ∧ its.length ≤ lim) hb
        split at P
        · rename_i e he
          obtain ⟨w, rfl, r2⟩ := one_of rs
          obtain ⟨a, rfl, q⟩ := r.cellI
          obtain ⟨us, g1, g2⟩ := R.lst q hi
          obtain ⟨v, h1, h2⟩ := g2.get he
          have ew : Ext ρ H ρ (upd H a (.lst (us.eraseIdx i.toNat))) := R.ext_write q
          have hlim : (its.length : Int) ≤ 100000 := by
            have := hb'.2.2
            rw [lim_eq] at this
            omega
          refine .inr ⟨a, us, i, i.toNat, v, rfl, by rw [r2.intI], g1, by omega, by omega, ?_, h1, P ρ _ v ew (R.write (c := .lst (its.eraseIdx i.toNat)) q ⟨_, upd_same, (g2.eraseIdx _).mono ew⟩) (h2.mono ew)⟩
          rw [g2.length]
          refine (ixN_seq (j := i.toNat) ?_).1
          unfold ixN
          rw [if_pos hb'.1, if_pos hb'.2.1]
        · exact P.elim
      · exact P.elim
    · exact P.elim
  · exact P.elim
variable {o e : Expr} {es : List Expr} {do' : DE} {da : DA} {apos cpos : Pos} {name : Str} {id : String} {f : D → List D → Sto → Res D}
theorem tyL_of {K : PySem.W.Frag} {ρ : List Addr} {H : Hp} {S : Sto} (R : Rep K ρ H S) {v : V} {d : D} (r : Dv K ρ H v d) (h : isL S d = true) : tyV K "list" v H := by
  obtain ⟨ds, hi⟩ := isL_items h
  obtain ⟨a, us, rfl, sq, _⟩ := r.listI R (isL_not h) hi
  exact .inl ⟨rfl, us, sq⟩
theorem se_mth (slot : Slot "list" name id) (hty : typeOf (.builtin id) = pure (.type "method_descriptor")) (hm : MtR X id (rMD (wt X cl E) f)) (ho : SE X (wt X cl E) o do') (ha : SA X (wt X cl E) (e :: es) da)
    (hbase : attributeBase o name X.env (eval o X.env) = eval o X.env := by rfl)
    (hfew : ((backTo cpos (starEach (e :: es) X.env)).all (fun x => !x.1) && (backToKw cpos (keywordEach [] X.env)).all (fun x => x.1.isSome) && decide ((e :: es).length + ([] : List Keyword).length + (if ([] : List Keyword).isEmpty then 0 else 1) < 30)) = true := by rfl)
    (hline : (apos.endLine == cpos.line) = true := by rfl) (hs : starEach (e :: es) X.env = (false, eval e X.env) :: starEach es X.env := by rfl) (hplain : (backTo cpos (starEach es X.env)).any (·.1) = false := by rfl) :
    SE X (wt X cl E) (.Call (.Attribute o name apos) (e :: es) [] cpos) (dMth f do' da) := pe_imp (pe_bm PySem.F.plainAttrs_list slot hty hm ho ha hbase hfew hline hs hplain) fun σ H Q h => tG.step h fun ρ δ ρ1 S1 H1 v d N e R r P => by
  split at P
  · rename_i hl
    exact ⟨tyL_of R r hl, ρ1, δ, S1, R, N, (Post.bnd P).imp fun vs H2 ⟨ρ2, S2, d2, e2, R2, r2, P2⟩ => ⟨ρ2, S2, d, d2, R2, r.mono e2, r2, P2⟩⟩
  · exact P.elim
theorem se_mth0 (slot : Slot "list" name id) (hty : typeOf (.builtin id) = pure (.type "method_descriptor")) (hm : MtR X id (rMD (wt X cl E) f)) (ho : SE X (wt X cl E) o do')
    (hbase : attributeBase o name X.env (eval o X.env) = eval o X.env := by rfl) (hline : (apos.endLine == cpos.line) = true := by rfl) : SE X (wt X cl E) (.Call (.Attribute o name apos) [] [] cpos) (dMth f do' dNil) := pe_imp (pe_bm0 PySem.F.plainAttrs_list slot hty hm ho hbase hline) fun σ H Q h => tG.step h fun ρ δ ρ1 S1 H1 v d N e R r P => by
  split at P
  · rename_i hl
    exact ⟨tyL_of R r hl, ρ1, S1, d, [], R, r, .nil, P⟩
  · exact P.elim
end

/-! ### dicts -/
def valD (kvs : List (Key × D)) (k : Key) : Option D := (kvs.find? fun kv => decide (kv.1 = k)).map (·.2)
def putD (kvs : List (Key × D)) (k : Key) (v : D) : List (Key × D) := if (kvs.any fun kv => decide (kv.1 = k)) = true then kvs.map (fun kv => if kv.1 = k then (kv.1, v) else kv) else kvs ++ [(k, v)]
def mergeD (kvs more : List (Key × D)) : List (Key × D) := more.foldl (fun acc kv => putD acc kv.1 kv.2) kvs
section
variable {K : PySem.W.Frag} {ρ : List Addr} {H : Hp}
theorem DvKs.val {k : Key} : ∀ {vs : List (Key × V)} {ds : List (Key × D)} {d : D}, DvKs K ρ H vs ds → valD ds k = some d → ∃ v, valV vs k = some v ∧ Dv K ρ H v d
  | _, _, _, .nil, e => by cases e
  | _, _, d, .cons (k := k') (v := v) (vs := vs) (d := d') (ds := ds) r t, e => by
    by_cases h : k' = k
    · have e1 : valD ((k', d') :: ds) k = some d' := by simp [valD, h]
      rw [e1] at e
      cases e
      exact ⟨v, valV_pos (p := (k', v)) h, r⟩
    · have e1 : valD ((k', d') :: ds) k = valD ds k := by simp [valD, h]
      rw [e1] at e
      obtain ⟨u, h1, h2⟩ := DvKs.val t e
      exact ⟨u, by rw [valV_neg (p := (k', v)) h]; exact h1, h2⟩
theorem DvKs.any {k : Key} : ∀ {vs : List (Key × V)} {ds : List (Key × D)}, DvKs K ρ H vs ds → (vs.any fun kv => decide (kv.1 = k)) = ds.any fun kv => decide (kv.1 = k)
  | _, _, .nil => rfl
  | _, _, .cons r t => by
    rw [List.any_cons, List.any_cons, DvKs.any t]
theorem DvKs.mapPut {k : Key} {v : V} {d : D} (h : Dv K ρ H v d) : ∀ {vs : List (Key × V)} {ds : List (Key × D)}, DvKs K ρ H vs ds → DvKs K ρ H (vs.map fun kv => if kv.1 = k then (kv.1, v) else kv) (ds.map fun kv => if kv.1 = k then (kv.1, d) else kv)
  | _, _, .nil => .nil
  | _, _, .cons (k := k') (v := v') (vs := vs) (d := d') (ds := ds) r t => by
    have ih := DvKs.mapPut (k := k) h t
    by_cases e : k' = k
    · have a1 : (if k' = k then (k', v) else (k', v')) = (k', v) := if_pos e
      have a2 : (if k' = k then (k', d) else (k', d')) = (k', d) := if_pos e
      show DvKs K ρ H ((if k' = k then (k', v) else (k', v')) :: _) ((if k' = k then (k', d) else (k', d')) :: _)
      rw [a1, a2]
      exact .cons h ih
    · have a1 : (if k' = k then (k', v) else (k', v')) = (k', v') := if_neg e
      have a2 : (if k' = k then (k', d) else (k', d')) = (k', d') := if_neg e
      show DvKs K ρ H ((if k' = k then (k', v) else (k', v')) :: _) ((if k' = k then (k', d) else (k', d')) :: _)
      rw [a1, a2]
      exact .cons r ih
theorem DvKs.snoc {k : Key} {v : V} {d : D} (h : Dv K ρ H v d) : ∀ {vs : List (Key × V)} {ds : List (Key × D)}, DvKs K ρ H vs ds → DvKs K ρ H (vs ++ [(k, v)]) (ds ++ [(k, d)])
  | _, _, .nil => .cons h .nil
  | _, _, .cons r t => .cons r (DvKs.snoc h t)
theorem DvKs.put {k : Key} {v : V} {d : D} (h : Dv K ρ H v d) {vs : List (Key × V)} {ds : List (Key × D)} (t : DvKs K ρ H vs ds) : DvKs K ρ H (putK vs k v) (putD ds k d) := by
  unfold putK putD
  rw [t.any]
  split
  · exact t.mapPut h
  · exact t.snoc h
theorem DvKs.length : ∀ {vs : List (Key × V)} {ds : List (Key × D)}, DvKs K ρ H vs ds → vs.length = ds.length
  | _, _, .nil => rfl
  | _, _, .cons _ t => congrArg Nat.succ (DvKs.length t)
theorem DvKs.merge : ∀ {ms : List (Key × V)} {es : List (Key × D)} {vs : List (Key × V)} {ds : List (Key × D)}, DvKs K ρ H ms es → DvKs K ρ H vs ds → DvKs K ρ H (mergeK vs ms) (mergeD ds es)
  | _, _, _, _, .nil, t => t
  | _, _, vs, ds, .cons (k := k) (v := v) (vs := ms) (d := d) (ds := es) r s, t => by
    show DvKs K ρ H (mergeK (putK vs k v) ms) (mergeD (putD ds k d) es)
    exact DvKs.merge s (t.put r)
end
def opDGet (x y : D) (S : Sto) : Res D := match x, y with
  | .cell n, .str k => match S[n]? with
    | some (.dic kvs) => match valD kvs (.inr k) with
      | some d => .ok d S
      | none => .bad
    | _ => .bad
  | _, _ => .bad
/-- x[k] = v -/
def putAt (x k v : D) (S : Sto) : Option Sto := match x, k with
  | .cell n, .str s => match S[n]? with
    | some (.dic kvs) => if kvs.length < lim then some (S.set n (.dic (putD kvs (.inr s) v))) else none
    | _ => none
  | .cell n, .int i => match S[n]? with
    | some (.lst ds) => match ixN ds.length i with
      | some j => some (S.set n (.lst (ds.set j v)))
      | none => none
    | _ => none
  | _, _ => none
def dDPut (o : DE) (k : Str) (v : DE) : DS := fun δ S => thenS (v δ S) fun d S1 => thenS (o δ S1) fun x S2 => match putAt x (.str k) d S2 with
  | some S4 => .nx δ S4
  | none => .bad
/-- x[i] = v -/
def dIPut (o i v : DE) : DS := fun δ S => thenS (v δ S) fun d S1 => thenS (o δ S1) fun x S2 => thenS (i δ S2) fun y S3 => match y with
  | .int j => match putAt x (.int j) d S3 with
    | some S4 => .nx δ S4
    | none => .bad
  | _ => .bad
/-- {'k': v, ..} -/
def dPairs : List (Str × DE) → En → Sto → Res (List (Key × D))
  | [], _, S => .ok [] S
  | (k, e) :: r, δ, S => (e δ S).bnd fun d S1 => (dPairs r δ S1).bnd fun ds S2 => .ok ((.inr k, d) :: ds) S2
def dDisp (l : List (Str × DE)) : DE := fun δ S => (dPairs l δ (S ++ [.dic []])).bnd fun kvs S1 => match S1[S.length]? with
  | some (.dic []) => if kvs.length ≤ 15 then .ok (.cell S.length) (S1.set S.length (.dic (mergeD [] kvs))) else .bad
  | _ => .bad
section
variable {X : Cx} {cl : Str → Value} {E : XK} {o i e : Expr} {do' di de : DE} {pos pos' : Pos}
theorem dget_of {K : PySem.W.Frag} {ρ : List Addr} {H : Hp} {S : Sto} (R : Rep K ρ H S) {x : V} {n : Nat} {kvs : List (Key × D)} (r : Dv K ρ H x (.cell n)) (h : S[n]? = some (.dic kvs)) : ∃ a kws, x = .ref a ∧ ρ[n]? = some a ∧ H a = some (.dK kws) ∧ DvKs K ρ H kws kvs := by
  obtain ⟨a, rfl, q⟩ := r.cellI
  obtain ⟨kws, h1, h2⟩ := R.at n a _ q h
  exact ⟨a, kws, rfl, q, h1, h2⟩
theorem se_dget (hu : X.A.units + 1 < cLine) (ho : SE X (wt X cl E) o do') (hi : SE X (wt X cl E) i di) (hs : NoSl i := by exact fun _ _ => rfl) : SE X (wt X cl E) (.Subscript o i pos) (dBin opDGet do' di) :=
  pe_imp (pe_dget hu ho hi hs) fun σ H Q h => tG.step h fun ρ δ ρ1 S1 H1 v d N e R r P => ⟨ρ1, δ, S1, R, N, (Post.bnd P).imp fun y H2 ⟨ρ2, S2, d2, e2, R2, r2, P2⟩ => by
    dsimp only at P2
    unfold opDGet at P2
    split at P2
    · split at P2
      · rename_i kvs hk
        split at P2
        · rename_i z hz
          obtain ⟨a, kws, rfl, _, h1, h2⟩ := dget_of R2 (r.mono e2) hk
          obtain ⟨u, g1, g2⟩ := h2.val hz
          rw [r2.strI]
          exact ⟨a, u, rfl, .inl ⟨kws, _, .inl h1, rfl, g1.symm⟩, P2.now R2 g2⟩
        · exact P2.elim
      · exact P2.elim
    · exact P2.elim⟩
theorem put_key {K : PySem.W.Frag} {ρ : List Addr} {H : Hp} {S S4 : Sto} (R : Rep K ρ H S) {x y v : V} {dx d : D} {k : Str} (rx : Dv K ρ H x dx) (ry : Dv K ρ H y (.str k)) (rv : Dv K ρ H v d) (h : putAt dx (.str k) d S = some S4) :
    ∃ a H', x = .ref a ∧ DPut H a y v H' ∧ Ext ρ H ρ H' ∧ Rep K ρ H' S4 := by
  unfold putAt at h
  split at h
  · rename_i n s heq
    cases heq
    split at h
    · rename_i kvs hk
      split at h
      · rename_i hl
        cases h
        obtain ⟨a, kws, rfl, q, h1, h2⟩ := dget_of R rx hk
        have ew : Ext ρ H ρ (upd H a (.dK (putK kws (.inr k) v))) := R.ext_write q
        rw [ry.strI]
        exact ⟨a, _, rfl, .inl ⟨kws, .inr k, h1, rfl, by rw [h2.length]; exact lt_lim hl, rfl⟩, ew, R.write (c := .dic (putD kvs (.inr k) d)) q ⟨_, upd_same, (h2.put rv).mono ew⟩⟩
      · cases h
    · cases h
  · rename_i heq
    cases heq
  · cases h
theorem put_ix {K : PySem.W.Frag} {ρ : List Addr} {H : Hp} {S S4 : Sto} (R : Rep K ρ H S) {x y v : V} {dx d : D} {j : Int} (rx : Dv K ρ H x dx) (ry : Dv K ρ H y (.int j)) (rv : Dv K ρ H v d) (h : putAt dx (.int j) d S = some S4) :
    ∃ a us l, x = .ref a ∧ y = .int j ∧ H a = some (.lst us) ∧ ixN us.length j = some l ∧ Ext ρ H ρ (upd H a (.lst (us.set l v))) ∧ Rep K ρ (upd H a (.lst (us.set l v))) S4 := by
  unfold putAt at h
  split at h
  · rename_i heq
    cases heq
  · rename_i n i heq
    cases heq
    split at h
    · rename_i ds hk
      split at h
      · rename_i l hl
        cases h
        obtain ⟨a, rfl, q⟩ := rx.cellI
        obtain ⟨us, g1, g2⟩ := R.lst q hk
        have ew : Ext ρ H ρ (upd H a (.lst (us.set l v))) := R.ext_write q
        exact ⟨a, us, l, rfl, ry.intI, g1, by rw [g2.length]; exact hl, ew, R.write (c := .lst (ds.set l d)) q ⟨_, upd_same, (g2.set rv l).mono ew⟩⟩
      · cases h
    · cases h
  · cases h
/-- d['k'] = v -/
theorem ss_dput {k : Str} {j : Nat} {p2 : Pos} (hu : X.A.units + 1 < cLine) (ho : SE X (wt X cl E) o do') (hv : SE X (wt X cl E) e de) (hs : swapsWith e (some (.Subscript o (.Constant (.str k) j p2) pos')) pos.line X.env = pure false := by rfl) :
    SS X (wt X cl E) (.Assign [.Subscript o (.Constant (.str k) j p2) pos'] e pos) (dDPut do' k de) := ps_imp (ps_dput hu ho pe_str hv hs) fun D σ H ⟨ρ, δ, S, R, N, P⟩ =>
  ⟨ρ, δ, S, R, N, PostS.res P fun ρ1 H1 v d S1 e1 R1 r1 P1 => ⟨ρ1, δ, S1, R1, N.mono e1, PostS.res P1 fun ρ2 H2 x dx S2 e2 R2 r2 P2 => by
    split at P2
    · rename_i S4 h4
      obtain ⟨a, H', ex, g, ew, R4⟩ := put_key R2 r2 (.str k) (r1.mono e2) h4
      exact ⟨a, H', ex, g, P2 ρ2 H' σ ew R4 (((N.mono e1).mono e2).mono ew)⟩
    · exact P2.elim⟩⟩
/-- xs[i] = v -/
theorem ss_iput (ho : SE X (wt X cl E) o do') (hi : SE X (wt X cl E) i di) (hv : SE X (wt X cl E) e de)
    (ha : ∀ v, assign (.Subscript o i pos') X.env v = (do
      let ov ← holding [v] (eval o X.env)
      let iv ← holding [v, ov] (eval i X.env)
      standAt pos'
      holding [v, ov, iv] (setItem ov iv v)
      release [v, ov, iv] []) := by intro _; rfl)
    (hs : swapsWithSole [.Subscript o i pos'] e pos.line X.env = pure false := by rfl) (hw : swappedStores [.Subscript o i pos'] e X.env = pure none := by rfl) (h1 : (assignEach [.Subscript o i pos'] X.env).map (·.2) = [assign (.Subscript o i pos') X.env] := by rfl) :
    SS X (wt X cl E) (.Assign [.Subscript o i pos'] e pos) (dIPut do' di de) := ps_imp (ps_asg hv (pg_sub ho hi set_list ha) hs hw h1) fun D σ H ⟨ρ, δ, S, R, N, P⟩ =>
  ⟨ρ, δ, S, R, N, PostS.res P fun ρ1 H1 v d S1 e1 R1 r1 P1 => ⟨ρ1, δ, S1, R1, N.mono e1, PostS.res P1 fun ρ2 H2 x dx S2 e2 R2 r2 P2 => ⟨ρ2, δ, S2, R2, (N.mono e1).mono e2, PostS.res P2 fun ρ3 H3 y dy S3 e3 R3 r3 P3 => by
    split at P3
    · split at P3
      · rename_i S4 h4
        obtain ⟨a, us, l, ex, ey, g1, g2, ew, R4⟩ := put_ix R3 (r2.mono e3) r3 ((r1.mono e2).mono e3) h4
        exact ⟨a, us, _, l, ex, ey, g1, g2, P3 ρ3 _ σ ew R4 ((((N.mono e1).mono e2).mono e3).mono ew)⟩
      · exact P3.elim
    · exact P3.elim⟩⟩⟩
theorem pps_of {ks : List (Option Expr)} {vs : List Expr} {l : List (Str × DE)} {trs : List (TE × TE)} (h : PPs X pos ks vs trs) (ht : trs = l.map fun p => (tC (.str p.1), tE (wt X cl E) p.2)) : ∀ (σ : L2.St) (H : Hp) (Q : List (V × V) → Hp → Prop),
    tG (wt X cl E) (fun ρ H (ps : List (V × V)) (ds : List (Key × D)) => ∃ kws : List (Key × V), ps = kws.map (fun kv => (kV kv.1, kv.2)) ∧ DvKs X.K ρ H kws ds) (dPairs l) σ H Q → tPairs trs σ H Q := by
  subst ht
  clear h
  induction l with
  | nil => exact fun σ H Q ⟨ρ, δ, S, R, N, P⟩ => P ρ H [] (Ext.refl ρ H) R ⟨[], rfl, .nil⟩
  | cons p l ih =>
    intro σ H Q h
    show tE (wt X cl E) p.2 σ H fun y H1 => tPairs (l.map fun p => (tC (.str p.1), tE (wt X cl E) p.2)) σ H1 fun ps H3 => Q ((.str p.1, y) :: ps) H3
    refine tG.step (Q' := fun y H1 => tPairs (l.map fun p => (tC (.str p.1), tE (wt X cl E) p.2)) σ H1 fun ps H3 => Q ((.str p.1, y) :: ps) H3) h fun ρ δ ρ1 S1 H1 v d N e R r P => ih σ H1 _ ⟨ρ1, δ, S1, R, N, (Post.bnd P).imp fun ps H2 ⟨ρ2, S2, ds, e2, R2, ⟨kws, h1, h2⟩, P2⟩ => ?_⟩
    exact P2 ρ2 H2 _ (Ext.refl ρ2 H2) R2 ⟨(.inr p.1, v) :: kws, by rw [h1]; rfl, .cons (r.mono e2) h2⟩
theorem se_disp {ks : List (Option Expr)} {vs : List Expr} (l : List (Str × DE)) (h : PPs X pos ks vs (l.map fun p => (tC (.str p.1), tE (wt X cl E) p.2))) (hall : ks.all (·.isSome) = true) (hl : ks.length = vs.length) (h0 : ks ≠ []) (h15 : ks.length ≤ 15) : SE X (wt X cl E) (.Dict ks vs pos) (dDisp l) :=
  pe_imp (pe_disp h hall hl h0 h15) fun σ H Q ⟨ρ, δ, S, R, N, P⟩ p hp => by
    have e1 : Ext ρ H (ρ ++ [p]) (upd H p (.dK [])) := Ext.newC hp
    have R1 : Rep X.K (ρ ++ [p]) (upd H p (.dK [])) (S ++ [.dic []]) := R.newC hp ⟨[], upd_same, .nil⟩
    have hc : (ρ ++ [p])[S.length]? = some p := by
      rw [← R.len, List.getElem?_append_right (Nat.le_refl _), Nat.sub_self]
      rfl
    have P1 : Post (wt X cl E) (Dv X.K) (ρ ++ [p]) (upd H p (.dK [])) (dDisp l δ S) Q := Post.base e1 P
    refine pps_of h rfl σ _ _ ⟨ρ ++ [p], δ, S ++ [.dic []], R1, N.mono e1, (Post.bnd P1).imp fun ps H2 ⟨ρ2, S2, ds, e2, R2, ⟨kws, h1, h2⟩, P2⟩ => ?_⟩
    dsimp only at P2
    split at P2
    · rename_i hd
      split at P2
      · rename_i h15
        have hc2 := e2.pre _ _ hc
        obtain ⟨kz, g1, g2⟩ := R2.at _ p _ hc2 hd
        cases g2
        have ew : Ext ρ2 H2 ρ2 (upd H2 p (.dK (mergeK [] kws))) := R2.ext_write hc2
        exact ⟨g1, kws, h1, by rw [h2.length]; exact h15, P2 ρ2 _ _ ew (R2.write (c := .dic (mergeD [] ds)) hc2 ⟨_, upd_same, (h2.merge .nil).mono ew⟩) (.cell hc2)⟩
      · exact P2.elim
    · exact P2.elim
theorem sp_nil : PPs X pos [] [] ([] : List (TE × TE)) := pps_nil
theorem sp_cons {k : Str} {j : Nat} {p2 : Pos} {ks : List (Option Expr)} {vs : List Expr} {trs : List (TE × TE)} (hv : SE X (wt X cl E) e de) (h : PPs X pos ks vs trs) : PPs X pos (some (.Constant (.str k) j p2) :: ks) (e :: vs) ((tC (.str k), tE (wt X cl E) de) :: trs) := pps_cons pe_str hv h
end

/-! ### raise, try -/
def dRaise (c : Str) : DS := fun _ S => .exc c S
/-- try: body; except c: return b -/
def dTryR (body : DS) (c : Str) (b : Bool) : DS := fun δ S => match body δ S with
  | .exc c' S1 => if c' = c then .rt (.bl b) S1 else .bad
  | o => o
section
variable {X : Cx} {cl : Str → Value} {E : XK}
theorem pmk_own0 {C : Addr} {bmB : List Value} {B newId initId : String} {x : Str} {p pos : Pos} (F : ExcBaseFacts B newId initId bmB) (q : PySem.W.excIn X.K C bmB newId = true) (gC : X.mg x = some (.ref C)) (kC : PySem.W.keepIn X.K (.ref C) = true) (r : Raises X (.ref C)) (hg : Gl X x)
    (hdb : (x == ("__debug__" : Str)) = false := by decide) : PMk X (.Call (.Name x p) [] [] pos) (fun _ H Q => Q (.ref C) none H) := by
  intro pins s σ H Q I h
  refine wpAny_Call_Name_kw (ld_glob I hg gC ?_ hdb)
  refine PySem.W.callWith_K0 I.kIn kC ?_
  obtain ⟨bm, N, nm, qn, bs, hdct, sn, sub, ab, col, dd, k0, k1, k2, k3, k5, mN, hC, hN, hni, T⟩ := exc_obj I.kIn q
  show wpAny _ _ (call (.ref C) []) _ _ _
  exact wpAny_call_exc_subT F T hC hN hni (fun h' e hm => mk_of I hm r h (I.hok.gone hm.new)) (Nat.zero_le _)
/-- what a raised class is to the walk -/
structure Exn (K : PySem.W.Frag) (mg : Str → Option Value) (cl : Str → Value) (x : Str) : Prop where
  ex : ∃ C, mg x = some (.ref C) ∧ cl x = .ref C ∧ PySem.W.excIn K C [.type "ValueError", .type "Exception", .type "BaseException", .type "object"] "ValueError.__new__" = true ∧ PySem.W.keepIn K (.ref C) = true ∧
    PySem.W.subIn K (.ref C) (.type "BaseException") = some true ∧ PySem.W.typeIn K (.ref C) = some (.type "type") ∧ PySem.W.exmOne K (.ref C) (.ref C) = some true
theorem ss_raise {x : Str} {p pos pos' : Pos} (T : Exn X.K X.mg cl x) (hc : X.calm = true) (tk : Takes X (fun cls d _ H => E cls d H)) (hg : Gl X x) (hdb : (x == ("__debug__" : Str)) = false := by decide) : SS X (wt X cl E) (.Raise (some (.Call (.Name x p) [] [] pos')) none pos) (dRaise x) := by
  obtain ⟨C, gC, eC, xC, kC, sC, tC', _⟩ := T.ex
  refine ps_imp (ps_raise hc tk (pmk_own0 PySem.F.excBase_ValueError xC gC kC (raises_own sC tC') hg hdb)) fun D σ H ⟨ρ, δ, S, R, N, P⟩ => ?_
  have q := P ρ H (Ext.refl ρ H) R
  show E (.ref C) none H
  rw [← eC]
  exact q
theorem ss_try {x : Str} {np p2 p3 pos pos' : Pos} {j : Nat} {body : List Stmt} {bd : DS} {b : Bool} (T : Exn X.K X.mg cl x) (hs : X.stack = X.env :: X.outer) (hf : X.env.frame = some X.env.locals) (hg : Gl X x) (hdb : (x == ("__debug__" : Str)) = false) (tk : Takes X (fun cls d _ H => E cls d H))
    (hb : ∀ (W : WX) (pn : List (Addr × Obj)) (xe : Value → Shared → Prop), Takes (X.tr pn xe) W → PassesOwn (model X.prog X.w) X.A X.env xe → PSs (X.tr pn xe) body (tS ⟨X.K, cl, fun cls d H => ∀ σ, W cls d σ H⟩ bd)) :
    SS X (wt X cl E) (.Try body [.ExceptHandler (some (.Name x np)) none [.Return (some (.Constant (.bool b) j p2)) p3] pos'] [] [] pos) (dTryR bd x b) := by
  obtain ⟨C, gC, eC, xC, kC, sC, tC', xm⟩ := T.ex
  refine ps_imp (ps_try_only hs hf (c := .ref C) ⟨hg, hdb, .inl gC⟩ tk hb (fun a oe cls d pn _ _ => pss_one (ps_ret pe_bl))) fun D σ H ⟨ρ, δ, S, R, N, P⟩ => ⟨ρ, δ, S, R, N, ?_⟩
  unfold dTryR at P
  cases q : bd δ S with
  | exc c' S1 =>
    rw [q] at P
    dsimp only at P
    split at P
    · rename_i hc
      intro ρ1 H1 e1 R1 σ1
      refine ⟨true, by rw [hc]; show PySem.W.exmOne X.K (cl x) (.ref C) = some true; rw [eC]; exact xm, fun _ a _ => P ρ1 H1 (.bl b) e1 R1 (.bl b), fun z => by cases z⟩
    · exact P.elim
  | nx δ1 S1 => rw [q] at P; exact P
  | bk δ1 S1 => rw [q] at P; exact P
  | ct δ1 S1 => rw [q] at P; exact P
  | rt d1 S1 => rw [q] at P; exact P
  | bad => rw [q] at P; exact P.elim
end
end Dn
set_option Elab.async false
set_option linter.all false
set_option maxRecDepth 100000
set_option maxHeartbeats 1000000
/-! Dn6: repr, calls by keywords, a law's def that knows that no repr is under way. -/
noncomputable section
namespace Dn
open PySem PySem.Spec PyProof.Rows L2

/-! ### repr -/
def reprOk (p : PyData) : Bool := p.showable && p.leavesShort 1921 && decide (p.depth ≤ 50) && decide (p.weight ≤ 8000) && !p.hasDict
def bRepr : DF := fun ds S => match ds with
  | [d] => match toPy 60 S d with
    | some p => if reprOk p = true then .ok (.str p.shown) S else .bad
    | none => .bad
  | _ => .bad
section
variable {X : Cx} {cl : Str → Value} {E : XK}
theorem repr_fits {p : PyData} (h : p.leavesShort 1921 = true) (hw : p.weight ≤ 8000) : p.shown.length ≤ sizeLine := by
  have e := PyData.shown_le 1921 (by decide) p h
  have e2 : (1921 + 2) * p.weight ≤ (1921 + 2) * 8000 := Nat.mul_le_mul_left _ hw
  rw [sizeLine_eq]
  omega
theorem cd_repr (hg : X.A.guards = some []) (hu : X.A.units + 64 < cLine) : CallD X cl E (.builtin "repr") bRepr := by
  intro pins s σ H xs us Q I r h
  obtain ⟨ρ, S, ds, R, rs, P⟩ := h
  unfold bRepr at P
  split at P
  · rename_i d
    split at P
    · rename_i p hp
      split at P
      · rename_i hok
        obtain ⟨v, rfl, rv⟩ := one_of rs
        obtain ⟨u, rfl, ru⟩ := r.one
        unfold reprOk at hok
        simp only [Bool.and_eq_true, decide_eq_true_eq, Bool.not_eq_true'] at hok
        obtain ⟨⟨⟨⟨k1, k2⟩, k3⟩, k4⟩, k5⟩ := hok
        have fit := repr_fits k2 k4
        have dp := toPy_dp R _ _ _ _ rv hp
        obtain ⟨as, rd⟩ := Dp.reads I p v u dp ru
        have fin : Q (.str p.shown) H := P.now R (.str _)
        cases dp with
        | non =>
          cases ru
          exact PySem.P.repr_of_none ⟨.str _, H, I.tok _, ⟨_, rfl⟩, fin⟩
        | bl b =>
          cases ru
          refine PySem.P.repr_of_bool ⟨.str _, H, I.tok _, ⟨_, rfl⟩, ?_⟩
          have e : (PyData.bool b).shown = (if b then "True" else "False" : Str) := by simp only [PyData.shown]
          rw [e] at fin
          cases b <;> exact fin
        | int i =>
          obtain ⟨t, rfl⟩ := ru
          refine PySem.P.repr_of_int (by simpa [PyData.showable] using k1) ⟨.str _, H, I.tok _, ⟨_, rfl⟩, ?_⟩
          simpa only [PyData.shown] using fin
        | str x =>
          obtain ⟨t, rfl⟩ := ru
          refine PySem.P.repr_of_str ⟨.str _, H, I.tok _, ⟨_, rfl⟩, ?_⟩ (by simpa only [PyData.shown] using fit)
          simpa only [PyData.shown] using fin
        | lst a b =>
          cases ru
          exact repr_of_reads' rd k1 (PyData.noDict_hsm k5) hg (by omega) (fun _ _ e => e) (fun h' u tk hk => ⟨.str _, H, I.kept hk, ⟨_, rfl⟩, fin⟩) fit
        | tup a b =>
          cases ru
          exact repr_of_reads' rd k1 (PyData.noDict_hsm k5) hg (by omega) (fun _ _ e => e) (fun h' u tk hk => ⟨.str _, H, I.kept hk, ⟨_, rfl⟩, fin⟩) fit
      · exact P.elim
    · exact P.elim
  · exact P.elim
end

/-! ### f(k = v, ..): keywords alone -/
def permD (is : List Nat) (ds : List D) : List D := is.filterMap fun i => ds[i]?
def dCallK (f : DF) (is : List Nat) (as : DA) : DE := fun δ S => (as δ S).bnd fun ds S1 => if ds.length = is.length then f (permD is ds) S1 else .bad
structure HasK (P : Program) (w : World) (K : PySem.W.Frag) (mg : Str → Option Value) (base : Heap) (cl : Str → Value) (x : Str) (k : Nat) (ks : List Str) (is : List Nat) (g : DF) : Prop where
  ex : ∃ (f : Addr) (fd : FuncData) (ps : List Str), FnOk P w K mg base (L2.CX P w) k f fd ps (SpD K cl g) ∧ mg x = some (.ref f) ∧ PySem.W.keepIn K (.ref f) = true ∧
    ∀ (s : Shared) (ws : List Value), K.In s.heap → ws.length = is.length → BindsTo s fd ⟨[], ks.zip ws⟩ (ps.zip (is.filterMap fun i => ws[i]?))
section
variable {X : Cx} {cl : Str → Value} {E : XK} {x : Str} {p pos kpos : Pos} {e : Expr} {kws : List Keyword} {da : DA} {de : DE} {k : Nat} {g : DF} {ks : List Str} {is : List Nat} {nm : Option Str}
abbrev SK (X : Cx) (W : Wt) (kws : List Keyword) (de : DA) : Prop := PK X kws (tAs W de)
theorem pk_imp {X : Cx} {e : List Keyword} {t t' : TA} (h : PK X e t) (i : ∀ σ H Q, t' σ H Q → t σ H Q) : PK X e t' := ⟨fun pos pins s σ H Q I q => h.run pos pins s σ H Q I (i σ H Q q)⟩
theorem sk_nil : SK X (wt X cl E) [] dNil := pk_imp pk_nil fun σ H Q ⟨ρ, δ, S, R, N, P⟩ => Post.now (Rl := DvAll X.K) P R .nil
theorem sk_cons (ha : SE X (wt X cl E) e de) (hr : SK X (wt X cl E) kws da) : SK X (wt X cl E) (⟨nm, e, kpos⟩ :: kws) (dCons de da) :=
  pk_imp (pk_cons ha hr) fun σ H Q h => tG.step h fun ρ δ ρ1 S1 H1 v d N e R r P => ⟨ρ1, δ, S1, R, N, (Post.bnd P).imp fun vs H2 ⟨ρ2, S2, d2, e2, R2, r2, P2⟩ => Post.now (Rl := DvAll X.K) P2 R2 (.cons (r.mono e2) r2)⟩
theorem perm_dv {K : PySem.W.Frag} {ρ : List Addr} {H : Hp} {vs : List V} {ds : List D} {us : List Value} (h : DvAll K ρ H vs ds) (r : Vals vs us) : ∀ is : List Nat, DvAll K ρ H (is.filterMap fun i => vs[i]?) (permD is ds) ∧ Vals (is.filterMap fun i => vs[i]?) (is.filterMap fun i => us[i]?)
  | [] => ⟨.nil, .nil⟩
  | i :: is => by
    obtain ⟨i1, i2⟩ := perm_dv h r is
    unfold permD
    cases q : vs[i]? with
    | none =>
      have q2 : ds[i]? = none := by
        rw [List.getElem?_eq_none_iff] at q ⊢
        rw [← h.length]
        exact q
      rw [List.filterMap_cons, List.filterMap_cons, List.filterMap_cons, q, q2, r.none_of q]
      exact ⟨i1, i2⟩
    | some v =>
      obtain ⟨d, q2, dv⟩ := h.getV q
      obtain ⟨u, q3, ru⟩ := r.get q
      rw [List.filterMap_cons, List.filterMap_cons, List.filterMap_cons, q, q2, q3]
      exact ⟨.cons dv i1, .cons ru i2⟩
theorem se_callK (F : HasK X.prog X.w X.K X.mg X.base cl x k ks is g) (hr : Room k X.A) (hg : Gl X x) (hx : Passes (L2.CX X.prog X.w) X E) (hkw : SK X (wt X cl E) kws da)
    (hall : (backToKw pos (keywordEach kws X.env)).all (·.1.isSome) = true := by rfl) (hks : (backToKw pos (keywordEach kws X.env)).filterMap (·.1) = ks := by rfl) (hdb : (x == ("__debug__" : Str)) = false := by decide)
    (hpl : ((backTo pos (starEach [] X.env)).any (·.1) || (backToKw pos (keywordEach kws X.env)).any (·.1.isNone)) = false := by rfl) : SE X (wt X cl E) (.Call (.Name x p) [] kws pos) (dCallK g is da) := by
  obtain ⟨f, fd, ps, F, hm, hk, hb⟩ := F.ex
  refine ⟨fun pins s σ H Q I h => ?_⟩
  refine wpAny_Call_Name_kw (ld_glob I hg hm ?_ hdb)
  have h2 : tAs (wt X cl E) da σ H fun vs H1 => ∃ ρ S ds, Rep X.K ρ H1 S ∧ DvAll X.K ρ H1 vs ds ∧ ds.length = is.length ∧ Post (wt X cl E) (Dv X.K) ρ H1 (g (permD is ds) S) Q := tG.step h fun ρ δ ρ1 S1 H1 v d N e R r P => by
    split at P
    · rename_i hl
      exact ⟨ρ1, S1, d, R, r, hl, P⟩
    · exact P.elim
  refine PySem.W.callWith_KW0 (h₀ := X.base) I.ok.mod.kin hk hall (thn (hkw.run pos pins s σ H _ I h2) fun ws s1 ⟨vs, H1, I1, rv, ρ, S, ds, R, dv, hl, P⟩ => ⟨I1.kIn, ?_⟩) hpl
  rw [hks]
  obtain ⟨pd, pv⟩ := perm_dv dv rv is
  have hw : ws.length = is.length := by rw [← rv.length, dv.length, hl]
  refine wpAny_call (codeAny_mono (F.run X.A X.stack s1 H1 ⟨[], ks.zip ws⟩ (is.filterMap fun i => ws[i]?) (is.filterMap fun i => vs[i]?) Q E hr I1.env0 (hb s1 ws I1.kIn hw) pv ⟨ρ, S, permD is ds, R, pd, P⟩) fun r s' hq => ?_)
  match r, hq with
  | .error e, hq => exact hx pins σ H1 s1 e s' I1 hq
  | .ok (.ret u), hq => exact I1.after hq
  | .ok .next, hq => exact False.elim hq
  | .ok .brk, hq => exact False.elim hq
  | .ok .cont, hq => exact False.elim hq
end

/-! ### the law's own def -/
def RunG (P : Program) (w : World) (K : PySem.W.Frag) (mg : Str → Option Value) (base : Heap) (cl : Str → Value) (k : Nat) (f : Addr) (fd : FuncData) (ps : List Str) (g : DF) : Prop :=
  ∀ (A : Around) (outer : List Env) (s : Shared) (H : Hp) (args : Args) (us : List Value) (vs : List V) (Q : VK) (E : XK), Room k A → A.guards = some [] → Env0 P w K mg base A outer s H → BindsTo s fd args (ps.zip us) → Vals vs us →
    rDF ⟨K, cl, E⟩ g vs H Q → codeAny (model P w) A (.call (.ref f) args) (CR (L2.CX P w) outer P w H s Q E) s
section
variable {P : Program} {w : World} {K : PySem.W.Frag} {mg : Str → Option Value} {base : Heap} {cl : Str → Value}
theorem fn_okG {x qual : Str} {st : Stmt} {f : Addr} {fd : FuncData} {N ps : List Str} {k : Nat} {body : DS} (F : Fun K x qual st f fd) (S : FnScope N ps (defScope st))
    (hbody : ∀ (cdv : Value) (A : Around) (outer : List Env) (s : Shared) (H : Hp) (E : XK), Room k (A.deeper (envOfC qual (defScope st) s.heap.objs.size f cdv)) → (A.deeper (envOfC qual (defScope st) s.heap.objs.size f cdv)).guards = some [] →
      SB (cxOf (L2.CX P w) P w K mg base N qual (defScope st) f cdv A outer s H E) ⟨K, cl, E⟩ (defBody st) body) : RunG P w K mg base cl (k + 1) f fd ps (dFn ps.length N.length body) := by
  obtain ⟨oc, od, kV, doc, pm, an, cdv, ct, osl, rfl, lk, hcd⟩ := F.ex
  intro A outer s H args us vs Q E hr hg e0 hb r ⟨ρ, S0, ds, R, dv, hP⟩
  unfold dFn at hP
  split at hP
  case isFalse => exact hP.elim
  case isTrue hlen =>
    have hl : vs.length = ps.length := by rw [dv.length, hlen]
    have inK : K.In s.heap := e0.mod.kin.keeps fun b o e => (e0.bs b o e).1
    have nolim : s.heap.NoLimit := e0.mod.nolimit.keeps fun b o e => (e0.bs b o e).1
    have kinds : ∀ y ∈ ps.zip us, (defScope st).names.lookup y.1 = some .local ∨ ((defScope st).names.lookup y.1 = some .cell ∧ ((cellsFrom (s.heap.objs.size + 1) (defScope st).names []).lookup y.1).isSome = true) := by
      intro y hy
      obtain ⟨n, v⟩ := y
      exact (S.par n (List.of_mem_zip hy).1).imp id fun q => ⟨q, PySem.W.cellsFrom_some _ _ _ (.inl q)⟩
    refine codeAny_call_function hr.depth (inK _ _ lk) rfl S.co S.gen rfl (PySem.W.codeRec_of inK hcd) (hb _ _ _ _ (wpAny_newFunctionEnv_cells S.kind kinds fun env he s1 x => ?_))
    subst he
    refine ⟨nolim.keeps x.toInCall.keep, codeAny_func ?_⟩
    have I := inv_start (CX := L2.CX P w) (P := P) (w := w) (K := K) (mg := mg) (base := base) (qual := qual) (f := f) (cd := cdv) (E := E) S hr.hd e0 hl r x
    refine wpAny_mono ((hbody cdv A outer s H E (hr.deeper _) hg).run [] s1 (L2.start N vs) H { nx := fun _ H' => Q .non H', rt := Q } I ⟨ρ, startD N.length ds, S0, R, envR_start dv, ?_⟩) (fun fl s' hs => ?_) fun _ _ hs => hs
    · cases q : body (startD N.length ds) S0 with
      | nx δ S1 => rw [q] at hP; exact fun ρ1 H1 σ1 e1 R1 N1 => hP ρ1 H1 .non e1 R1 .non
      | rt d S1 => rw [q] at hP; exact hP
      | exc c S1 => rw [q] at hP; exact hP
      | bk δ S1 => rw [q] at hP; exact hP.elim
      | ct δ S1 => rw [q] at hP; exact hP.elim
      | bad => rw [q] at hP; exact hP.elim
    · match fl, hs with
      | .ret u, ⟨v, σ', H', J, rv, q⟩ => exact ⟨v, H', J.os, J.bare, J.base, J.hok, rv, q⟩
      | .next, ⟨σ', H', J, q⟩ => exact ⟨V.non, H', J.os, J.bare, J.base, J.hok, rfl, q⟩
      | .brk, ⟨_, _, _, q⟩ => exact False.elim q
      | .cont, ⟨_, _, _, q⟩ => exact False.elim q
end
section
open PySem.W
/-- at the heap behind the top: the law's own call, its script a list that is known to the object or written at the top -/
theorem lawG {P : Program} {w : World} {K : PySem.W.Frag} {mg mb : Str → Option Value} {cl : Str → Value} {k : Nat} {fa a : Addr} {fd : FuncData} {x : Str} {g : DF} {s₁ : Shared} {vs : List Value} {ns : List Int}
    (KX : K.In s₁.heap) (hns : s₁.heap.Ns mainGlobals mg) (hb : s₁.heap.Ns builtinsNs mb) (hbb : ∀ x : Str, x ≠ "__name__" → mb x = bootBuiltins x) (hlim : s₁.heap.NoLimit) (hgen : s₁.gens = #[])
    (ha : s₁.heap.get? a = some { cls := .type "list", data := .seq vs.toArray }) (hi : IntsAre vs ns) (hl : ns.length ≤ sizeLine) (hr : Room k callerA)
    (F : ∀ base : Heap, K.In base → base.Ns mainGlobals mg → RunG P w K mg base cl k fa fd [x] g) (hbind : ∀ (s : Shared) (u : Value), BindsTo s fd ⟨[u], []⟩ [(x, u)])
    (hD : ∃ S', g [.ro (ns.map .int)] [] = .ok (.bl true) S') :
    codeAny (model P w) callerA (.call (.ref fa) ⟨[.ref a], []⟩) (fun r s' => r = .ok (.ret (.bool true)) ∧ OldK s₁.heap s'.heap ∧ s'.os = s₁.os ∧ AllBare s'.gens) s₁ := by
  obtain ⟨S', hD⟩ := hD
  let ob : Obj := { cls := .type "list", data := .seq vs.toArray }
  have rv := vals_ints hi
  have lenV := hi.length
  have numsD : ∀ (ρ : List Addr) (H : Hp) (l : List Int), DvAll K ρ H (l.map V.int) (l.map D.int) := by
    intro ρ H l
    induction l with
    | nil => exact .nil
    | cons z l ih => exact .cons (.int z) ih
  -- what may be tracked is the script alone, as it stands
  have main : ∀ (H : Hp), (∀ b o, H b = some o → b = a ∧ o = .frz ob (.lst (ns.map V.int))) → (H a ≠ none → K.lookup a = none) → SqL K H a (ns.map V.int) → ((∃ o, H a = some (.frz o (.lst (ns.map V.int)))) ∨ ∀ H', SqL K H' a (ns.map V.int)) →
      codeAny (model P w) callerA (.call (.ref fa) ⟨[.ref a], []⟩) (fun r s' => r = .ok (.ret (.bool true)) ∧ OldK s₁.heap s'.heap ∧ s'.os = s₁.os ∧ AllBare s'.gens) s₁ := by
    intro H only hK hS hF
    have hok : HOk P w H s₁.heap := fun b o e => by
      obtain ⟨rfl, rfl⟩ := only b o e
      exact ⟨ha, by rw [List.length_map]; exact hl, vs, _, rv, ha⟩
    have un : ∀ {b : Addr}, b ≠ a → H b = none := fun {b} hb => by
      cases q : H b with
      | none => rfl
      | some o => exact absurd (only b o q).1 hb
    have dictFree : ∀ {b : Addr} {o : Obj} {es : Array DictEntry} {ep : Nat}, s₁.heap.get? b = some o → o.data = .dict es ep → H b = none := fun {b o es ep} e d => by
      refine un fun z => ?_
      subst z
      rw [ha] at e
      cases e
      cases d
    have ns' : ∀ {b : Addr} {m : Str → Option Value}, s₁.heap.Ns b m → (hidT s₁.heap H).Ns b m := fun ⟨o, es, ep, e, d, r⟩ => ⟨o, es, ep, hidT_get e (dictFree e d), d, r⟩
    have inB : K.In (hidT s₁.heap H) := fun b o e => hidT_get (KX b o e) (by
      cases q : H b with
      | none => rfl
      | some u =>
        obtain ⟨rfl, _⟩ := only b u q
        rw [hK (by rw [q]; exact Option.some_ne_none _)] at e
        cases e)
    have hM : Mod K mg (hidT s₁.heap H) := by
      obtain ⟨mc, c1, c2⟩ := hlim
      exact ⟨inB, ns' hns, ⟨mb, ns' hb, hbb⟩, mc, ns' c1, c2⟩
    have e0 : Env0 P w K mg (hidT s₁.heap H) callerA [] s₁ H := by
      refine ⟨rfl, hM, fun b o e => of_hidT e, Nat.le_of_eq (hidT_size _ _), trivial, fun b hb => ?_, hok, .of_eq hgen⟩
      exact absurd (show b ∈ ([] : List Addr) from hb) (by simp)
    have sp : rDF ⟨K, cl, fun _ _ _ => False⟩ g [.ref a] H (fun v _ => v = .bl true) := by
      refine ⟨[], [], [.ro (ns.map D.int)], ⟨rfl, fun i j b e => (by simp at e), fun n b c e => (by simp at e)⟩, .cons (.ro hS hF (numsD _ _ _)) .nil, ?_⟩
      rw [hD]
      intro ρ' H' v e R r
      exact r.blI
    refine codeAny_mono (F _ inB (ns' hns) callerA [] s₁ H ⟨[.ref a], []⟩ [.ref a] [.ref a] _ _ hr rfl e0 (hbind s₁ (.ref a)) (.cons rfl .nil) sp) fun r s' h => ?_
    match r, h with
    | .error e, h =>
      obtain ⟨_, _, _, _, _, _, _, _, _, _, _, _, z⟩ := h
      exact z.elim
    | .ok .next, h => exact False.elim h
    | .ok .brk, h => exact False.elim h
    | .ok .cont, h => exact False.elim h
    | .ok (.ret u), ⟨v, H', os, bare, stay, hok', r', q⟩ =>
      obtain rfl : v = .bl true := q
      obtain rfl : u = Value.bool true := r'
      refine ⟨rfl, OldK.of_keep fun b o e => ?_, os, bare⟩
      by_cases hb : H b = none
      · exact stay.keep b o e hb (by intro z; exact absurd (show b ∈ ([] : List Addr) from z) (by simp)) (by simp)
      · obtain ⟨u, hu⟩ := Option.ne_none_iff_exists'.mp hb
        obtain ⟨rfl, rfl⟩ := only b u hu
        obtain ⟨g2, _⟩ := hok' b _ (stay.frzs b _ _ hu)
        rw [ha] at e
        cases e
        exact g2
  cases hk : K.lookup a with
  | some o =>
    have e := KX a o hk
    rw [ha] at e
    cases e
    have all : ∀ H' : Hp, SqL K H' a (ns.map V.int) := fun H' => .inr ⟨ob, vs.toArray, _, hk, rfl, rfl, rfl, by rw [List.size_toArray, lenV]; exact hl, by simpa using rv⟩
    exact main (fun _ => none) (fun b o z => by cases z) (fun z => absurd rfl z) (all _) (.inr all)
  | none =>
    have at' : (fun b => if b = a then some (HO.frz ob (.lst (ns.map V.int))) else none : Hp) a = some (.frz ob (.lst (ns.map V.int))) := if_pos rfl
    refine main (fun b => if b = a then some (HO.frz ob (.lst (ns.map V.int))) else none) (fun b o z => ?_) (fun _ => hk) (.inl (.inr ⟨ob, at'⟩)) (.inl ⟨ob, at'⟩)
    by_cases hb : b = a
    · have z' := (if_pos hb).symm.trans z
      cases z'
      exact ⟨hb, rfl⟩
    · have z' := (if_neg hb).symm.trans z
      cases z'
/-- the goal that k_head leaves -/
theorem walkG {l : OpenLaw} {n k : Nat} {q : Program} {loose : List Str} {XP : (Str → Option Value) → Heap → Prop} {YP : World → Heap → Prop} {d : DefRec} {K : Params → PySem.W.Frag} {x : Str} {g : DF}
    (hn : l.most = some n) (hn2 : n ≤ sizeLine) (hdf : d.params.defaults = []) (hr : Room k callerA) (hY : ∀ (w : World) (h : Heap), YP w h → (K w.params).In h)
    (F : ∀ (w : World) (mg : Str → Option Value) (fa : Addr) (h : Heap), (K w.params).In h → h.Ns mainGlobals mg → mg d.name = some (.ref fa) →
      ∃ (fd : FuncData) (cl : Str → Value), (∀ (s : Shared) (u : Value), BindsTo s fd ⟨[u], []⟩ [(x, u)]) ∧ ∀ base : Heap, (K w.params).In base → base.Ns mainGlobals mg → RunG l.prog w (K w.params) mg base cl k fa fd [x] g)
    (hD : ∀ ns : List Int, ns.length ≤ n → ∃ S', g [.ro (ns.map .int)] [] = .ok (.bl true) S') : PySem.W.WalkO q loose XP YP l.row.toRowW d [] (fun f vs => PySem.call f vs) := by
  refine Att.attach_call hn hdf fun w s₀ s₁ mg mb fa o pm cd doc a vs ns G Y ho hd hcd hmg hobj hints hlen hg => ?_
  have KX := hY w _ Y
  obtain ⟨fd, cl, hb, hF⟩ := F w mg fa _ KX G.T.g hmg
  exact lawG KX G.T.g G.T.b G.T.builtins G.T.nolimit hg hobj hints (Nat.le_trans hlen hn2) hr hF hb (hD ns hlen)
end
end Dn
set_option Elab.async false
set_option linter.all false
set_option maxRecDepth 100000
set_option maxHeartbeats 1000000
/-! Dn7: odds and ends: -x, {}, list(range(n)), a written tuple of texts and its index. -/
noncomputable section
namespace Dn
open PySem PySem.Spec PyProof.Rows L2
def dNeg (a : DE) : DE := fun δ S => (a δ S).bnd fun d S1 => match d with
  | .int i => .ok (.int (-i)) S1
  | _ => .bad
def dDic0 : DE := fun _ S => .ok (.cell S.length) (S ++ [.dic []])
def dListRg (a : DE) : DE := fun δ S => (a δ S).bnd fun d S1 => match d with
  | .int n => if decide (0 ≤ n ∧ n ≤ 100000) = true then .ok (.cell S1.length) (S1 ++ [.lst ((List.range n.toNat).map fun i => D.int (i : Nat))]) else .bad
  | _ => .bad
def ixStr (ys : List Str) (z : Str) : Option Nat := match ys with
  | [] => none
  | y :: r => if y = z then some 0 else (ixStr r z).map (· + 1)
def dIxC (ys : List Str) (a : DE) : DE := fun δ S => (a δ S).bnd fun d S1 => match d with
  | .str z => match ixStr ys z with
    | some j => .ok (.int (j : Nat)) S1
    | none => .bad
  | _ => .bad
theorem ixStr_some : ∀ {ys : List Str} {z : Str} {j : Nat}, ixStr ys z = some j → ys[j]? = some z ∧ ∀ m, m < j → ys[m]? ≠ some z
  | [], _, _, h => by cases h
  | y :: r, z, j, h => by
    unfold ixStr at h
    split at h
    · rename_i e
      cases h
      exact ⟨by rw [e]; rfl, fun m hm => absurd hm (Nat.not_lt_zero _)⟩
    · rename_i e
      obtain ⟨i, h1, rfl⟩ := Option.map_eq_some_iff.mp h
      obtain ⟨a, b⟩ := ixStr_some h1
      refine ⟨a, fun m hm => ?_⟩
      cases m with
      | zero => exact fun z => e (Option.some.inj z)
      | succ m => exact b m (by omega)
/-- a module's name that holds a written tuple of texts -/
structure TupC (K : PySem.W.Frag) (mg : Str → Option Value) (x : Str) (ys : List Str) : Prop where
  ex : ∃ (a : Addr) (o : Obj) (n : Nat) (its : Array Value), mg x = some (.ref a) ∧ K.lookup a = some o ∧ o.cls = .type "tuple" ∧ o.dict = none ∧ o.data = .seq its n ∧ its.size ≤ sizeLine ∧ Vals (ys.map V.str) its.toList
section
variable {X : Cx} {cl : Str → Value} {E : XK} {a : Expr} {da : DE} {pos p apos cpos : Pos}
theorem se_neg (ha : SE X (wt X cl E) a da) : SE X (wt X cl E) (.UnaryOp .USub a pos) (dNeg da) := pe_imp (pe_un un_neg ha) fun σ H Q h => tG.step h fun ρ δ ρ1 S1 H1 v d N e R r P => by
  cases r with
  | int i => exact ⟨i, rfl, P.now R (.int _)⟩
  | _ => exact P.elim
theorem se_dic0 : SE X (wt X cl E) (.Dict [] [] pos) dDic0 := pe_imp pe_dnewK fun σ H Q ⟨ρ, δ, S, R, N, P⟩ p hp => by
  refine P (ρ ++ [p]) _ _ (Ext.newC hp) (R.newC hp ⟨[], upd_same, .nil⟩) (.cell ?_)
  rw [← R.len, List.getElem?_append_right (Nat.le_refl _), Nat.sub_self]
  rfl
theorem rg_dv {K : PySem.W.Frag} {ρ : List Addr} {H : Hp} : ∀ l : List Nat, DvAll K ρ H (l.map fun i => V.int (0 + (i : Nat))) (l.map fun i => D.int (i : Nat))
  | [] => .nil
  | i :: l => by
    refine .cons ?_ (rg_dv l)
    show Dv K ρ H (.int (0 + ((i : Nat) : Int))) (.int (i : Nat))
    rw [Int.zero_add]
    exact .int _
theorem se_listRg {p2 pos2 : Pos} (hc : X.calm = true) (hgr : Gl X "range") (hmr : X.mg "range" = none) (hg : Gl X "list") (hm : X.mg "list" = none) (ha : SE X (wt X cl E) a da) (na : starEach [a] X.env = (false, eval a X.env) :: starEach [] X.env := by rfl)
    (na2 : starEach [.Call (.Name "range" p2) [a] [] pos2] X.env = (false, eval (.Call (.Name "range" p2) [a] [] pos2) X.env) :: starEach [] X.env := by rfl) : SE X (wt X cl E) (.Call (.Name "list" p) [.Call (.Name "range" p2) [a] [] pos2] [] pos) (dListRg da) :=
  pe_imp (pe_listRg hc hg hm (prg_1 hgr hmr ha na) na2) fun σ H Q h => tG.step h fun ρ δ ρ1 S1 H1 v d N e R r P => by
    cases r with
    | int n =>
      dsimp only at P
      split at P
      · rename_i hn
        have hn' := of_decide_eq_true (p := 0 ≤ n ∧ n ≤ 100000) hn
        refine ⟨n, rfl, RgOk.of_le (by omega) (by omega) (by omega) (by omega), fun q hq => ?_⟩
        refine P (ρ1 ++ [q]) _ _ (Ext.newC hq) (R.newC hq ⟨_, upd_same, ?_⟩) (.cell ?_)
        · unfold rgV
          rw [Int.sub_zero]
          exact rg_dv _
        · rw [← R.len, List.getElem?_append_right (Nat.le_refl _), Nat.sub_self]
          rfl
      · exact P.elim
    | _ => exact P.elim
theorem se_ixC {x : Str} {ys : List Str} (T : TupC X.K X.mg x ys) (hg : Gl X x) (ha : SE X (wt X cl E) a da) (hdb : (x == ("__debug__" : Str)) = false := by decide)
    (hbase : attributeBase (.Name x p) "index" X.env (eval (.Name x p) X.env) = eval (.Name x p) X.env := by rfl)
    (hfew : ((backTo cpos (starEach [a] X.env)).all (fun x => !x.1) && (backToKw cpos (keywordEach [] X.env)).all (fun x => x.1.isSome) && decide ([a].length + ([] : List Keyword).length + (if ([] : List Keyword).isEmpty then 0 else 1) < 30)) = true := by rfl)
    (hline : (apos.endLine == cpos.line) = true := by rfl) (hs : starEach [a] X.env = (false, eval a X.env) :: starEach [] X.env := by rfl) (hplain : (backTo cpos (starEach [] X.env)).any (·.1) = false := by rfl) :
    SE X (wt X cl E) (.Call (.Attribute (.Name x p) "index" apos) [a] [] cpos) (dIxC ys da) := by
  obtain ⟨ad, o, n, its, hm, hk, hc, hd, hs1, hz, hv⟩ := T.ex
  refine pe_imp (pe_bm PySem.F.plainAttrs_tuple PySem.F.slot_tuple_index PySem.F.type_tuple_index mt_tup_index (pe_glob (v := .ref ad) hg hm rfl hdb) (pa_cons ha pa_nil hs) hbase hfew hline hs hplain) fun σ H Q h => ?_
  refine ⟨.inr (.inl ⟨rfl, o, hk, hc, hd⟩), tG.step h fun ρ δ ρ1 S1 H1 v d N e R r P => ?_⟩
  cases r with
  | str z =>
    dsimp only at P
    split at P
    · rename_i j hj
      obtain ⟨h1, h2⟩ := ixStr_some hj
      exact ⟨ad, ys, z, j, rfl, rfl, .inr ⟨o, its, n, hk, hc, hs1, hz, hv⟩, h1, h2, P.now R (.int _)⟩
    · exact P.elim
  | _ => exact P.elim
end
end Dn
set_option Elab.async false
set_option linter.all false
set_option maxRecDepth 100000
set_option maxHeartbeats 1000000
/-! Dn8: the head's facts by names, one more Bool; the law's end over them. -/
noncomputable section
namespace Dn
open PySem PySem.Spec PyProof.Rows L2
abbrev AlM : Type := Bool × He.Al
def obsMK (fa : List He.Fa) (fn : List He.FnD) (ex : PySem.W.Frag → Bool) (K : PySem.W.Frag) : AlM := (ex K, He.obsE fa fn K)
def valM (fn : List He.FnD) : AlM := (true, He.valE fn)
def SaysM (fa : List He.Fa) (fn : List He.FnD) (ex : PySem.W.Frag → Bool) (K : PySem.W.Frag) : Prop := obsMK fa fn ex K = valM fn
def obsM (n : Nat) (fa : List He.Fa) (fn : List He.FnD) (ex : PySem.W.Frag → Bool) (g : Addr → Option Obj) : AlM := obsMK fa fn ex (He.frG g (He.asG g n))
def hookM (n : Nat) (fa : List He.Fa) (fn : List He.FnD) (ex : PySem.W.Frag → Bool) : PySem.W.Hook where
  α := AlM
  obs := fun s => obsM n fa fn ex s.heap.get?
  val := fun _ => valM fn
  says := fun _ h => ∃ K : PySem.W.Frag, K.In h ∧ SaysM fa fn ex K
  of := fun _ _ e => ⟨_, He.frG_in, e⟩
  keeps := fun _ _ _ ⟨K, hK, c⟩ k => ⟨K, PySem.W.Frag.In.keeps hK k, c⟩
theorem obsM_eq {n : Nat} {fa : List He.Fa} {fn : List He.FnD} {ex : PySem.W.Frag → Bool} {g : Addr → Option Obj} {s : Shared} (h : ∀ a, g a = s.heap.get? a) : obsM n fa fn ex g = (hookM n fa fn ex).obs s := by
  have e : g = s.heap.get? := funext h
  rw [e] <;> rfl
theorem SaysM.e {fa : List He.Fa} {fn : List He.FnD} {ex : PySem.W.Frag → Bool} {K : PySem.W.Frag} (c : SaysM fa fn ex K) : He.SaysE fa fn K := congrArg (fun z : AlM => z.2) c
theorem SaysM.x {fa : List He.Fa} {fn : List He.FnD} {ex : PySem.W.Frag → Bool} {K : PySem.W.Frag} (c : SaysM fa fn ex K) : ex K = true := congrArg (fun z : AlM => z.1) c
/-- a written tuple of texts at a module's name -/
def relSt : List Str → List Value → Bool
  | [], [] => true
  | x :: xs, .str y _ :: vs => decide (x = y) && relSt xs vs
  | _, _ => false
theorem relSt_ok : ∀ {xs : List Str} {vs : List Value}, relSt xs vs = true → Vals (xs.map V.str) vs
  | [], [], _ => .nil
  | x :: xs, v :: vs, h => by
    cases v with
    | str y t =>
      obtain ⟨h1, h2⟩ := Bool.and_eq_true_iff.mp (show (decide (x = y) && relSt xs vs) = true from h)
      exact .cons ⟨t, by rw [of_decide_eq_true h1]⟩ (relSt_ok h2)
    | _ => cases h
def tcB (K : PySem.W.Frag) (x : Str) (ys : List Str) : Bool := He.eqO (PySem.W.nsIn K mainGlobals x) (some (some (.ref (He.ga K x)))) && match K.lookup (He.ga K x) with
  | some ⟨.type c, none, .seq its _, _⟩ => decide (c = "tuple") && (decide (its.size ≤ sizeLine) && relSt ys its.toList)
  | _ => false
theorem tcB_ok {K : PySem.W.Frag} {h : Heap} {mg : Str → Option Value} (X : K.In h) (G : h.Ns mainGlobals mg) {x : Str} {ys : List Str} (c : tcB K x ys = true) : TupC K mg x ys := by
  obtain ⟨c0, c⟩ := Bool.and_eq_true_iff.mp c
  cases q : K.lookup (He.ga K x) with
  | none =>
    rw [q] at c
    cases c
  | some o =>
    obtain ⟨oc, od, dt, osl⟩ := o
    rw [q] at c
    cases oc with
    | type t =>
      cases od with
      | none =>
        cases dt with
        | seq its n =>
          obtain ⟨h1, h2⟩ := Bool.and_eq_true_iff.mp (show (decide (t = "tuple") && (decide (its.size ≤ sizeLine) && relSt ys its.toList)) = true from c)
          obtain ⟨h3, h4⟩ := Bool.and_eq_true_iff.mp h2
          exact ⟨_, _, n, its, PySem.W.mg_of X G (He.eqO_ok c0), q, congrArg Value.type (of_decide_eq_true h1), rfl, rfl, of_decide_eq_true h3, relSt_ok h4⟩
        | _ => cases c
      | some a => cases dt <;> cases c
    | _ => cases od <;> cases dt <;> cases c
abbrev clG (K : PySem.W.Frag) : Str → Value := fun c => .ref (He.ga K c)
theorem exn_ok {K : PySem.W.Frag} {h : Heap} {mg : Str → Option Value} (X : K.In h) (G : h.Ns mainGlobals mg) {x : Str} (g : (He.Fa.glo x).ok K = true) (e : (He.Fa.exc x).ok K = true) (m : (He.Fa.exm x x true).ok K = true) : Exn K mg (clG K) x := by
  obtain ⟨h1, h2, h3, h4⟩ := He.exc_ok e
  exact ⟨_, He.glo_ok X G g, rfl, h1, h2, h3, h4, He.exm_ok m⟩
/-- the goal that head_any leaves -/
theorem walkGE {l : PySem.W.OpenLaw} {n k : Nat} {q : Program} {loose : List Str} {XP : (Str → Option Value) → Heap → Prop} {YP : World → Heap → Prop} {d : DefRec} {x : Str} {g : DF}
    (hn : l.most = some n) (hn2 : n ≤ sizeLine) (hdf : d.params.defaults = []) (hr : Room k callerA)
    (F : ∀ (w : World) (mg : Str → Option Value) (fa : Addr) (h : Heap), YP w h → h.Ns mainGlobals mg → mg d.name = some (.ref fa) →
      ∃ (K : PySem.W.Frag) (fd : FuncData) (cl : Str → Value), K.In h ∧ (∀ (s : Shared) (u : Value), BindsTo s fd ⟨[u], []⟩ [(x, u)]) ∧ ∀ base : Heap, K.In base → base.Ns mainGlobals mg → RunG l.prog w K mg base cl k fa fd [x] g)
    (hD : ∀ ns : List Int, ns.length ≤ n → ∃ S', g [.ro (ns.map .int)] [] = .ok (.bl true) S') : PySem.W.WalkO q loose XP YP l.row.toRowW d [] (fun f vs => PySem.call f vs) := by
  refine Att.attach_call hn hdf fun w s₀ s₁ mg mb fa o pm cd doc a vs ns G Y ho hd hcd hmg hobj hints hlen hg => ?_
  obtain ⟨K, fd, cl, KX, hb, hF⟩ := F w mg fa _ Y G.T.g hmg
  exact lawG KX G.T.g G.T.b G.T.builtins G.T.nolimit hg hobj hints (Nat.le_trans hlen hn2) hr hF hb (hD ns hlen)
end Dn
set_option Elab.async false
set_option linter.all false
set_option maxRecDepth 100000
/-! Den_k84: the defs' denotations, printed by gen.py. -/
noncomputable section
namespace Dn
open PySem L2
def b_is_integer : DS := (dRet (dAndV (dIsI "int" (dVar 0)) (dNotV (dIsI "bool" (dVar 0)))))
def d_is_integer : DF := dFn 1 1 b_is_integer
def b_is_within : DS := (dRet (dAndV (dCall d_is_integer (dCons (dVar 0) dNil)) (dChain opLe opLe (dVar 1) (dVar 0) (dVar 2))))
def d_is_within : DF := dFn 3 3 b_is_within
def b_held : DS := (dSeq (dSet 2 (dLst dNil)) (dSeq (dFor (srcT (dSl (dVar 0) dNoPart (dPart (dVar 1)))) (.nm 3) (dIfS (dB (dBin opNe (dBin opIx (dVar 3) (dC (.int 0))) (dC (.str "out")))) (dDrop (dMth mAppend (dVar 2) (dCons (dTup (dCons (dBin opIx (dVar 3) (dC (.int 1))) (dCons (dBin opIx (dVar 3) (dC (.int 2))) dNil))) dNil))) (dDrop (dMth mPop (dVar 2) dNil)))) (dRet (dCall bTuple (dCons (dVar 2) dNil)))))
def d_held : DF := dFn 2 4 b_held
def b_wish : DS := (dSeq (dSet 2 (dBin opIx (dVar 0) (dVar 1))) (dRet (dIf (dB (dBin opNe (dBin opIx (dVar 2) (dC (.int 0))) (dC (.str "out")))) (dTup (dCons (dBin opIx (dVar 2) (dC (.int 1))) (dCons (dBin opIx (dVar 2) (dC (.int 2))) dNil))) (dC .non))))
def d_wish : DF := dFn 2 3 b_wish
def b_entries : DS := (dRet (dCall bTuple (dCons (dLc (enT (dCons (dVar 0) dNil)) (.tp [(.nm 1), (.nm 2)]) (dB (dBin opNe (dBin opIx (dVar 2) (dC (.int 0))) (dC (.str "out")))) (dVar 1) [1, 2]) dNil)))
def d_entries : DF := dFn 1 3 b_entries
def b_is_door : DS := (dRet (dBin opEq (dBin opIx (dBin opIx (dBin opIx (dVar 0) (dC (.int 0))) (dVar 1)) (dC (.int 0))) (dC (.str "door"))))
def d_is_door : DF := dFn 2 2 b_is_door
def b_clash : DS := (dRet (dAndV (dBin opEq (dBin opIx (dVar 1) (dC (.int 0))) (dBin opIx (dVar 2) (dC (.int 0)))) (dOrV (dCall d_is_door (dCons (dVar 0) (dCons (dBin opIx (dVar 1) (dC (.int 0))) dNil))) (dOrV (dBin opEq (dBin opIx (dVar 1) (dC (.int 1))) (dC (.str "alone"))) (dBin opEq (dBin opIx (dVar 2) (dC (.int 1))) (dC (.str "alone")))))))
def d_clash : DF := dFn 3 3 b_clash
def b_is_calm : DS := (dSeq (dIfS (dB (dBin opNe (dLc (srcT (dBin opIx (dVar 0) (dC (.int 0)))) (.nm 1) (dB (dBin opNe (dVar 1) (dTup (dCons (dC (.str "store")) (dCons (dC .non) dNil))))) (dVar 1) [1]) (dLst dNil))) (dRet (dC (.bl false))) dSkip) (dRet (dBin opEq (dLc (srcT (dBin opIx (dVar 0) (dC (.int 1)))) (.nm 3) (dB (dBin (opIn false) (dC (.str "try")) (dLc (srcT (dVar 3)) (.nm 2) dYes (dBin opIx (dVar 2) (dC (.int 0))) [2]))) (dVar 3) [3]) (dLst dNil))))
def d_is_calm : DF := dFn 1 4 b_is_calm
def b_calm : DS := (dIfS (dNot (dB (dCall d_is_calm (dCons (dVar 0) dNil)))) (dRaise "Unfit") dSkip)
def d_calm : DF := dFn 1 1 b_calm
def b_ranks_error : DS := (dSeq (dDrop (dCall d_calm (dCons (dVar 0) dNil))) (dSeq (dSet 2 (dCall bLen (dCons (dBin opIx (dVar 0) (dC (.int 1))) dNil))) (dSeq (dIfS (dOr (dNot (dB (dIsI "tuple" (dVar 1)))) (dOr (dB (dBin opNe (dCall bLen (dCons (dVar 1) dNil)) (dVar 2))) (dNot (dB (dCall bAll (dCons (dLc (srcT (dVar 1)) (.nm 5) dYes (dCall d_is_integer (dCons (dVar 5) dNil)) [5]) dNil)))))) (dRet (dC (.str "form"))) dSkip) (dSeq (dFor (rng1 (dCons (dVar 2) dNil)) (.nm 3) (dFor (rng2 (dCons (dBin opAdd (dVar 3) (dC (.int 1))) (dCons (dVar 2) dNil))) (.nm 4) (dIfS (dB (dBin opEq (dBin opIx (dVar 1) (dVar 3)) (dBin opIx (dVar 1) (dVar 4)))) (dRet (dTup (dCons (dC (.str "same")) (dCons (dVar 3) (dCons (dVar 4) dNil))))) dSkip))) (dRet (dC .non))))))
def d_ranks_error : DF := dFn 2 6 b_ranks_error
def b_ranked : DS := (dIfS (dB (dBin (opIsN true) (dCall d_ranks_error (dCons (dVar 0) (dCons (dVar 1) dNil))) (dC .non))) (dRaise "Unfit") dSkip)
def d_ranked : DF := dFn 2 2 b_ranked
def b_handed_right : DS := (dIfS (dNot (dB (dCall d_is_within (dCons (dVar 1) (dCons (dC (.int 0)) (dCons (dBin opSub (dCall bLen (dCons (dBin opIx (dVar 0) (dC (.int 1))) dNil)) (dC (.int 1))) dNil)))))) (dRaise "Unfit") dSkip)
def d_handed_right : DF := dFn 2 2 b_handed_right
def b_does_clash : DS := (dRet (dBin opNe (dLc (srcT (dVar 2)) (.nm 3) (dB (dCall d_clash (dCons (dVar 0) (dCons (dVar 1) (dCons (dVar 3) dNil))))) (dC (.int 1)) [3]) (dLst dNil)))
def d_does_clash : DF := dFn 3 4 b_does_clash
def b_barring_place : DS := (dSeq (dSet 3 (dBin opIx (dBin opIx (dVar 0) (dC (.int 1))) (dVar 1))) (dSeq (dFor (srcT (dCall d_entries (dCons (dVar 3) dNil))) (.nm 4) (dIfS (dB (dCall d_does_clash (dCons (dVar 0) (dCons (dCall d_wish (dCons (dVar 3) (dCons (dVar 4) dNil))) (dCons (dVar 2) dNil))))) (dRet (dVar 4)) dSkip)) (dRet (dC .non))))
def d_barring_place : DF := dFn 3 5 b_barring_place
def b_raised_form : DS := (dSeq (dIfS (dOr (dNot (dB (dIsI "tuple" (dVar 1)))) (dB (dBin opNe (dCall bLen (dCons (dVar 1) dNil)) (dCall bLen (dCons (dBin opIx (dVar 0) (dC (.int 0))) dNil))))) (dRet (dC (.bl false))) dSkip) (dSeq (dFor (srcT (dVar 1)) (.nm 2) (dSeq (dIfS (dOr (dNot (dB (dIsI "tuple" (dVar 2)))) (dB (dBin opNe (dCall bLen (dCons (dVar 2) dNil)) (dC (.int 2))))) (dRet (dC (.bl false))) dSkip) (dIfS (dB (dBin opNe (dLc (srcT (dVar 2)) (.nm 3) (dAnd (dB (dBin (opIsN true) (dVar 3) (dC .non))) (dNot (dB (dCall d_is_integer (dCons (dVar 3) dNil))))) (dVar 3) [3]) (dLst dNil))) (dRet (dC (.bl false))) dSkip))) (dRet (dC (.bl true)))))
def d_raised_form : DF := dFn 2 4 b_raised_form
def b_raised_error : DS := (dSeq (dDrop (dCall d_calm (dCons (dVar 0) dNil))) (dRet (dIf (dB (dCall d_raised_form (dCons (dVar 0) (dCons (dVar 1) dNil)))) (dC .non) (dC (.str "form")))))
def d_raised_error : DF := dFn 2 2 b_raised_error
def b_told_right : DS := (dSeq (dDrop (dCall d_ranked (dCons (dVar 0) (dCons (dVar 1) dNil)))) (dIfS (dNot (dB (dCall d_raised_form (dCons (dVar 0) (dCons (dVar 2) dNil))))) (dRaise "Unfit") dSkip))
def d_told_right : DF := dFn 3 3 b_told_right
def b_raised_to : DS := (dSeq (dSet 2 (dLc (srcT (dVar 1)) (.tp [(.nm 3), (.nm 4)]) dYes (dBin opIx (dBin opIx (dVar 0) (dVar 3)) (dIxC ["alone", "beside"] (dVar 4))) [3, 4])) (dRet (dLc (srcL (dVar 2)) (.nm 5) (dB (dBin (opIsN true) (dVar 5) (dC .non))) (dVar 5) [5])))
def d_raised_to : DF := dFn 2 6 b_raised_to
def b_rank_at : DS := (dSeq (dSet 5 (dIf (dB (dBin (opIsN false) (dVar 4) (dC .non))) (dTup dNil) (dCall d_held (dCons (dBin opIx (dBin opIx (dVar 0) (dC (.int 1))) (dVar 3)) (dCons (dVar 4) dNil))))) (dRet (dCall bMax (dCons (dBin opAdd (dLst (dCons (dBin opIx (dVar 1) (dVar 3)) dNil)) (dCall d_raised_to (dCons (dVar 2) (dCons (dVar 5) dNil)))) dNil))))
def d_rank_at : DF := dFn 5 6 b_rank_at
def b_is_breach_form : DS := (dSeq (dIfS (dOr (dNot (dB (dIsI "tuple" (dVar 1)))) (dB (dBin opNe (dCall bLen (dCons (dVar 1) dNil)) (dC (.int 4))))) (dRet (dC (.bl false))) dSkip) (dSeq (dFor (srcT (dTup (dCons (dSl (dVar 1) dNoPart (dPart (dC (.int 2)))) (dCons (dSl (dVar 1) (dPart (dC (.int 2))) dNoPart) dNil)))) (.tp [(.nm 2), (.nm 3)]) (dIfS (dOr (dNot (dB (dCall d_is_within (dCons (dVar 2) (dCons (dC (.int 0)) (dCons (dBin opSub (dCall bLen (dCons (dBin opIx (dVar 0) (dC (.int 1))) dNil)) (dC (.int 1))) dNil)))))) (dNot (dB (dCall d_is_within (dCons (dVar 3) (dCons (dC (.int 0)) (dCons (dBin opSub (dCall bLen (dCons (dBin opIx (dBin opIx (dVar 0) (dC (.int 1))) (dVar 2)) dNil)) (dC (.int 1))) dNil))))))) (dRet (dC (.bl false))) dSkip)) (dRet (dBin opNe (dBin opIx (dVar 1) (dC (.int 0))) (dBin opIx (dVar 1) (dC (.int 2)))))))
def d_is_breach_form : DF := dFn 2 4 b_is_breach_form
def b_barred_error : DS := (dSeq (dDrop (dCall d_told_right (dCons (dVar 0) (dCons (dVar 1) (dCons (dVar 2) dNil))))) (dSeq (dIfS (dNot (dB (dCall d_is_breach_form (dCons (dVar 0) (dCons (dVar 3) dNil))))) (dRet (dC (.str "form"))) dSkip) (dSeq (dAsg (.tp [(.nm 4), (.nm 5), (.nm 6), (.nm 7)]) (dVar 3)) (dSeq (dIfS (dB (dBin opLt (dBin opIx (dVar 1) (dVar 6)) (dBin opIx (dVar 1) (dVar 4)))) (dRet (dC (.str "rank"))) dSkip) (dSeq (dIfS (dB (dBin opNe (dCall d_barring_place (dCons (dVar 0) (dCons (dVar 6) (dCons (dCall d_held (dCons (dBin opIx (dBin opIx (dVar 0) (dC (.int 1))) (dVar 4)) (dCons (dVar 5) dNil))) dNil)))) (dVar 7))) (dRet (dC (.str "entry"))) dSkip) (dRet (dIf (dB (dBin opLt (dCall d_rank_at (dCons (dVar 0) (dCons (dVar 1) (dCons (dVar 2) (dCons (dVar 4) (dCons (dVar 5) dNil)))))) (dBin opIx (dVar 1) (dVar 6)))) (dC .non) (dC (.str "raised")))))))))
def d_barred_error : DF := dFn 4 8 b_barred_error
def b_longest_raised : DS := (dSeq (dAsg (.tp [(.nm 5), (.nm 6)]) (dTup (dCons (dC (.int 0)) (dCons (dC (.int 0)) dNil)))) (dSeq (dFor (rng1 (dCons (dCall bLen (dCons (dBin opIx (dBin opIx (dVar 0) (dC (.int 1))) (dVar 3)) dNil)) dNil)) (.nm 7) (dSeq (dSet 6 (dIf (dB (dBin opGe (dCall d_rank_at (dCons (dVar 0) (dCons (dVar 1) (dCons (dVar 2) (dCons (dVar 3) (dCons (dVar 7) dNil)))))) (dVar 4))) (dBin opAdd (dVar 6) (dC (.int 1))) (dC (.int 0)))) (dSet 5 (dCall bMax (dCons (dVar 5) (dCons (dVar 6) dNil)))))) (dRet (dVar 5))))
def d_longest_raised : DF := dFn 5 8 b_longest_raised
def b_raised_wait : DS := (dSeq (dDrop (dCall d_told_right (dCons (dVar 0) (dCons (dVar 1) (dCons (dVar 2) dNil))))) (dSeq (dDrop (dCall d_handed_right (dCons (dVar 0) (dCons (dVar 3) dNil)))) (dSeq (dSet 4 (dLc (enT (dCons (dVar 1) dNil)) (.tp [(.nm 5), (.nm 6)]) (dB (dBin opLt (dVar 6) (dBin opIx (dVar 1) (dVar 3)))) (dVar 5) [5, 6])) (dRet (dCall bMax (dCons (dBin opAdd (dLst (dCons (dC (.int 0)) dNil)) (dLc (srcL (dVar 4)) (.nm 5) dYes (dCall d_longest_raised (dCons (dVar 0) (dCons (dVar 1) (dCons (dVar 2) (dCons (dVar 5) (dCons (dBin opIx (dVar 1) (dVar 3)) dNil)))))) [5])) dNil))))))
def d_raised_wait : DF := dFn 4 7 b_raised_wait
def b_law_deck : DS := (dSeq (dSet 1 (dDisp [("great", (dLst dNil)), ("mixed", (dBin opAdd (dC (.int 1591384)) (dCall bLen (dCons (dSl (dVar 0) dNoPart (dPart (dC (.int 63)))) dNil)))), ("turns", (dC (.int 0)))])) (dSeq (dFor (srcL (dSl (dVar 0) dNoPart (dPart (dC (.int 63))))) (.nm 2) (dSeq (dSet 3 (dBin opAdd (dBin opMul (dC (.int 2)) (dCall bAbs (dCons (dVar 2) dNil))) (dCall bInt (dCons (dBin opLt (dVar 2) (dC (.int 0))) dNil)))) (dSeq (dIfS (dB (dBin opGe (dVar 3) (dBin opPow (dC (.int 10)) (dC (.int 16))))) (dDrop (dMth mAppend (dBin opDGet (dVar 1) (dC (.str "great"))) (dCons (dVar 3) dNil))) dSkip) (dDPut (dVar 1) "mixed" (dBin opMod (dCall bInt (dCons (dBin opAdd (dBin opAdd (dBin opMul (dBin opDGet (dVar 1) (dC (.str "mixed"))) (dC (.int 69621))) (dVar 3)) (dC (.int 29))) dNil)) (dC (.int 4294967291))))))) (dRet (dVar 1))))
def d_law_deck : DF := dFn 1 4 b_law_deck
def b_law_draw : DS := (dSeq (dIfS (dB (dBin opLt (dVar 1) (dC (.int 2)))) (dRet (dC (.int 0))) dSkip) (dSeq (dIfS (dB (dBin opNe (dBin opDGet (dVar 0) (dC (.str "great"))) (dLst dNil))) (dSeq (dSet 2 (dMth mPop (dBin opDGet (dVar 0) (dC (.str "great"))) dNil)) (dSeq (dIfS (dB (dBin opGe (dVar 2) (dVar 1))) (dDrop (dMth mAppend (dBin opDGet (dVar 0) (dC (.str "great"))) (dCons (dBin opFdiv (dVar 2) (dVar 1)) dNil))) dSkip) (dRet (dBin opMod (dCall bInt (dCons (dVar 2) dNil)) (dVar 1))))) dSkip) (dSeq (dDPut (dVar 0) "turns" (dBin opAdd (dBin opDGet (dVar 0) (dC (.str "turns"))) (dC (.int 1)))) (dSeq (dSet 3 (dBin opMod (dCall bInt (dCons (dBin opAdd (dBin opDGet (dVar 0) (dC (.str "mixed"))) (dBin opMul (dC (.int 2654435761)) (dBin opDGet (dVar 0) (dC (.str "turns"))))) dNil)) (dC (.int 4294967279)))) (dSeq (dSet 3 (dBin opMod (dCall bInt (dCons (dBin opAdd (dBin opAdd (dBin opMul (dVar 3) (dVar 3)) (dBin opMul (dC (.int 40692)) (dBin opDGet (dVar 0) (dC (.str "turns"))))) (dC (.int 23))) dNil)) (dC (.int 4294967231)))) (dSeq (dSet 3 (dBin opMod (dCall bInt (dCons (dBin opAdd (dBin opMul (dVar 3) (dVar 3)) (dBin opMul (dBin opDGet (dVar 0) (dC (.str "mixed"))) (dC (.int 11)))) dNil)) (dC (.int 4294967197)))) (dRet (dBin opMod (dCall bInt (dCons (dBin opFdiv (dVar 3) (dC (.int 64))) dNil)) (dVar 1)))))))))
def d_law_draw : DF := dFn 2 4 b_law_draw
def b_law_pick : DS := (dRet (dBin opIx (dVar 1) (dCall d_law_draw (dCons (dVar 0) (dCons (dCall bLen (dCons (dVar 1) dNil)) dNil)))))
def d_law_pick : DF := dFn 2 2 b_law_pick
def b_law_any (rec : DF) : DS := (dSeq (dSet 2 (dCall d_law_draw (dCons (dVar 0) (dCons (dIf (dB (dBin opGt (dVar 1) (dC (.int 0)))) (dC (.int 9)) (dC (.int 6))) dNil)))) (dSeq (dIfS (dB (dBin opLt (dVar 2) (dC (.int 6)))) (dRet (dBin opIx (dLst (dCons (dC .non) (dCons (dC (.bl true)) (dCons (dCall d_law_pick (dCons (dVar 0) (dCons (dLst (dCons (dC (.int 0)) (dCons (dC (.int 1)) (dCons (dC (.int 2)) (dCons (dC (.int 3)) (dCons (dNeg (dC (.int 1))) (dCons (dBin opPow (dC (.int 10)) (dC (.int 18))) dNil))))))) dNil))) (dCons (dC (.str "")) (dCons (dC (.str "on")) (dCons (dC (.str "in")) dNil))))))) (dVar 2))) dSkip) (dSeq (dSet 3 (dLc (rng1 (dCons (dCall d_law_draw (dCons (dVar 0) (dCons (dC (.int 4)) dNil))) dNil)) (.nm 4) dYes (dCall rec (dCons (dVar 0) (dCons (dBin opSub (dVar 1) (dC (.int 1))) dNil))) [4])) (dRet (dIf (dB (dBin opLt (dVar 2) (dC (.int 8)))) (dCall bTuple (dCons (dVar 3) dNil)) (dVar 3))))))
def d_law_any : Nat → DF
  | 0 => fun _ _ => .bad
  | k + 1 => dFn 2 5 (b_law_any (d_law_any k))
def b_law_way : DS := (dSeq (dAsg (.tp [(.nm 4), (.nm 5), (.nm 6)]) (dTup (dCons (dLst dNil) (dCons (dLst dNil) (dCons (dBin opAdd (dC (.int 2)) (dBin opMul (dC (.int 2)) (dCall d_law_draw (dCons (dVar 0) (dCons (dBin opFdiv (dVar 2) (dC (.int 2))) dNil))))) dNil))))) (dSeq (dFor (rng1 (dCons (dVar 6) dNil)) (.nm 7) (dSeq (dSet 8 (dLc (rng1 (dCons (dCall bLen (dCons (dVar 1) dNil)) dNil)) (.nm 11) (dB (dBin (opIn true) (dVar 11) (dVar 5))) (dVar 11) [11])) (dSeq (dSet 9 (dOrV (dBin opEq (dVar 8) (dLst dNil)) (dBin opEq (dBin opSub (dVar 6) (dVar 7)) (dCall bLen (dCons (dVar 5) dNil))))) (dIfS (dAnd (dB (dBin opNe (dVar 5) (dLst dNil))) (dOr (dB (dVar 9)) (dB (dBin opEq (dCall d_law_draw (dCons (dVar 0) (dCons (dC (.int 3)) dNil))) (dC (.int 0)))))) (dDrop (dMth mAppend (dVar 4) (dCons (dTup (dCons (dC (.str "out")) (dCons (dMth mPop (dVar 5) dNil) dNil))) dNil))) (dSeq (dSet 10 (dIf (dAnd (dB (dVar 3)) (dB (dBin opEq (dCall d_law_draw (dCons (dVar 0) (dCons (dC (.int 2)) dNil))) (dC (.int 0))))) (dC (.str "try")) (dC (.str "in")))) (dSeq (dDrop (dMth mAppend (dVar 5) (dCons (dCall d_law_pick (dCons (dVar 0) (dCons (dVar 8) dNil))) dNil))) (dDrop (dMth mAppend (dVar 4) (dCons (dTup (dCons (dVar 10) (dCons (dBin opIx (dVar 5) (dNeg (dC (.int 1)))) (dCons (dCall d_law_pick (dCons (dVar 0) (dCons (dBin opIx (dVar 1) (dBin opIx (dVar 5) (dNeg (dC (.int 1))))) dNil))) dNil)))) dNil))))))))) (dRet (dCall bTuple (dCons (dVar 4) dNil)))))
def d_law_way : DF := dFn 4 12 b_law_way
def b_law_beyond : DS := (dSeq (dPar [2, 3] (dCons (dC (.int 0)) (dCons (dVar 1) dNil))) (dSeq (dFor (srcT (dSl (dVar 0) (dPart (dVar 1)) dNoPart)) (.nm 4) (dSeq (dPar [2, 3] (dCons (dBin opAdd (dVar 2) (dIf (dB (dBin opEq (dBin opIx (dVar 4) (dC (.int 0))) (dC (.str "out")))) (dNeg (dC (.int 1))) (dC (.int 1)))) (dCons (dBin opAdd (dVar 3) (dC (.int 1))) dNil))) (dIfS (dB (dBin opEq (dVar 2) (dC (.int 0)))) dBrk dSkip))) (dRet (dVar 3))))
def d_law_beyond : DF := dFn 2 5 b_law_beyond
def b_law_plan : DS := (dSeq (dSet 1 (dLst dNil)) (dSeq (dFor (srcT (dBin opIx (dVar 0) (dC (.int 1)))) (.nm 2) (dSeq (dPar [3, 4] (dCons (dLst dNil) (dCons (dTup dNil) dNil))) (dSeq (dFor (enT (dCons (dVar 2) dNil)) (.tp [(.nm 5), (.nm 6)]) (dIfS (dB (dBin opEq (dBin opIx (dVar 6) (dC (.int 0))) (dC (.str "out")))) (dSeq (dDrop (dMth mAppend (dVar 3) (dCons (dTup (dCons (dVar 4) (dCons (dC .non) (dCons (dC (.bl false)) (dCons (dC (.int 0)) dNil))))) dNil))) (dSet 4 (dSl (dVar 4) dNoPart (dPart (dNeg (dC (.int 1))))))) (dSeq (dDrop (dMth mAppend (dVar 3) (dCons (dTup (dCons (dVar 4) (dCons (dSl (dVar 6) (dPart (dC (.int 1))) dNoPart) (dCons (dBin opEq (dBin opIx (dVar 6) (dC (.int 0))) (dC (.str "try"))) (dCons (dCall d_law_beyond (dCons (dVar 2) (dCons (dVar 5) dNil))) dNil))))) dNil))) (dSet 4 (dBin opAdd (dVar 4) (dTup (dCons (dSl (dVar 6) (dPart (dC (.int 1))) dNoPart) dNil))))))) (dDrop (dMth mAppend (dVar 1) (dCons (dVar 3) dNil)))))) (dRet (dVar 1))))
def d_law_plan : DF := dFn 1 7 b_law_plan
def b_law_meets : DS := (dSeq (dFor (srcT (dVar 2)) (.tp [(.nm 3), (.nm 4)]) (dIfS (dAnd (dB (dBin opEq (dVar 3) (dBin opIx (dVar 1) (dC (.int 0))))) (dOr (dB (dBin opEq (dBin opIx (dBin opIx (dBin opIx (dVar 0) (dC (.int 0))) (dVar 3)) (dC (.int 0))) (dC (.str "door")))) (dOr (dB (dBin opEq (dVar 4) (dC (.str "alone")))) (dB (dBin opEq (dBin opIx (dVar 1) (dC (.int 1))) (dC (.str "alone"))))))) (dRet (dC (.bl true))) dSkip)) (dRet (dC (.bl false))))
def d_law_meets : DF := dFn 3 5 b_law_meets
def b_law_calm : DS := (dSeq (dSet 4 (dLc (rng1 (dCons (dVar 2) dNil)) (.nm 5) dYes (dCall d_law_pick (dCons (dVar 0) (dCons (dLst (dCons (dLst (dCons (dC (.str "alone")) dNil)) (dCons (dLst (dCons (dC (.str "alone")) (dCons (dC (.str "beside")) dNil))) dNil))) dNil))) [5])) (dRet (dTup (dCons (dBin opMul (dTup (dCons (dTup (dCons (dC (.str "store")) (dCons (dC .non) dNil))) dNil)) (dVar 2)) (dCons (dCall bTuple (dCons (dLc (rng1 (dCons (dVar 1) dNil)) (.nm 6) dYes (dCall d_law_way (dCons (dVar 0) (dCons (dVar 4) (dCons (dVar 3) (dCons (dC (.bl false)) dNil))))) [6]) dNil)) dNil)))))
def d_law_calm : DF := dFn 4 7 b_law_calm
def b_law_ranked : DS := (dSeq (dSet 2 (dLst (dCons (dNeg (dC (.int 3))) (dCons (dC (.int 0)) (dCons (dC (.int 1)) (dCons (dC (.int 2)) (dCons (dC (.int 7)) (dCons (dBin opPow (dC (.int 10)) (dC (.int 18))) dNil)))))))) (dRet (dCall bTuple (dCons (dLc (rng1 (dCons (dVar 1) dNil)) (.nm 3) dYes (dMth mPop (dVar 2) (dCons (dCall d_law_draw (dCons (dVar 0) (dCons (dCall bLen (dCons (dVar 2) dNil)) dNil))) dNil)) [3]) dNil))))
def d_law_ranked : DF := dFn 2 4 b_law_ranked
def b_law_no_calm : DS := (dSeq (dAsg (.tp [(.nm 2), (.nm 3)]) (dVar 1)) (dSeq (dAsg (.tp [(.nm 4), (.nm 5)]) (dTup (dCons (dCall d_law_draw (dCons (dVar 0) (dCons (dC (.int 3)) dNil))) (dCons (dCall bLen (dCons (dVar 3) dNil)) dNil)))) (dSeq (dIfS (dB (dBin opEq (dVar 4) (dC (.int 0)))) (dSeq (dSet 6 (dTup (dCons (dC (.str "ahead")) (dCons (dC (.str "kept")) (dCons (dC (.str "first")) (dCons (dC (.str "one")) (dCons (dC (.str "given")) (dCons (dC (.str "back")) (dCons (dC (.str "left")) (dCons (dC (.str "passes")) (dCons (dC (.str "behind")) (dCons (dC (.str "first")) dNil)))))))))))) (dRet (dTup (dCons (dBin opAdd (dSl (dVar 2) dNoPart (dPart (dNeg (dC (.int 1))))) (dTup (dCons (dTup (dCons (dC (.str "store")) (dCons (dVar 6) dNil))) dNil))) (dCons (dVar 3) dNil))))) dSkip) (dSeq (dSet 7 (dTup (dCons (dTup (dCons (dC (.str "try")) (dCons (dC (.int 0)) (dCons (dC (.str "alone")) dNil)))) (dCons (dTup (dCons (dC (.str "out")) (dCons (dC (.int 0)) dNil))) dNil)))) (dSeq (dIfS (dB (dBin opEq (dVar 4) (dC (.int 1)))) (dRet (dTup (dCons (dVar 2) (dCons (dBin opAdd (dSl (dVar 3) dNoPart (dPart (dNeg (dC (.int 1))))) (dTup (dCons (dVar 7) dNil))) dNil)))) dSkip) (dSeq (dSet 8 (dCall bTuple (dCons (dLc (rng1 (dCons (dVar 5) dNil)) (.nm 11) dYes (dCall bTuple (dCons (dLc (rng1 (dCons (dVar 5) dNil)) (.nm 10) (dB (dBin opNe (dVar 10) (dVar 11))) (dVar 10) [10]) dNil)) [11]) dNil))) (dSeq (dSet 9 (dCall bTuple (dCons (dLc (rng1 (dCons (dVar 5) dNil)) (.nm 11) dYes (dCall bTuple (dCons (dLc (rng1 (dCons (dVar 5) dNil)) (.nm 10) dYes (dIf (dB (dBin opEq (dVar 10) (dVar 11))) (dC (.str "-")) (dC (.str "bow"))) [10]) dNil)) [11]) dNil))) (dRet (dTup (dCons (dBin opAdd (dVar 2) (dTup (dCons (dTup (dCons (dC (.str "door")) (dCons (dVar 9) (dCons (dVar 8) dNil)))) dNil))) (dCons (dVar 3) dNil)))))))))))
def d_law_no_calm : DF := dFn 2 12 b_law_no_calm
def b_law_told_by : DS := (dRet (dBin opIx (dBin opIx (dVar 0) (dBin opIx (dVar 1) (dC (.int 0)))) (dCall bInt (dCons (dBin opEq (dBin opIx (dVar 1) (dC (.int 1))) (dC (.str "beside"))) dNil))))
def d_law_told_by : DF := dFn 2 2 b_law_told_by
def b_law_rank_at : DS := (dSeq (dSet 5 (dLc (srcT (dBin opIx (dBin opIx (dBin opIx (dVar 0) (dVar 3)) (dVar 4)) (dC (.int 0)))) (.nm 6) dYes (dCall d_law_told_by (dCons (dVar 2) (dCons (dVar 6) dNil))) [6])) (dRet (dCall bMax (dCons (dBin opAdd (dLst (dCons (dBin opIx (dVar 1) (dVar 3)) dNil)) (dLc (srcL (dVar 5)) (.nm 7) (dB (dBin (opIsN true) (dVar 7) (dC .non))) (dVar 7) [7])) dNil))))
def d_law_rank_at : DF := dFn 5 8 b_law_rank_at
def b_law_entry : DS := (dSeq (dFor (enL (dCons (dBin opIx (dVar 1) (dVar 2)) dNil)) (.tp [(.nm 4), (.tp [(.nm 5), (.nm 6), (.nm 7), (.nm 8)])]) (dIfS (dAnd (dB (dBin (opIsN true) (dVar 6) (dC .non))) (dB (dCall d_law_meets (dCons (dVar 0) (dCons (dVar 6) (dCons (dVar 3) dNil)))))) (dRet (dVar 4)) dSkip)) (dRet (dC .non)))
def d_law_entry : DF := dFn 4 9 b_law_entry
def b_law_breaches : DS := (dSeq (dSet 4 (dLst dNil)) (dSeq (dFor (enL (dCons (dVar 1) dNil)) (.tp [(.nm 5), (.nm 6)]) (dFor (rng1 (dCons (dCall bLen (dCons (dVar 6) dNil)) dNil)) (.nm 7) (dFor (rng1 (dCons (dCall bLen (dCons (dVar 1) dNil)) dNil)) (.nm 8) (dIfS (dAnd (dB (dBin opGt (dBin opIx (dVar 2) (dVar 8)) (dBin opIx (dVar 2) (dVar 5)))) (dB (dBin opLt (dCall d_law_rank_at (dCons (dVar 1) (dCons (dVar 2) (dCons (dVar 3) (dCons (dVar 5) (dCons (dVar 7) dNil)))))) (dBin opIx (dVar 2) (dVar 8))))) (dSeq (dSet 9 (dCall d_law_entry (dCons (dVar 0) (dCons (dVar 1) (dCons (dVar 8) (dCons (dBin opIx (dBin opIx (dVar 6) (dVar 7)) (dC (.int 0))) dNil)))))) (dSet 4 (dBin opAdd (dVar 4) (dBin opMul (dLst (dCons (dTup (dCons (dVar 5) (dCons (dVar 7) (dCons (dVar 8) (dCons (dVar 9) dNil))))) dNil)) (dCall bInt (dCons (dBin (opIsN true) (dVar 9) (dC .non)) dNil)))))) dSkip)))) (dRet (dVar 4))))
def d_law_breaches : DF := dFn 4 10 b_law_breaches
def b_law_ceilings : DS := (dSeq (dSet 3 (dLst dNil)) (dSeq (dFor (rng1 (dCons (dCall bLen (dCons (dBin opIx (dVar 0) (dC (.int 0))) dNil)) dNil)) (.nm 4) (dSeq (dSet 5 (dLst dNil)) (dSeq (dFor (srcT (dTup (dCons (dC (.str "alone")) (dCons (dC (.str "beside")) dNil)))) (.nm 6) (dSeq (dSet 7 (dLc (rng1 (dCons (dCall bLen (dCons (dVar 1) dNil)) dNil)) (.nm 8) (dB (dBin (opIsN true) (dCall d_law_entry (dCons (dVar 0) (dCons (dVar 1) (dCons (dVar 8) (dCons (dTup (dCons (dTup (dCons (dVar 4) (dCons (dVar 6) dNil))) dNil)) dNil))))) (dC .non))) (dVar 8) [8])) (dDrop (dMth mAppend (dVar 5) (dCons (dIf (dB (dBin opNe (dVar 7) (dLst dNil))) (dCall bMax (dCons (dLc (srcL (dVar 7)) (.nm 8) dYes (dBin opIx (dVar 2) (dVar 8)) [8]) dNil)) (dC .non)) dNil))))) (dDrop (dMth mAppend (dVar 3) (dCons (dCall bTuple (dCons (dVar 5) dNil)) dNil)))))) (dRet (dCall bTuple (dCons (dVar 3) dNil)))))
def d_law_ceilings : DF := dFn 3 9 b_law_ceilings
def b_law_drawn_raised : DS := (dSeq (dPar [4, 5] (dCons (dLc (srcT (dCall d_law_ceilings (dCons (dVar 1) (dCons (dVar 2) (dCons (dVar 3) dNil))))) (.nm 7) dYes (dCall bList (dCons (dVar 7) dNil)) [7]) (dCons (dCall d_law_draw (dCons (dVar 0) (dCons (dC (.int 4)) dNil))) dNil))) (dSeq (dSet 6 (dBin opAdd (dLst (dCons (dC .non) (dCons (dNeg (dC (.int 10))) (dCons (dC (.int 3)) (dCons (dBin opPow (dC (.int 10)) (dC (.int 19))) dNil))))) (dCall bList (dCons (dVar 3) dNil)))) (dSeq (dIfS (dB (dBin (opIn false) (dVar 5) (dTup (dCons (dC (.int 1)) (dCons (dC (.int 2)) dNil))))) (dIPut (dBin opIx (dVar 4) (dCall d_law_draw (dCons (dVar 0) (dCons (dCall bLen (dCons (dVar 4) dNil)) dNil)))) (dCall d_law_draw (dCons (dVar 0) (dCons (dC (.int 2)) dNil))) (dCall d_law_pick (dCons (dVar 0) (dCons (dVar 6) dNil)))) dSkip) (dSeq (dIfS (dB (dBin opEq (dVar 5) (dC (.int 3)))) (dSet 4 (dLc (srcT (dBin opIx (dVar 1) (dC (.int 0)))) (.nm 8) dYes (dLst (dCons (dCall d_law_pick (dCons (dVar 0) (dCons (dVar 6) dNil))) (dCons (dCall d_law_pick (dCons (dVar 0) (dCons (dVar 6) dNil))) dNil))) [8])) dSkip) (dRet (dCall bTuple (dCons (dLc (srcL (dVar 4)) (.nm 7) dYes (dCall bTuple (dCons (dVar 7) dNil)) [7]) dNil)))))))
def d_law_drawn_raised : DF := dFn 4 9 b_law_drawn_raised
def b_law_is_whole : DS := (dRet (dAndV (dIsI "int" (dVar 0)) (dAndV (dNotV (dIsI "bool" (dVar 0))) (dChain opLe opLt (dC (.int 0)) (dVar 0) (dVar 1)))))
def d_law_is_whole : DF := dFn 2 2 b_law_is_whole
def b_law_is_raised : DS := (dSeq (dIfS (dOr (dNot (dB (dIsI "tuple" (dVar 1)))) (dB (dBin opNe (dCall bLen (dCons (dVar 1) dNil)) (dCall bLen (dCons (dBin opIx (dVar 0) (dC (.int 0))) dNil))))) (dRet (dC (.bl false))) dSkip) (dSeq (dFor (srcT (dVar 1)) (.nm 2) (dSeq (dIfS (dOr (dNot (dB (dIsI "tuple" (dVar 2)))) (dB (dBin opNe (dCall bLen (dCons (dVar 2) dNil)) (dC (.int 2))))) (dRet (dC (.bl false))) dSkip) (dFor (srcT (dVar 2)) (.nm 3) (dIfS (dAnd (dB (dBin (opIsN true) (dVar 3) (dC .non))) (dOr (dB (dIsI "bool" (dVar 3))) (dNot (dB (dIsI "int" (dVar 3)))))) (dRet (dC (.bl false))) dSkip)))) (dRet (dC (.bl true)))))
def d_law_is_raised : DF := dFn 2 4 b_law_is_raised
def b_law_error : DS := (dSeq (dIfS (dOr (dNot (dB (dIsI "tuple" (dVar 4)))) (dB (dBin opNe (dCall bLen (dCons (dVar 4) dNil)) (dC (.int 4))))) (dRet (dC (.str "form"))) dSkip) (dSeq (dAsg (.tp [(.nm 5), (.nm 6), (.nm 7), (.nm 8)]) (dVar 4)) (dSeq (dIfS (dOr (dNot (dB (dCall d_law_is_whole (dCons (dVar 5) (dCons (dCall bLen (dCons (dVar 1) dNil)) dNil))))) (dOr (dNot (dB (dCall d_law_is_whole (dCons (dVar 7) (dCons (dCall bLen (dCons (dVar 1) dNil)) dNil))))) (dB (dBin opEq (dVar 5) (dVar 7))))) (dRet (dC (.str "form"))) dSkip) (dSeq (dIfS (dOr (dNot (dB (dCall d_law_is_whole (dCons (dVar 6) (dCons (dCall bLen (dCons (dBin opIx (dVar 1) (dVar 5)) dNil)) dNil))))) (dNot (dB (dCall d_law_is_whole (dCons (dVar 8) (dCons (dCall bLen (dCons (dBin opIx (dVar 1) (dVar 7)) dNil)) dNil)))))) (dRet (dC (.str "form"))) dSkip) (dSeq (dIfS (dB (dBin opLt (dBin opIx (dVar 2) (dVar 7)) (dBin opIx (dVar 2) (dVar 5)))) (dRet (dC (.str "rank"))) dSkip) (dSeq (dIfS (dB (dBin opNe (dCall d_law_entry (dCons (dVar 0) (dCons (dVar 1) (dCons (dVar 7) (dCons (dBin opIx (dBin opIx (dBin opIx (dVar 1) (dVar 5)) (dVar 6)) (dC (.int 0))) dNil))))) (dVar 8))) (dRet (dC (.str "entry"))) dSkip) (dRet (dIf (dB (dBin opGe (dCall d_law_rank_at (dCons (dVar 1) (dCons (dVar 2) (dCons (dVar 3) (dCons (dVar 5) (dCons (dVar 6) dNil)))))) (dBin opIx (dVar 2) (dVar 7)))) (dC (.str "raised")) (dC .non)))))))))
def d_law_error : DF := dFn 5 9 b_law_error
def b_law_longest : DS := (dSeq (dSet 4 (dC (.int 0))) (dSeq (dFor (enL (dCons (dVar 0) dNil)) (.tp [(.nm 5), (.nm 6)]) (dSeq (dSet 7 (dC (.int 0))) (dFor (srcL (dIf (dB (dBin opLt (dBin opIx (dVar 1) (dVar 5)) (dBin opIx (dVar 1) (dVar 3)))) (dListRg (dCall bLen (dCons (dVar 6) dNil))) (dLst dNil))) (.nm 8) (dSeq (dSet 7 (dIf (dB (dBin opGe (dCall d_law_rank_at (dCons (dVar 0) (dCons (dVar 1) (dCons (dVar 2) (dCons (dVar 5) (dCons (dVar 8) dNil)))))) (dBin opIx (dVar 1) (dVar 3)))) (dBin opAdd (dVar 7) (dC (.int 1))) (dC (.int 0)))) (dSet 4 (dCall bMax (dCons (dVar 4) (dCons (dVar 7) dNil)))))))) (dRet (dVar 4))))
def d_law_longest : DF := dFn 4 9 b_law_longest
def b_law_odd_raised : DS := (dSeq (dPar [2, 3] (dCons (dCall d_law_draw (dCons (dVar 0) (dCons (dCall bLen (dCons (dVar 1) dNil)) dNil))) (dCons (dCall d_law_draw (dCons (dVar 0) (dCons (dC (.int 6)) dNil))) dNil))) (dSeq (dSet 4 (dCall d_law_pick (dCons (dVar 0) (dCons (dLst (dCons (dTup (dCons (dC .non) dNil)) (dCons (dTup (dCons (dC (.int 0)) (dCons (dC (.int 0)) (dCons (dC (.int 0)) dNil)))) (dCons (dC .non) (dCons (dLst (dCons (dC (.int 0)) (dCons (dC (.int 0)) dNil))) (dCons (dTup (dCons (dC (.bl true)) (dCons (dC (.int 0)) dNil))) (dCons (dTup (dCons (dC (.int 0)) (dCons (dC (.str "1")) dNil))) (dCons (dTup (dCons (dC (.int 0)) (dCons (dTup dNil) dNil))) (dCons (dTup (dCons (dC (.int 5)) (dCons (dNeg (dC (.int 5))) dNil))) (dCons (dTup (dCons (dC .non) (dCons (dBin opPow (dC (.int 10)) (dC (.int 30))) dNil))) dNil)))))))))) dNil)))) (dSeq (dIfS (dB (dBin opLt (dVar 3) (dC (.int 3)))) (dRet (dBin opAdd (dBin opAdd (dSl (dVar 1) dNoPart (dPart (dVar 2))) (dTup (dCons (dVar 4) dNil))) (dSl (dVar 1) (dPart (dBin opAdd (dVar 2) (dC (.int 1)))) dNoPart))) dSkip) (dRet (dBin opIx (dLst (dCons (dSl (dVar 1) dNoPart (dPart (dNeg (dC (.int 1))))) (dCons (dBin opAdd (dVar 1) (dTup (dCons (dTup (dCons (dC .non) (dCons (dC .non) dNil))) dNil))) (dCons (dCall bList (dCons (dVar 1) dNil)) dNil)))) (dBin opSub (dVar 3) (dC (.int 3))))))))
def d_law_odd_raised : DF := dFn 2 5 b_law_odd_raised
def b_law_near : DS := (dSeq (dPar [2, 3] (dCons (dCall d_law_draw (dCons (dVar 0) (dCons (dC (.int 4)) dNil))) (dCons (dCall bList (dCons (dVar 1) dNil)) dNil))) (dSeq (dIPut (dVar 3) (dVar 2) (dCall d_law_pick (dCons (dVar 0) (dCons (dLst (dCons (dCall d_law_draw (dCons (dVar 0) (dCons (dC (.int 6)) dNil))) (dCons (dCall d_law_draw (dCons (dVar 0) (dCons (dC (.int 3)) dNil))) (dCons (dBin opAdd (dBin opIx (dVar 3) (dVar 2)) (dC (.int 1))) (dCons (dC .non) (dCons (dC (.bl true)) (dCons (dNeg (dC (.int 1))) (dCons (dC (.int 99)) dNil)))))))) dNil)))) (dRet (dCall d_law_pick (dCons (dVar 0) (dCons (dLst (dCons (dCall bTuple (dCons (dVar 3) dNil)) (dCons (dCall bTuple (dCons (dVar 3) dNil)) (dCons (dCall bTuple (dCons (dVar 3) dNil)) (dCons (dCall bList (dCons (dVar 1) dNil)) (dCons (dBin opAdd (dVar 1) (dTup (dCons (dC (.int 0)) dNil))) (dCons (dSl (dVar 1) dNoPart (dPart (dC (.int 3)))) dNil))))))) dNil))))))
def d_law_near : DF := dFn 2 4 b_law_near
def b_law_is_refused : DS := (dSeq (dTryR (dIfS (dB (dBin opEq (dVar 3) (dC (.int 0)))) (dDrop (dCall d_barred_error (dCons (dVar 0) (dCons (dVar 1) (dCons (dVar 2) (dCons (dC .non) dNil)))))) (dIfS (dB (dBin opEq (dVar 3) (dC (.int 1)))) (dDrop (dCall d_raised_wait (dCons (dVar 0) (dCons (dVar 1) (dCons (dVar 2) (dCons (dVar 4) dNil)))))) (dDrop (dCall d_raised_error (dCons (dVar 0) (dCons (dVar 2) dNil)))))) "Unfit" true) (dRet (dC (.bl false))))
def d_law_is_refused : DF := dFn 5 5 b_law_is_refused
def b_law : DS := (dSeq (dSet 1 (dCall d_law_deck (dCons (dVar 0) dNil))) (dSeq (dFor (rng1 (dCons (dC (.int 2)) dNil)) (.nm 2) (dSeq (dSet 3 (dCall d_law_pick (dCons (dVar 1) (dCons (dLst (dCons (dC (.int 1)) (dCons (dC (.int 2)) (dCons (dC (.int 2)) (dCons (dC (.int 3)) (dCons (dC (.int 4)) (dCons (dC (.int 5)) dNil))))))) dNil)))) (dSeq (dSet 4 (dCall d_law_calm (dCons (dVar 1) (dCons (dVar 3) (dCons (dBin opAdd (dC (.int 1)) (dCall d_law_draw (dCons (dVar 1) (dCons (dC (.int 5)) dNil)))) (dCons (dIf (dB (dBin opLt (dVar 3) (dC (.int 4)))) (dCall d_law_pick (dCons (dVar 1) (dCons (dLst (dCons (dC (.int 2)) (dCons (dC (.int 6)) (dCons (dC (.int 8)) (dCons (dC (.int 24)) dNil))))) dNil))) (dC (.int 8))) dNil)))))) (dSeq (dPar [5, 6, 7] (dCons (dCall d_law_plan (dCons (dVar 4) dNil)) (dCons (dCall d_law_ranked (dCons (dVar 1) (dCons (dVar 3) dNil))) (dCons (dCall bRepr (dCons (dVar 4) dNil)) dNil)))) (dSeq (dSet 8 (dCall d_law_drawn_raised (dCons (dVar 1) (dCons (dVar 4) (dCons (dVar 5) (dCons (dVar 6) dNil)))))) (dSeq (dFor (srcT (dTup (dCons (dVar 8) (dCons (dCall d_law_odd_raised (dCons (dVar 1) (dCons (dVar 8) dNil))) (dCons (dCall d_law_odd_raised (dCons (dVar 1) (dCons (dVar 8) dNil))) (dCons (dCall (d_law_any 5) (dCons (dVar 1) (dCons (dC (.int 3)) dNil))) dNil)))))) (.nm 9) (dSeq (dSet 10 (dIf (dB (dCall d_law_is_raised (dCons (dVar 4) (dCons (dVar 9) dNil)))) (dC .non) (dC (.str "form")))) (dIfS (dB (dBin opNe (dCall bRepr (dCons (dLst (dCons (dCall d_raised_error (dCons (dVar 4) (dCons (dVar 9) dNil))) (dCons (dCallK d_raised_error [1, 0] (dCons (dVar 9) (dCons (dVar 4) dNil))) dNil))) dNil)) (dCall bRepr (dCons (dLst (dCons (dVar 10) (dCons (dVar 10) dNil))) dNil)))) (dRet (dC (.bl false))) dSkip))) (dSeq (dSet 11 (dCall d_law_breaches (dCons (dVar 4) (dCons (dVar 5) (dCons (dVar 6) (dCons (dVar 8) dNil)))))) (dSeq (dPar [12, 13] (dCons (dCall d_law_draw (dCons (dVar 1) (dCons (dVar 3) dNil))) (dCons (dCall d_law_draw (dCons (dVar 1) (dCons (dVar 3) dNil))) dNil))) (dSeq (dSet 14 (dCall d_law_draw (dCons (dVar 1) (dCons (dCall bLen (dCons (dBin opIx (dVar 5) (dVar 12)) dNil)) dNil)))) (dSeq (dSet 15 (dCall d_law_entry (dCons (dVar 4) (dCons (dVar 5) (dCons (dVar 13) (dCons (dBin opIx (dBin opIx (dBin opIx (dVar 5) (dVar 12)) (dVar 14)) (dC (.int 0))) dNil)))))) (dSeq (dSet 16 (dLst (dCons (dTup (dCons (dVar 12) (dCons (dVar 14) (dCons (dVar 13) (dCons (dIf (dB (dBin (opIsN false) (dVar 15) (dC .non))) (dC (.int 0)) (dVar 15)) dNil))))) (dCons (dTup (dCons (dVar 12) (dCons (dVar 14) (dCons (dVar 13) (dCons (dCall d_law_draw (dCons (dVar 1) (dCons (dC (.int 8)) dNil))) dNil))))) (dCons (dTup dNil) (dCons (dC .non) dNil)))))) (dSeq (dSet 17 (dIf (dB (dBin opNe (dVar 11) (dLst dNil))) (dCall d_law_pick (dCons (dVar 1) (dCons (dVar 11) dNil))) (dBin opIx (dVar 16) (dC (.int 0))))) (dSeq (dSet 16 (dBin opAdd (dVar 16) (dLst (dCons (dVar 17) (dCons (dCall d_law_near (dCons (dVar 1) (dCons (dVar 17) dNil))) (dCons (dCall d_law_near (dCons (dVar 1) (dCons (dVar 17) dNil))) (dCons (dCall d_law_near (dCons (dVar 1) (dCons (dBin opIx (dVar 16) (dC (.int 0))) dNil))) dNil))))))) (dSeq (dFor (enL (dCons (dBin opAdd (dVar 16) (dLst (dCons (dCall (d_law_any 5) (dCons (dVar 1) (dCons (dC (.int 3)) dNil))) dNil))) dNil)) (.tp [(.nm 18), (.nm 9)]) (dSeq (dPar [10, 19] (dCons (dCall d_law_error (dCons (dVar 4) (dCons (dVar 5) (dCons (dVar 6) (dCons (dVar 8) (dCons (dVar 9) dNil)))))) (dCons (dCall bRepr (dCons (dLst (dCons (dVar 8) (dCons (dVar 9) dNil))) dNil)) dNil))) (dSeq (dSet 20 (dLst (dCons (dCall d_barred_error (dCons (dVar 4) (dCons (dVar 6) (dCons (dVar 8) (dCons (dVar 9) dNil))))) dNil))) (dSeq (dIfS (dB (dBin opEq (dBin opMod (dVar 18) (dC (.int 3))) (dC (.int 0)))) (dDrop (dMth mAppend (dVar 20) (dCons (dCallK d_barred_error [3, 2, 1, 0] (dCons (dVar 9) (dCons (dVar 8) (dCons (dVar 6) (dCons (dVar 4) dNil))))) dNil))) dSkip) (dIfS (dOr (dB (dBin opNe (dCall bRepr (dCons (dVar 20) dNil)) (dCall bRepr (dCons (dBin opMul (dLst (dCons (dVar 10) dNil)) (dCall bLen (dCons (dVar 20) dNil))) dNil)))) (dB (dBin opNe (dCall bRepr (dCons (dLst (dCons (dVar 8) (dCons (dVar 9) dNil))) dNil)) (dVar 19)))) (dRet (dC (.bl false))) dSkip))))) (dSeq (dSet 21 (dCall d_law_draw (dCons (dVar 1) (dCons (dVar 3) dNil)))) (dSeq (dSet 10 (dCall d_law_longest (dCons (dVar 5) (dCons (dVar 6) (dCons (dVar 8) (dCons (dVar 21) dNil)))))) (dSeq (dSet 20 (dLst (dCons (dCall d_raised_wait (dCons (dVar 4) (dCons (dVar 6) (dCons (dVar 8) (dCons (dVar 21) dNil))))) dNil))) (dSeq (dDrop (dMth mAppend (dVar 20) (dCons (dCallK d_raised_wait [3, 2, 1, 0] (dCons (dVar 21) (dCons (dVar 8) (dCons (dVar 6) (dCons (dVar 4) dNil))))) dNil))) (dSeq (dSet 22 (dCall d_law_pick (dCons (dVar 1) (dCons (dLst (dCons (dC .non) (dCons (dTup dNil) (dCons (dCall bList (dCons (dVar 8) dNil)) (dCons (dSl (dVar 8) dNoPart (dPart (dNeg (dC (.int 1))))) dNil))))) dNil)))) (dSeq (dSet 23 (dLst (dCons (dTup (dCons (dCall d_law_no_calm (dCons (dVar 1) (dCons (dVar 4) dNil))) (dCons (dVar 6) (dCons (dVar 8) (dCons (dCall d_law_draw (dCons (dVar 1) (dCons (dC (.int 3)) dNil))) dNil))))) (dCons (dTup (dCons (dVar 4) (dCons (dCall bList (dCons (dVar 6) dNil)) (dCons (dVar 8) (dCons (dC (.int 0)) dNil))))) dNil)))) (dSeq (dSet 24 (dCall d_law_pick (dCons (dVar 1) (dCons (dBin opAdd (dVar 23) (dLst (dCons (dTup (dCons (dVar 4) (dCons (dVar 6) (dCons (dVar 22) (dCons (dC (.int 0)) dNil))))) (dCons (dTup (dCons (dVar 4) (dCons (dVar 6) (dCons (dVar 22) (dCons (dC (.int 1)) dNil))))) (dCons (dTup (dCons (dVar 4) (dCons (dTup dNil) (dCons (dVar 8) (dCons (dC (.int 1)) dNil))))) dNil))))) dNil)))) (dSeq (dIfS (dOr (dB (dBin opNe (dCall bRepr (dCons (dVar 20) dNil)) (dCall bRepr (dCons (dLst (dCons (dVar 10) (dCons (dVar 10) dNil))) dNil)))) (dNot (dB (dCall d_law_is_refused (dCons (dBin opIx (dVar 24) (dC (.int 0))) (dCons (dBin opIx (dVar 24) (dC (.int 1))) (dCons (dBin opIx (dVar 24) (dC (.int 2))) (dCons (dBin opIx (dVar 24) (dC (.int 3))) (dCons (dC (.int 0)) dNil))))))))) (dRet (dC (.bl false))) dSkip) (dSeq (dSet 22 (dCall d_law_pick (dCons (dVar 1) (dCons (dLst (dCons (dC .non) (dCons (dC (.bl true)) (dCons (dNeg (dC (.int 1))) (dCons (dVar 3) (dCons (dC (.str "0")) (dCons (dTup (dCons (dC (.int 0)) dNil)) (dCons (dLst (dCons (dC (.int 0)) dNil)) (dCons dDic0 (dCons (dBin opPow (dC (.int 10)) (dC (.int 30))) dNil)))))))))) dNil)))) (dSeq (dIfS (dNot (dB (dCall d_law_is_refused (dCons (dVar 4) (dCons (dVar 6) (dCons (dVar 8) (dCons (dC (.int 1)) (dCons (dVar 22) dNil)))))))) (dRet (dC (.bl false))) dSkip) (dIfS (dB (dBin opNe (dCall bRepr (dCons (dVar 4) dNil)) (dVar 7))) (dRet (dC (.bl false))) dSkip))))))))))))))))))))))))) (dRet (dC (.bl true)))))
def d_law : DF := dFn 1 25 b_law
end Dn
set_option Elab.async false
set_option linter.all false
set_option maxRecDepth 100000
set_option maxHeartbeats 4000000
/-! Ok_k84: each def keeps its denotation, printed by gen.py. -/
namespace Dn
open PySem PySem.Spec PyProof.Rows L2
def top (i : Nat) : Stmt := PySem.Challenge.pw_manylocks_k84_ranks_for_rooms_and_breach.main.body.getD i (.Pass ⟨0, 0, 0, 0⟩)
theorem bt_abs : bootBuiltins "abs" = some (.builtin "abs") := by decide +kernel
theorem bt_all : bootBuiltins "all" = some (.builtin "all") := by decide +kernel
theorem bt_bool : bootBuiltins "bool" = some (.type "bool") := by decide +kernel
theorem bt_enumerate : bootBuiltins "enumerate" = some (.type "enumerate") := by decide +kernel
theorem bt_int : bootBuiltins "int" = some (.type "int") := by decide +kernel
theorem bt_isinstance : bootBuiltins "isinstance" = some (.builtin "isinstance") := by decide +kernel
theorem bt_len : bootBuiltins "len" = some (.builtin "len") := by decide +kernel
theorem bt_list : bootBuiltins "list" = some (.type "list") := by decide +kernel
theorem bt_max : bootBuiltins "max" = some (.builtin "max") := by decide +kernel
theorem bt_range : bootBuiltins "range" = some (.type "range") := by decide +kernel
theorem bt_repr : bootBuiltins "repr" = some (.builtin "repr") := by decide +kernel
theorem bt_tuple : bootBuiltins "tuple" = some (.type "tuple") := by decide +kernel
structure Tx (K : PySem.W.Frag) (mg : Str → Option Value) (cl : Str → Value) : Prop where
  n_abs : mg "abs" = none
  n_all : mg "all" = none
  n_bool : mg "bool" = none
  n_enumerate : mg "enumerate" = none
  n_int : mg "int" = none
  n_isinstance : mg "isinstance" = none
  n_len : mg "len" = none
  n_list : mg "list" = none
  n_max : mg "max" = none
  n_range : mg "range" = none
  n_repr : mg "repr" = none
  n_tuple : mg "tuple" = none
  e_Unfit : Exn K mg cl "Unfit"
  c_MODES : TupC K mg "MODES" ["alone", "beside"]
abbrev s_is_integer : Stmt := top 1
abbrev n_is_integer : List Str := ["value"]
theorem sc_is_integer : FnScope n_is_integer ["value"] (defScope s_is_integer) := ⟨rfl, rfl, rfl, by decide +kernel, rfl, by decide +kernel, by decide +kernel⟩
abbrev s_is_within : Stmt := top 2
abbrev n_is_within : List Str := ["value", "low", "high"]
theorem sc_is_within : FnScope n_is_within ["value", "low", "high"] (defScope s_is_within) := ⟨rfl, rfl, rfl, by decide +kernel, rfl, by decide +kernel, by decide +kernel⟩
abbrev s_held : Stmt := top 7
abbrev n_held : List Str := ["way", "place", "inside", "step"]
theorem sc_held : FnScope n_held ["way", "place"] (defScope s_held) := ⟨rfl, rfl, rfl, by decide +kernel, rfl, by decide +kernel, by decide +kernel⟩
abbrev s_wish : Stmt := top 8
abbrev n_wish : List Str := ["way", "place", "step"]
theorem sc_wish : FnScope n_wish ["way", "place"] (defScope s_wish) := ⟨rfl, rfl, rfl, by decide +kernel, rfl, by decide +kernel, by decide +kernel⟩
abbrev s_entries : Stmt := top 9
abbrev n_entries : List Str := ["way", "place", "step"]
theorem sc_entries : FnScope n_entries ["way"] (defScope s_entries) := ⟨rfl, rfl, rfl, by decide +kernel, rfl, by decide +kernel, by decide +kernel⟩
abbrev s_is_door : Stmt := top 11
abbrev n_is_door : List Str := ["house", "room"]
theorem sc_is_door : FnScope n_is_door ["house", "room"] (defScope s_is_door) := ⟨rfl, rfl, rfl, by decide +kernel, rfl, by decide +kernel, by decide +kernel⟩
abbrev s_clash : Stmt := top 13
abbrev n_clash : List Str := ["house", "one", "other"]
theorem sc_clash : FnScope n_clash ["house", "one", "other"] (defScope s_clash) := ⟨rfl, rfl, rfl, by decide +kernel, rfl, by decide +kernel, by decide +kernel⟩
abbrev s_is_calm : Stmt := top 15
abbrev n_is_calm : List Str := ["house", "room", "step", "way"]
theorem sc_is_calm : FnScope n_is_calm ["house"] (defScope s_is_calm) := ⟨rfl, rfl, rfl, by decide +kernel, rfl, by decide +kernel, by decide +kernel⟩
abbrev s_calm : Stmt := top 16
abbrev n_calm : List Str := ["house"]
theorem sc_calm : FnScope n_calm ["house"] (defScope s_calm) := ⟨rfl, rfl, rfl, by decide +kernel, rfl, by decide +kernel, by decide +kernel⟩
abbrev s_ranked : Stmt := top 17
abbrev n_ranked : List Str := ["house", "ranks"]
theorem sc_ranked : FnScope n_ranked ["house", "ranks"] (defScope s_ranked) := ⟨rfl, rfl, rfl, by decide +kernel, rfl, by decide +kernel, by decide +kernel⟩
abbrev s_handed_right : Stmt := top 18
abbrev n_handed_right : List Str := ["house", "hand"]
theorem sc_handed_right : FnScope n_handed_right ["house", "hand"] (defScope s_handed_right) := ⟨rfl, rfl, rfl, by decide +kernel, rfl, by decide +kernel, by decide +kernel⟩
abbrev s_ranks_error : Stmt := top 19
abbrev n_ranks_error : List Str := ["house", "value", "many", "i", "j", "item"]
theorem sc_ranks_error : FnScope n_ranks_error ["house", "value"] (defScope s_ranks_error) := ⟨rfl, rfl, rfl, by decide +kernel, rfl, by decide +kernel, by decide +kernel⟩
abbrev s_does_clash : Stmt := top 20
abbrev n_does_clash : List Str := ["house", "thing", "things", "other"]
theorem sc_does_clash : FnScope n_does_clash ["house", "thing", "things"] (defScope s_does_clash) := ⟨rfl, rfl, rfl, by decide +kernel, rfl, by decide +kernel, by decide +kernel⟩
abbrev s_barring_place : Stmt := top 21
abbrev n_barring_place : List Str := ["house", "hand", "things", "way", "place"]
theorem sc_barring_place : FnScope n_barring_place ["house", "hand", "things"] (defScope s_barring_place) := ⟨rfl, rfl, rfl, by decide +kernel, rfl, by decide +kernel, by decide +kernel⟩
abbrev s_raised_form : Stmt := top 24
abbrev n_raised_form : List Str := ["house", "value", "item", "own"]
theorem sc_raised_form : FnScope n_raised_form ["house", "value"] (defScope s_raised_form) := ⟨rfl, rfl, rfl, by decide +kernel, rfl, by decide +kernel, by decide +kernel⟩
abbrev s_raised_error : Stmt := top 25
abbrev n_raised_error : List Str := ["house", "value"]
theorem sc_raised_error : FnScope n_raised_error ["house", "value"] (defScope s_raised_error) := ⟨rfl, rfl, rfl, by decide +kernel, rfl, by decide +kernel, by decide +kernel⟩
abbrev s_told_right : Stmt := top 26
abbrev n_told_right : List Str := ["house", "ranks", "raised"]
theorem sc_told_right : FnScope n_told_right ["house", "ranks", "raised"] (defScope s_told_right) := ⟨rfl, rfl, rfl, by decide +kernel, rfl, by decide +kernel, by decide +kernel⟩
abbrev s_raised_to : Stmt := top 27
abbrev n_raised_to : List Str := ["raised", "things", "found", "room", "mode", "rank"]
theorem sc_raised_to : FnScope n_raised_to ["raised", "things"] (defScope s_raised_to) := ⟨rfl, rfl, rfl, by decide +kernel, rfl, by decide +kernel, by decide +kernel⟩
abbrev s_rank_at : Stmt := top 28
abbrev n_rank_at : List Str := ["house", "ranks", "raised", "hand", "place", "things"]
theorem sc_rank_at : FnScope n_rank_at ["house", "ranks", "raised", "hand", "place"] (defScope s_rank_at) := ⟨rfl, rfl, rfl, by decide +kernel, rfl, by decide +kernel, by decide +kernel⟩
abbrev s_is_breach_form : Stmt := top 29
abbrev n_is_breach_form : List Str := ["house", "value", "hand", "place"]
theorem sc_is_breach_form : FnScope n_is_breach_form ["house", "value"] (defScope s_is_breach_form) := ⟨rfl, rfl, rfl, by decide +kernel, rfl, by decide +kernel, by decide +kernel⟩
abbrev s_barred_error : Stmt := top 30
abbrev n_barred_error : List Str := ["house", "ranks", "raised", "value", "low", "place", "high", "entry"]
theorem sc_barred_error : FnScope n_barred_error ["house", "ranks", "raised", "value"] (defScope s_barred_error) := ⟨rfl, rfl, rfl, by decide +kernel, rfl, by decide +kernel, by decide +kernel⟩
abbrev s_longest_raised : Stmt := top 31
abbrev n_longest_raised : List Str := ["house", "ranks", "raised", "low", "rank", "best", "many", "place"]
theorem sc_longest_raised : FnScope n_longest_raised ["house", "ranks", "raised", "low", "rank"] (defScope s_longest_raised) := ⟨rfl, rfl, rfl, by decide +kernel, rfl, by decide +kernel, by decide +kernel⟩
abbrev s_raised_wait : Stmt := top 32
abbrev n_raised_wait : List Str := ["house", "ranks", "raised", "hand", "lower", "low", "rank"]
theorem sc_raised_wait : FnScope n_raised_wait ["house", "ranks", "raised", "hand"] (defScope s_raised_wait) := ⟨rfl, rfl, rfl, by decide +kernel, rfl, by decide +kernel, by decide +kernel⟩
abbrev s_law_deck : Stmt := top 34
abbrev n_law_deck : List Str := ["script", "deck", "cell", "own"]
theorem sc_law_deck : FnScope n_law_deck ["script"] (defScope s_law_deck) := ⟨rfl, rfl, rfl, by decide +kernel, rfl, by decide +kernel, by decide +kernel⟩
abbrev s_law_draw : Stmt := top 35
abbrev n_law_draw : List Str := ["deck", "many", "great", "number"]
theorem sc_law_draw : FnScope n_law_draw ["deck", "many"] (defScope s_law_draw) := ⟨rfl, rfl, rfl, by decide +kernel, rfl, by decide +kernel, by decide +kernel⟩
abbrev s_law_pick : Stmt := top 36
abbrev n_law_pick : List Str := ["deck", "row"]
theorem sc_law_pick : FnScope n_law_pick ["deck", "row"] (defScope s_law_pick) := ⟨rfl, rfl, rfl, by decide +kernel, rfl, by decide +kernel, by decide +kernel⟩
abbrev s_law_any : Stmt := top 37
abbrev n_law_any : List Str := ["deck", "deep", "sort", "items", "turn"]
theorem sc_law_any : FnScope n_law_any ["deck", "deep"] (defScope s_law_any) := ⟨rfl, rfl, rfl, by decide +kernel, rfl, by decide +kernel, by decide +kernel⟩
abbrev s_law_way : Stmt := top 38
abbrev n_law_way : List Str := ["deck", "modes", "most", "is_trying", "way", "inside", "many", "turn", "free", "is_full", "word", "room"]
theorem sc_law_way : FnScope n_law_way ["deck", "modes", "most", "is_trying"] (defScope s_law_way) := ⟨rfl, rfl, rfl, by decide +kernel, rfl, by decide +kernel, by decide +kernel⟩
abbrev s_law_beyond : Stmt := top 39
abbrev n_law_beyond : List Str := ["way", "place", "deep", "spot", "step"]
theorem sc_law_beyond : FnScope n_law_beyond ["way", "place"] (defScope s_law_beyond) := ⟨rfl, rfl, rfl, by decide +kernel, rfl, by decide +kernel, by decide +kernel⟩
abbrev s_law_plan : Stmt := top 40
abbrev n_law_plan : List Str := ["house", "plan", "way", "rows", "held_v", "place", "step"]
theorem sc_law_plan : FnScope n_law_plan ["house"] (defScope s_law_plan) := ⟨rfl, rfl, rfl, by decide +kernel, rfl, by decide +kernel, by decide +kernel⟩
abbrev s_law_meets : Stmt := top 41
abbrev n_law_meets : List Str := ["house", "thing", "held_v", "room", "mode"]
theorem sc_law_meets : FnScope n_law_meets ["house", "thing", "held_v"] (defScope s_law_meets) := ⟨rfl, rfl, rfl, by decide +kernel, rfl, by decide +kernel, by decide +kernel⟩
abbrev s_law_calm : Stmt := top 42
abbrev n_law_calm : List Str := ["deck", "hands", "rooms", "most", "modes", "room", "hand"]
theorem sc_law_calm : FnScope n_law_calm ["deck", "hands", "rooms", "most"] (defScope s_law_calm) := ⟨rfl, rfl, rfl, by decide +kernel, rfl, by decide +kernel, by decide +kernel⟩
abbrev s_law_ranked : Stmt := top 43
abbrev n_law_ranked : List Str := ["deck", "hands", "left", "hand"]
theorem sc_law_ranked : FnScope n_law_ranked ["deck", "hands"] (defScope s_law_ranked) := ⟨rfl, rfl, rfl, by decide +kernel, rfl, by decide +kernel, by decide +kernel⟩
abbrev s_law_no_calm : Stmt := top 44
abbrev n_law_no_calm : List Str := ["deck", "house", "rooms", "ways", "sort", "many", "book", "way", "orders", "table", "other", "hand"]
theorem sc_law_no_calm : FnScope n_law_no_calm ["deck", "house"] (defScope s_law_no_calm) := ⟨rfl, rfl, rfl, by decide +kernel, rfl, by decide +kernel, by decide +kernel⟩
abbrev s_law_told_by : Stmt := top 45
abbrev n_law_told_by : List Str := ["raised", "thing"]
theorem sc_law_told_by : FnScope n_law_told_by ["raised", "thing"] (defScope s_law_told_by) := ⟨rfl, rfl, rfl, by decide +kernel, rfl, by decide +kernel, by decide +kernel⟩
abbrev s_law_rank_at : Stmt := top 46
abbrev n_law_rank_at : List Str := ["plan", "ranks", "raised", "hand", "place", "some", "thing", "own"]
theorem sc_law_rank_at : FnScope n_law_rank_at ["plan", "ranks", "raised", "hand", "place"] (defScope s_law_rank_at) := ⟨rfl, rfl, rfl, by decide +kernel, rfl, by decide +kernel, by decide +kernel⟩
abbrev s_law_entry : Stmt := top 47
abbrev n_law_entry : List Str := ["house", "plan", "high", "things", "place", "held_v", "wish_v", "is_try", "behind"]
theorem sc_law_entry : FnScope n_law_entry ["house", "plan", "high", "things"] (defScope s_law_entry) := ⟨rfl, rfl, rfl, by decide +kernel, rfl, by decide +kernel, by decide +kernel⟩
abbrev s_law_breaches : Stmt := top 48
abbrev n_law_breaches : List Str := ["house", "plan", "ranks", "raised", "found", "low", "rows", "place", "high", "entry"]
theorem sc_law_breaches : FnScope n_law_breaches ["house", "plan", "ranks", "raised"] (defScope s_law_breaches) := ⟨rfl, rfl, rfl, by decide +kernel, rfl, by decide +kernel, by decide +kernel⟩
abbrev s_law_ceilings : Stmt := top 49
abbrev n_law_ceilings : List Str := ["house", "plan", "ranks", "found", "room", "pair", "mode", "hands", "hand"]
theorem sc_law_ceilings : FnScope n_law_ceilings ["house", "plan", "ranks"] (defScope s_law_ceilings) := ⟨rfl, rfl, rfl, by decide +kernel, rfl, by decide +kernel, by decide +kernel⟩
abbrev s_law_drawn_raised : Stmt := top 50
abbrev n_law_drawn_raised : List Str := ["deck", "house", "plan", "ranks", "raised", "way", "some", "pair", "room"]
theorem sc_law_drawn_raised : FnScope n_law_drawn_raised ["deck", "house", "plan", "ranks"] (defScope s_law_drawn_raised) := ⟨rfl, rfl, rfl, by decide +kernel, rfl, by decide +kernel, by decide +kernel⟩
abbrev s_law_is_whole : Stmt := top 51
abbrev n_law_is_whole : List Str := ["value", "many"]
theorem sc_law_is_whole : FnScope n_law_is_whole ["value", "many"] (defScope s_law_is_whole) := ⟨rfl, rfl, rfl, by decide +kernel, rfl, by decide +kernel, by decide +kernel⟩
abbrev s_law_is_raised : Stmt := top 52
abbrev n_law_is_raised : List Str := ["house", "value", "pair", "own"]
theorem sc_law_is_raised : FnScope n_law_is_raised ["house", "value"] (defScope s_law_is_raised) := ⟨rfl, rfl, rfl, by decide +kernel, rfl, by decide +kernel, by decide +kernel⟩
abbrev s_law_error : Stmt := top 53
abbrev n_law_error : List Str := ["house", "plan", "ranks", "raised", "value", "low", "place", "high", "entry"]
theorem sc_law_error : FnScope n_law_error ["house", "plan", "ranks", "raised", "value"] (defScope s_law_error) := ⟨rfl, rfl, rfl, by decide +kernel, rfl, by decide +kernel, by decide +kernel⟩
abbrev s_law_longest : Stmt := top 54
abbrev n_law_longest : List Str := ["plan", "ranks", "raised", "hand", "found", "other", "rows", "now", "place"]
theorem sc_law_longest : FnScope n_law_longest ["plan", "ranks", "raised", "hand"] (defScope s_law_longest) := ⟨rfl, rfl, rfl, by decide +kernel, rfl, by decide +kernel, by decide +kernel⟩
abbrev s_law_odd_raised : Stmt := top 55
abbrev n_law_odd_raised : List Str := ["deck", "raised", "at", "way", "own"]
theorem sc_law_odd_raised : FnScope n_law_odd_raised ["deck", "raised"] (defScope s_law_odd_raised) := ⟨rfl, rfl, rfl, by decide +kernel, rfl, by decide +kernel, by decide +kernel⟩
abbrev s_law_near : Stmt := top 56
abbrev n_law_near : List Str := ["deck", "breach", "at", "row"]
theorem sc_law_near : FnScope n_law_near ["deck", "breach"] (defScope s_law_near) := ⟨rfl, rfl, rfl, by decide +kernel, rfl, by decide +kernel, by decide +kernel⟩
abbrev s_law_is_refused : Stmt := top 57
abbrev n_law_is_refused : List Str := ["house", "ranks", "raised", "way", "hand"]
theorem sc_law_is_refused : FnScope n_law_is_refused ["house", "ranks", "raised", "way", "hand"] (defScope s_law_is_refused) := ⟨rfl, rfl, rfl, by decide +kernel, rfl, by decide +kernel, by decide +kernel⟩
abbrev s_law : Stmt := top 58
abbrev n_law : List Str := ["script", "deck", "turn", "hands", "house", "plan", "ranks", "kept", "raised", "value", "due", "some", "low", "high", "place", "entry", "values", "own", "k", "shown", "told", "hand", "odd", "bad", "one"]
theorem sc_law : FnScope n_law ["script"] (defScope s_law) := ⟨rfl, rfl, rfl, by decide +kernel, rfl, by decide +kernel, by decide +kernel⟩
section
variable {P : Program} {w : World} {K : PySem.W.Frag} {mg : Str → Option Value} {base : Heap} {cl : Str → Value}
theorem ok_is_integer (T : Tx K mg cl) {f : Addr} {fd : FuncData} (F : Fun K "is_integer" "is_integer" s_is_integer f fd) : FnOk P w K mg base (L2.CX P w) 1 f fd ["value"] (SpD K cl d_is_integer) := by
  refine fn_ok F sc_is_integer fun cdv A outer s H E hr => ?_
  have scN := sc_is_integer.nd
  have tk := takes_of (X := cxOf (L2.CX P w) P w K mg base n_is_integer "is_integer" (defScope s_is_integer) f cdv A outer s H E) (E := E) rfl rfl rfl rfl
  have hx := passes_call (E := E) tk (fun _ _ _ _ h => h)
  have hpo : PassesOwn (model P w) (cxOf (L2.CX P w) P w K mg base n_is_integer "is_integer" (defScope s_is_integer) f cdv A outer s H E).A (cxOf (L2.CX P w) P w K mg base n_is_integer "is_integer" (defScope s_is_integer) f cdv A outer s H E).env (cxOf (L2.CX P w) P w K mg base n_is_integer "is_integer" (defScope s_is_integer) f cdv A outer s H E).xe := passes_of (X := cxOf (L2.CX P w) P w K mg base n_is_integer "is_integer" (defScope s_is_integer) f cdv A outer s H E) rfl
  exact (sb_one (ss_ret (se_and (se_isi rfl T.n_isinstance bt_isinstance (se_var 0) rfl T.n_int bt_int) (se_one (se_not (se_isi rfl T.n_isinstance bt_isinstance (se_var 0) rfl T.n_bool bt_bool))))))
theorem ok_is_within (T : Tx K mg cl) {f : Addr} {fd : FuncData} (F : Fun K "is_within" "is_within" s_is_within f fd) (H_is_integer : Has P w K mg base cl "is_integer" 1 d_is_integer) : FnOk P w K mg base (L2.CX P w) 2 f fd ["value", "low", "high"] (SpD K cl d_is_within) := by
  refine fn_ok F sc_is_within fun cdv A outer s H E hr => ?_
  have scN := sc_is_within.nd
  have tk := takes_of (X := cxOf (L2.CX P w) P w K mg base n_is_within "is_within" (defScope s_is_within) f cdv A outer s H E) (E := E) rfl rfl rfl rfl
  have hx := passes_call (E := E) tk (fun _ _ _ _ h => h)
  have hpo : PassesOwn (model P w) (cxOf (L2.CX P w) P w K mg base n_is_within "is_within" (defScope s_is_within) f cdv A outer s H E).A (cxOf (L2.CX P w) P w K mg base n_is_within "is_within" (defScope s_is_within) f cdv A outer s H E).env (cxOf (L2.CX P w) P w K mg base n_is_within "is_within" (defScope s_is_within) f cdv A outer s H E).xe := passes_of (X := cxOf (L2.CX P w) P w K mg base n_is_within "is_within" (defScope s_is_within) f cdv A outer s H E) rfl
  exact (sb_one (ss_ret (se_and (se_call H_is_integer (hr.mono (by decide)) rfl hx (sa_cons (se_var 0) sa_nil)) (se_one (se_chain od_le od_le (se_var 1) (se_var 0) (se_var 2))))))
theorem ok_held (T : Tx K mg cl) {f : Addr} {fd : FuncData} (F : Fun K "held" "held" s_held f fd) : FnOk P w K mg base (L2.CX P w) 1 f fd ["way", "place"] (SpD K cl d_held) := by
  refine fn_ok F sc_held fun cdv A outer s H E hr => ?_
  have scN := sc_held.nd
  have tk := takes_of (X := cxOf (L2.CX P w) P w K mg base n_held "held" (defScope s_held) f cdv A outer s H E) (E := E) rfl rfl rfl rfl
  have hx := passes_call (E := E) tk (fun _ _ _ _ h => h)
  have hpo : PassesOwn (model P w) (cxOf (L2.CX P w) P w K mg base n_held "held" (defScope s_held) f cdv A outer s H E).A (cxOf (L2.CX P w) P w K mg base n_held "held" (defScope s_held) f cdv A outer s H E).env (cxOf (L2.CX P w) P w K mg base n_held "held" (defScope s_held) f cdv A outer s H E).xe := passes_of (X := cxOf (L2.CX P w) P w K mg base n_held "held" (defScope s_held) f cdv A outer s H E) rfl
  exact (sb_cons (ss_set (i := 2) scN rfl (Or.inl rfl) (se_lst sa_nil))
      (sb_cons (ss_for hpo rfl (so_tup (se_sl (se_var 0) so_none (so_some (se_var 1)))) (sg_name (i := 3) scN rfl (Or.inl rfl)) (sb_one (ss_if (st_cmp (od_ne hr.units) (se_ix (se_var 3) se_int) se_str (nomark _)) (sb_one (ss_expr (se_mth PySem.F.slot_list_append PySem.F.type_list_append md_append (se_var 2) (sa_cons (se_tup (sa_cons (se_ix (se_var 3) se_int) (sa_cons (se_ix (se_var 3) se_int) sa_nil))) sa_nil)))) (sb_one (ss_expr (se_mth0 PySem.F.slot_list_pop PySem.F.type_list_pop md_pop (se_var 2)))))))
      (sb_one (ss_ret (se_callTy cd_tuple rfl T.n_tuple bt_tuple (sa_cons (se_var 2) sa_nil))))))
theorem ok_wish (T : Tx K mg cl) {f : Addr} {fd : FuncData} (F : Fun K "wish" "wish" s_wish f fd) : FnOk P w K mg base (L2.CX P w) 1 f fd ["way", "place"] (SpD K cl d_wish) := by
  refine fn_ok F sc_wish fun cdv A outer s H E hr => ?_
  have scN := sc_wish.nd
  have tk := takes_of (X := cxOf (L2.CX P w) P w K mg base n_wish "wish" (defScope s_wish) f cdv A outer s H E) (E := E) rfl rfl rfl rfl
  have hx := passes_call (E := E) tk (fun _ _ _ _ h => h)
  have hpo : PassesOwn (model P w) (cxOf (L2.CX P w) P w K mg base n_wish "wish" (defScope s_wish) f cdv A outer s H E).A (cxOf (L2.CX P w) P w K mg base n_wish "wish" (defScope s_wish) f cdv A outer s H E).env (cxOf (L2.CX P w) P w K mg base n_wish "wish" (defScope s_wish) f cdv A outer s H E).xe := passes_of (X := cxOf (L2.CX P w) P w K mg base n_wish "wish" (defScope s_wish) f cdv A outer s H E) rfl
  exact (sb_cons (ss_set (i := 2) scN rfl (Or.inl rfl) (se_ix (se_var 0) (se_var 1)))
      (sb_one (ss_ret (se_if (st_cmp (od_ne hr.units) (se_ix (se_var 2) se_int) se_str (nomark _)) (se_tup (sa_cons (se_ix (se_var 2) se_int) (sa_cons (se_ix (se_var 2) se_int) sa_nil))) se_non))))
theorem ok_entries (T : Tx K mg cl) {f : Addr} {fd : FuncData} (F : Fun K "entries" "entries" s_entries f fd) : FnOk P w K mg base (L2.CX P w) 1 f fd ["way"] (SpD K cl d_entries) := by
  refine fn_ok F sc_entries fun cdv A outer s H E hr => ?_
  have scN := sc_entries.nd
  have tk := takes_of (X := cxOf (L2.CX P w) P w K mg base n_entries "entries" (defScope s_entries) f cdv A outer s H E) (E := E) rfl rfl rfl rfl
  have hx := passes_call (E := E) tk (fun _ _ _ _ h => h)
  have hpo : PassesOwn (model P w) (cxOf (L2.CX P w) P w K mg base n_entries "entries" (defScope s_entries) f cdv A outer s H E).A (cxOf (L2.CX P w) P w K mg base n_entries "entries" (defScope s_entries) f cdv A outer s H E).env (cxOf (L2.CX P w) P w K mg base n_entries "entries" (defScope s_entries) f cdv A outer s H E).xe := passes_of (X := cxOf (L2.CX P w) P w K mg base n_entries "entries" (defScope s_entries) f cdv A outer s H E) rfl
  exact (sb_one (ss_ret (se_callTy cd_tuple rfl T.n_tuple bt_tuple (sa_cons (se_lc (own := [("place", 1), ("step", 2)]) rfl scN (so_enumT rfl T.n_enumerate (sa_cons (se_var 0) sa_nil)) (blkOk_by (own := [("place", 1), ("step", 2)]) (N := n_entries) (sc := (defScope s_entries)) (by decide +kernel)) (by decide) (fun _ _ _ _ _ => (sg_tup rfl (sgs_cons (sg_name (i := 1) scN rfl (Or.inl rfl)) (sgs_cons (sg_name (i := 2) scN rfl (Or.inl rfl)) sgs_nil)))) (fun _ _ _ _ _ => (pts_one (st_cmp (od_ne hr.units) (se_ix (se_var 2) se_int) se_str (nomark _)))) (fun _ _ _ _ _ => (se_var 1))) sa_nil))))
theorem ok_is_door (T : Tx K mg cl) {f : Addr} {fd : FuncData} (F : Fun K "is_door" "is_door" s_is_door f fd) : FnOk P w K mg base (L2.CX P w) 1 f fd ["house", "room"] (SpD K cl d_is_door) := by
  refine fn_ok F sc_is_door fun cdv A outer s H E hr => ?_
  have scN := sc_is_door.nd
  have tk := takes_of (X := cxOf (L2.CX P w) P w K mg base n_is_door "is_door" (defScope s_is_door) f cdv A outer s H E) (E := E) rfl rfl rfl rfl
  have hx := passes_call (E := E) tk (fun _ _ _ _ h => h)
  have hpo : PassesOwn (model P w) (cxOf (L2.CX P w) P w K mg base n_is_door "is_door" (defScope s_is_door) f cdv A outer s H E).A (cxOf (L2.CX P w) P w K mg base n_is_door "is_door" (defScope s_is_door) f cdv A outer s H E).env (cxOf (L2.CX P w) P w K mg base n_is_door "is_door" (defScope s_is_door) f cdv A outer s H E).xe := passes_of (X := cxOf (L2.CX P w) P w K mg base n_is_door "is_door" (defScope s_is_door) f cdv A outer s H E) rfl
  exact (sb_one (ss_ret (se_cmp (od_eq hr.units) (se_ix (se_ix (se_ix (se_var 0) se_int) (se_var 1)) se_int) se_str (nomark _))))
theorem ok_clash (T : Tx K mg cl) {f : Addr} {fd : FuncData} (F : Fun K "clash" "clash" s_clash f fd) (H_is_door : Has P w K mg base cl "is_door" 1 d_is_door) : FnOk P w K mg base (L2.CX P w) 2 f fd ["house", "one", "other"] (SpD K cl d_clash) := by
  refine fn_ok F sc_clash fun cdv A outer s H E hr => ?_
  have scN := sc_clash.nd
  have tk := takes_of (X := cxOf (L2.CX P w) P w K mg base n_clash "clash" (defScope s_clash) f cdv A outer s H E) (E := E) rfl rfl rfl rfl
  have hx := passes_call (E := E) tk (fun _ _ _ _ h => h)
  have hpo : PassesOwn (model P w) (cxOf (L2.CX P w) P w K mg base n_clash "clash" (defScope s_clash) f cdv A outer s H E).A (cxOf (L2.CX P w) P w K mg base n_clash "clash" (defScope s_clash) f cdv A outer s H E).env (cxOf (L2.CX P w) P w K mg base n_clash "clash" (defScope s_clash) f cdv A outer s H E).xe := passes_of (X := cxOf (L2.CX P w) P w K mg base n_clash "clash" (defScope s_clash) f cdv A outer s H E) rfl
  exact (sb_one (ss_ret (se_and (se_cmp (od_eq hr.units) (se_ix (se_var 1) se_int) (se_ix (se_var 2) se_int) (nomark _)) (se_one (se_or (se_call H_is_door (hr.mono (by decide)) rfl hx (sa_cons (se_var 0) (sa_cons (se_ix (se_var 1) se_int) sa_nil))) (se_or (se_cmp (od_eq hr.units) (se_ix (se_var 1) se_int) se_str (nomark _)) (se_one (se_cmp (od_eq hr.units) (se_ix (se_var 2) se_int) se_str (nomark _)))))))))
theorem ok_is_calm (T : Tx K mg cl) {f : Addr} {fd : FuncData} (F : Fun K "is_calm" "is_calm" s_is_calm f fd) : FnOk P w K mg base (L2.CX P w) 1 f fd ["house"] (SpD K cl d_is_calm) := by
  refine fn_ok F sc_is_calm fun cdv A outer s H E hr => ?_
  have scN := sc_is_calm.nd
  have tk := takes_of (X := cxOf (L2.CX P w) P w K mg base n_is_calm "is_calm" (defScope s_is_calm) f cdv A outer s H E) (E := E) rfl rfl rfl rfl
  have hx := passes_call (E := E) tk (fun _ _ _ _ h => h)
  have hpo : PassesOwn (model P w) (cxOf (L2.CX P w) P w K mg base n_is_calm "is_calm" (defScope s_is_calm) f cdv A outer s H E).A (cxOf (L2.CX P w) P w K mg base n_is_calm "is_calm" (defScope s_is_calm) f cdv A outer s H E).env (cxOf (L2.CX P w) P w K mg base n_is_calm "is_calm" (defScope s_is_calm) f cdv A outer s H E).xe := passes_of (X := cxOf (L2.CX P w) P w K mg base n_is_calm "is_calm" (defScope s_is_calm) f cdv A outer s H E) rfl
  exact (sb_cons (ss_if (st_cmp (od_ne hr.units) (se_lc (own := [("room", 1)]) rfl scN (so_tup (se_ix (se_var 0) se_int)) (blkOk_by (own := [("room", 1)]) (N := n_is_calm) (sc := (defScope s_is_calm)) (by decide +kernel)) (by decide) (fun _ _ _ _ _ => (sg_name (i := 1) scN rfl (Or.inl rfl))) (fun _ _ _ _ _ => (pts_one (st_cmp (od_ne hr.units) (se_var 1) (se_tup (sa_cons se_str (sa_cons se_non sa_nil))) (nomark _)))) (fun _ _ _ _ _ => (se_var 1))) (se_lst sa_nil) (nomark _)) (sb_one (ss_ret se_bl)) sb_nil)
      (sb_one (ss_ret (se_cmp (od_eq hr.units) (se_lc (own := [("way", 3)]) rfl scN (so_tup (se_ix (se_var 0) se_int)) (blkOk_by (own := [("way", 3)]) (N := n_is_calm) (sc := (defScope s_is_calm)) (by decide +kernel)) (by decide) (fun _ _ _ _ _ => (sg_name (i := 3) scN rfl (Or.inl rfl))) (fun _ _ _ _ _ => (pts_one (st_cmp od_in se_str (se_lc (own := [("step", 2)]) rfl scN (so_tup (se_var 3)) (blkOk_by (own := [("step", 2)]) (N := n_is_calm) (sc := (relS { kind := .function, names := [(".0", .local), ("way", .local)], isGenerator := false, isCoroutine := false, more := [] : Scope } (defScope s_is_calm))) (by decide +kernel)) (by decide) (fun _ _ _ _ _ => (sg_name (i := 2) scN rfl (Or.inl rfl))) (fun _ _ _ _ _ => pts_yes) (fun _ _ _ _ _ => (se_ix (se_var 2) se_int))) rfl))) (fun _ _ _ _ _ => (se_var 3))) (se_lst sa_nil) (nomark _)))))
theorem ok_calm (T : Tx K mg cl) {f : Addr} {fd : FuncData} (F : Fun K "calm" "calm" s_calm f fd) (H_is_calm : Has P w K mg base cl "is_calm" 1 d_is_calm) : FnOk P w K mg base (L2.CX P w) 2 f fd ["house"] (SpD K cl d_calm) := by
  refine fn_ok F sc_calm fun cdv A outer s H E hr => ?_
  have scN := sc_calm.nd
  have tk := takes_of (X := cxOf (L2.CX P w) P w K mg base n_calm "calm" (defScope s_calm) f cdv A outer s H E) (E := E) rfl rfl rfl rfl
  have hx := passes_call (E := E) tk (fun _ _ _ _ h => h)
  have hpo : PassesOwn (model P w) (cxOf (L2.CX P w) P w K mg base n_calm "calm" (defScope s_calm) f cdv A outer s H E).A (cxOf (L2.CX P w) P w K mg base n_calm "calm" (defScope s_calm) f cdv A outer s H E).env (cxOf (L2.CX P w) P w K mg base n_calm "calm" (defScope s_calm) f cdv A outer s H E).xe := passes_of (X := cxOf (L2.CX P w) P w K mg base n_calm "calm" (defScope s_calm) f cdv A outer s H E) rfl
  exact (sb_one (ss_if (st_not (st_val (se_call H_is_calm (hr.mono (by decide)) rfl hx (sa_cons (se_var 0) sa_nil)))) (sb_one (ss_raise T.e_Unfit rfl tk rfl)) sb_nil))
theorem ok_ranks_error (T : Tx K mg cl) {f : Addr} {fd : FuncData} (F : Fun K "ranks_error" "ranks_error" s_ranks_error f fd) (H_calm : Has P w K mg base cl "calm" 2 d_calm) (H_is_integer : Has P w K mg base cl "is_integer" 1 d_is_integer) : FnOk P w K mg base (L2.CX P w) 3 f fd ["house", "value"] (SpD K cl d_ranks_error) := by
  refine fn_ok F sc_ranks_error fun cdv A outer s H E hr => ?_
  have scN := sc_ranks_error.nd
  have tk := takes_of (X := cxOf (L2.CX P w) P w K mg base n_ranks_error "ranks_error" (defScope s_ranks_error) f cdv A outer s H E) (E := E) rfl rfl rfl rfl
  have hx := passes_call (E := E) tk (fun _ _ _ _ h => h)
  have hpo : PassesOwn (model P w) (cxOf (L2.CX P w) P w K mg base n_ranks_error "ranks_error" (defScope s_ranks_error) f cdv A outer s H E).A (cxOf (L2.CX P w) P w K mg base n_ranks_error "ranks_error" (defScope s_ranks_error) f cdv A outer s H E).env (cxOf (L2.CX P w) P w K mg base n_ranks_error "ranks_error" (defScope s_ranks_error) f cdv A outer s H E).xe := passes_of (X := cxOf (L2.CX P w) P w K mg base n_ranks_error "ranks_error" (defScope s_ranks_error) f cdv A outer s H E) rfl
  exact (sb_cons (ss_expr (se_call H_calm (hr.mono (by decide)) rfl hx (sa_cons (se_var 0) sa_nil)))
      (sb_cons (ss_set (i := 2) scN rfl (Or.inl rfl) (se_callB cd_len rfl T.n_len bt_len (sa_cons (se_ix (se_var 0) se_int) sa_nil)))
      (sb_cons (ss_if (PW.pt (sw_or (st_not (st_val (se_isi rfl T.n_isinstance bt_isinstance (se_var 1) rfl T.n_tuple bt_tuple))) (sw_or (st_cmp (od_ne hr.units) (se_callB cd_len rfl T.n_len bt_len (sa_cons (se_var 1) sa_nil)) (se_var 2) (nomark _)) (sw_or1 (st_not (st_val (se_callB (cd_all rfl) rfl T.n_all bt_all (sa_cons (se_lc (own := [("item", 5)]) rfl scN (so_tup (se_var 1)) (blkOk_by (own := [("item", 5)]) (N := n_ranks_error) (sc := (defScope s_ranks_error)) (by decide +kernel)) (by decide) (fun _ _ _ _ _ => (sg_name (i := 5) scN rfl (Or.inl rfl))) (fun _ _ _ _ _ => pts_yes) (fun _ _ _ _ _ => (se_call H_is_integer (hr.mono (by decide)) rfl passL (sa_cons (se_var 5) sa_nil)))) sa_nil)))))))) (sb_one (ss_ret se_str)) sb_nil)
      (sb_cons (ss_for hpo rfl (so_range1 rfl T.n_range (sa_cons (se_var 2) sa_nil)) (sg_name (i := 3) scN rfl (Or.inl rfl)) (sb_one (ss_for hpo rfl (so_range2 rfl T.n_range (sa_cons (se_bin od_add (se_var 3) se_int) (sa_cons (se_var 2) sa_nil))) (sg_name (i := 4) scN rfl (Or.inl rfl)) (sb_one (ss_if (st_cmp (od_eq hr.units) (se_ix (se_var 1) (se_var 3)) (se_ix (se_var 1) (se_var 4)) (nomark _)) (sb_one (ss_ret (se_tup (sa_cons se_str (sa_cons (se_var 3) (sa_cons (se_var 4) sa_nil)))))) sb_nil)))))
      (sb_one (ss_ret se_non))))))
theorem ok_ranked (T : Tx K mg cl) {f : Addr} {fd : FuncData} (F : Fun K "ranked" "ranked" s_ranked f fd) (H_ranks_error : Has P w K mg base cl "ranks_error" 3 d_ranks_error) : FnOk P w K mg base (L2.CX P w) 4 f fd ["house", "ranks"] (SpD K cl d_ranked) := by
  refine fn_ok F sc_ranked fun cdv A outer s H E hr => ?_
  have scN := sc_ranked.nd
  have tk := takes_of (X := cxOf (L2.CX P w) P w K mg base n_ranked "ranked" (defScope s_ranked) f cdv A outer s H E) (E := E) rfl rfl rfl rfl
  have hx := passes_call (E := E) tk (fun _ _ _ _ h => h)
  have hpo : PassesOwn (model P w) (cxOf (L2.CX P w) P w K mg base n_ranked "ranked" (defScope s_ranked) f cdv A outer s H E).A (cxOf (L2.CX P w) P w K mg base n_ranked "ranked" (defScope s_ranked) f cdv A outer s H E).env (cxOf (L2.CX P w) P w K mg base n_ranked "ranked" (defScope s_ranked) f cdv A outer s H E).xe := passes_of (X := cxOf (L2.CX P w) P w K mg base n_ranked "ranked" (defScope s_ranked) f cdv A outer s H E) rfl
  exact (sb_one (ss_if (st_cmp od_notN (se_call H_ranks_error (hr.mono (by decide)) rfl hx (sa_cons (se_var 0) (sa_cons (se_var 1) sa_nil))) se_non (nomark _)) (sb_one (ss_raise T.e_Unfit rfl tk rfl)) sb_nil))
theorem ok_handed_right (T : Tx K mg cl) {f : Addr} {fd : FuncData} (F : Fun K "handed_right" "handed_right" s_handed_right f fd) (H_is_within : Has P w K mg base cl "is_within" 2 d_is_within) : FnOk P w K mg base (L2.CX P w) 3 f fd ["house", "hand"] (SpD K cl d_handed_right) := by
  refine fn_ok F sc_handed_right fun cdv A outer s H E hr => ?_
  have scN := sc_handed_right.nd
  have tk := takes_of (X := cxOf (L2.CX P w) P w K mg base n_handed_right "handed_right" (defScope s_handed_right) f cdv A outer s H E) (E := E) rfl rfl rfl rfl
  have hx := passes_call (E := E) tk (fun _ _ _ _ h => h)
  have hpo : PassesOwn (model P w) (cxOf (L2.CX P w) P w K mg base n_handed_right "handed_right" (defScope s_handed_right) f cdv A outer s H E).A (cxOf (L2.CX P w) P w K mg base n_handed_right "handed_right" (defScope s_handed_right) f cdv A outer s H E).env (cxOf (L2.CX P w) P w K mg base n_handed_right "handed_right" (defScope s_handed_right) f cdv A outer s H E).xe := passes_of (X := cxOf (L2.CX P w) P w K mg base n_handed_right "handed_right" (defScope s_handed_right) f cdv A outer s H E) rfl
  exact (sb_one (ss_if (st_not (st_val (se_call H_is_within (hr.mono (by decide)) rfl hx (sa_cons (se_var 1) (sa_cons se_int (sa_cons (se_bin od_sub (se_callB cd_len rfl T.n_len bt_len (sa_cons (se_ix (se_var 0) se_int) sa_nil)) se_int) sa_nil)))))) (sb_one (ss_raise T.e_Unfit rfl tk rfl)) sb_nil))
theorem ok_does_clash (T : Tx K mg cl) {f : Addr} {fd : FuncData} (F : Fun K "does_clash" "does_clash" s_does_clash f fd) (H_clash : Has P w K mg base cl "clash" 2 d_clash) : FnOk P w K mg base (L2.CX P w) 3 f fd ["house", "thing", "things"] (SpD K cl d_does_clash) := by
  refine fn_ok F sc_does_clash fun cdv A outer s H E hr => ?_
  have scN := sc_does_clash.nd
  have tk := takes_of (X := cxOf (L2.CX P w) P w K mg base n_does_clash "does_clash" (defScope s_does_clash) f cdv A outer s H E) (E := E) rfl rfl rfl rfl
  have hx := passes_call (E := E) tk (fun _ _ _ _ h => h)
  have hpo : PassesOwn (model P w) (cxOf (L2.CX P w) P w K mg base n_does_clash "does_clash" (defScope s_does_clash) f cdv A outer s H E).A (cxOf (L2.CX P w) P w K mg base n_does_clash "does_clash" (defScope s_does_clash) f cdv A outer s H E).env (cxOf (L2.CX P w) P w K mg base n_does_clash "does_clash" (defScope s_does_clash) f cdv A outer s H E).xe := passes_of (X := cxOf (L2.CX P w) P w K mg base n_does_clash "does_clash" (defScope s_does_clash) f cdv A outer s H E) rfl
  exact (sb_one (ss_ret (se_cmp (od_ne hr.units) (se_lc (own := [("other", 3)]) rfl scN (so_tup (se_var 2)) (blkOk_by (own := [("other", 3)]) (N := n_does_clash) (sc := (defScope s_does_clash)) (by decide +kernel)) (by decide) (fun _ _ _ _ _ => (sg_name (i := 3) scN rfl (Or.inl rfl))) (fun _ _ _ _ _ => (pts_one (st_val (se_call H_clash (hr.mono (by decide)) rfl passL (sa_cons (se_var 0) (sa_cons (se_var 1) (sa_cons (se_var 3) sa_nil))))))) (fun _ _ _ _ _ => se_int)) (se_lst sa_nil) (nomark _))))
theorem ok_barring_place (T : Tx K mg cl) {f : Addr} {fd : FuncData} (F : Fun K "barring_place" "barring_place" s_barring_place f fd) (H_does_clash : Has P w K mg base cl "does_clash" 3 d_does_clash) (H_entries : Has P w K mg base cl "entries" 1 d_entries) (H_wish : Has P w K mg base cl "wish" 1 d_wish) : FnOk P w K mg base (L2.CX P w) 4 f fd ["house", "hand", "things"] (SpD K cl d_barring_place) := by
  refine fn_ok F sc_barring_place fun cdv A outer s H E hr => ?_
  have scN := sc_barring_place.nd
  have tk := takes_of (X := cxOf (L2.CX P w) P w K mg base n_barring_place "barring_place" (defScope s_barring_place) f cdv A outer s H E) (E := E) rfl rfl rfl rfl
  have hx := passes_call (E := E) tk (fun _ _ _ _ h => h)
  have hpo : PassesOwn (model P w) (cxOf (L2.CX P w) P w K mg base n_barring_place "barring_place" (defScope s_barring_place) f cdv A outer s H E).A (cxOf (L2.CX P w) P w K mg base n_barring_place "barring_place" (defScope s_barring_place) f cdv A outer s H E).env (cxOf (L2.CX P w) P w K mg base n_barring_place "barring_place" (defScope s_barring_place) f cdv A outer s H E).xe := passes_of (X := cxOf (L2.CX P w) P w K mg base n_barring_place "barring_place" (defScope s_barring_place) f cdv A outer s H E) rfl
  exact (sb_cons (ss_set (i := 3) scN rfl (Or.inl rfl) (se_ix (se_ix (se_var 0) se_int) (se_var 1)))
      (sb_cons (ss_for hpo rfl (so_tup (se_call H_entries (hr.mono (by decide)) rfl hx (sa_cons (se_var 3) sa_nil))) (sg_name (i := 4) scN rfl (Or.inl rfl)) (sb_one (ss_if (st_val (se_call H_does_clash (hr.mono (by decide)) rfl hx (sa_cons (se_var 0) (sa_cons (se_call H_wish (hr.mono (by decide)) rfl hx (sa_cons (se_var 3) (sa_cons (se_var 4) sa_nil))) (sa_cons (se_var 2) sa_nil))))) (sb_one (ss_ret (se_var 4))) sb_nil)))
      (sb_one (ss_ret se_non))))
theorem ok_raised_form (T : Tx K mg cl) {f : Addr} {fd : FuncData} (F : Fun K "raised_form" "raised_form" s_raised_form f fd) (H_is_integer : Has P w K mg base cl "is_integer" 1 d_is_integer) : FnOk P w K mg base (L2.CX P w) 2 f fd ["house", "value"] (SpD K cl d_raised_form) := by
  refine fn_ok F sc_raised_form fun cdv A outer s H E hr => ?_
  have scN := sc_raised_form.nd
  have tk := takes_of (X := cxOf (L2.CX P w) P w K mg base n_raised_form "raised_form" (defScope s_raised_form) f cdv A outer s H E) (E := E) rfl rfl rfl rfl
  have hx := passes_call (E := E) tk (fun _ _ _ _ h => h)
  have hpo : PassesOwn (model P w) (cxOf (L2.CX P w) P w K mg base n_raised_form "raised_form" (defScope s_raised_form) f cdv A outer s H E).A (cxOf (L2.CX P w) P w K mg base n_raised_form "raised_form" (defScope s_raised_form) f cdv A outer s H E).env (cxOf (L2.CX P w) P w K mg base n_raised_form "raised_form" (defScope s_raised_form) f cdv A outer s H E).xe := passes_of (X := cxOf (L2.CX P w) P w K mg base n_raised_form "raised_form" (defScope s_raised_form) f cdv A outer s H E) rfl
  exact (sb_cons (ss_if (PW.pt (sw_or (st_not (st_val (se_isi rfl T.n_isinstance bt_isinstance (se_var 1) rfl T.n_tuple bt_tuple))) (sw_or1 (st_cmp (od_ne hr.units) (se_callB cd_len rfl T.n_len bt_len (sa_cons (se_var 1) sa_nil)) (se_callB cd_len rfl T.n_len bt_len (sa_cons (se_ix (se_var 0) se_int) sa_nil)) (nomark _))))) (sb_one (ss_ret se_bl)) sb_nil)
      (sb_cons (ss_for hpo rfl (so_tup (se_var 1)) (sg_name (i := 2) scN rfl (Or.inl rfl)) (sb_cons (ss_if (PW.pt (sw_or (st_not (st_val (se_isi rfl T.n_isinstance bt_isinstance (se_var 2) rfl T.n_tuple bt_tuple))) (sw_or1 (st_cmp (od_ne hr.units) (se_callB cd_len rfl T.n_len bt_len (sa_cons (se_var 2) sa_nil)) se_int (nomark _))))) (sb_one (ss_ret se_bl)) sb_nil)
      (sb_one (ss_if (st_cmp (od_ne hr.units) (se_lc (own := [("own", 3)]) rfl scN (so_tup (se_var 2)) (blkOk_by (own := [("own", 3)]) (N := n_raised_form) (sc := (defScope s_raised_form)) (by decide +kernel)) (by decide) (fun _ _ _ _ _ => (sg_name (i := 3) scN rfl (Or.inl rfl))) (fun _ _ _ _ _ => (pts_one (PW.pt (sw_and (st_cmp od_notN (se_var 3) se_non (nomark _)) (sw_and1 (st_not (st_val (se_call H_is_integer (hr.mono (by decide)) rfl passL (sa_cons (se_var 3) sa_nil))))))))) (fun _ _ _ _ _ => (se_var 3))) (se_lst sa_nil) (nomark _)) (sb_one (ss_ret se_bl)) sb_nil))))
      (sb_one (ss_ret se_bl))))
theorem ok_raised_error (T : Tx K mg cl) {f : Addr} {fd : FuncData} (F : Fun K "raised_error" "raised_error" s_raised_error f fd) (H_calm : Has P w K mg base cl "calm" 2 d_calm) (H_raised_form : Has P w K mg base cl "raised_form" 2 d_raised_form) : FnOk P w K mg base (L2.CX P w) 3 f fd ["house", "value"] (SpD K cl d_raised_error) := by
  refine fn_ok F sc_raised_error fun cdv A outer s H E hr => ?_
  have scN := sc_raised_error.nd
  have tk := takes_of (X := cxOf (L2.CX P w) P w K mg base n_raised_error "raised_error" (defScope s_raised_error) f cdv A outer s H E) (E := E) rfl rfl rfl rfl
  have hx := passes_call (E := E) tk (fun _ _ _ _ h => h)
  have hpo : PassesOwn (model P w) (cxOf (L2.CX P w) P w K mg base n_raised_error "raised_error" (defScope s_raised_error) f cdv A outer s H E).A (cxOf (L2.CX P w) P w K mg base n_raised_error "raised_error" (defScope s_raised_error) f cdv A outer s H E).env (cxOf (L2.CX P w) P w K mg base n_raised_error "raised_error" (defScope s_raised_error) f cdv A outer s H E).xe := passes_of (X := cxOf (L2.CX P w) P w K mg base n_raised_error "raised_error" (defScope s_raised_error) f cdv A outer s H E) rfl
  exact (sb_cons (ss_expr (se_call H_calm (hr.mono (by decide)) rfl hx (sa_cons (se_var 0) sa_nil)))
      (sb_one (ss_ret (se_if (st_val (se_call H_raised_form (hr.mono (by decide)) rfl hx (sa_cons (se_var 0) (sa_cons (se_var 1) sa_nil)))) se_non se_str))))
theorem ok_told_right (T : Tx K mg cl) {f : Addr} {fd : FuncData} (F : Fun K "told_right" "told_right" s_told_right f fd) (H_raised_form : Has P w K mg base cl "raised_form" 2 d_raised_form) (H_ranked : Has P w K mg base cl "ranked" 4 d_ranked) : FnOk P w K mg base (L2.CX P w) 5 f fd ["house", "ranks", "raised"] (SpD K cl d_told_right) := by
  refine fn_ok F sc_told_right fun cdv A outer s H E hr => ?_
  have scN := sc_told_right.nd
  have tk := takes_of (X := cxOf (L2.CX P w) P w K mg base n_told_right "told_right" (defScope s_told_right) f cdv A outer s H E) (E := E) rfl rfl rfl rfl
  have hx := passes_call (E := E) tk (fun _ _ _ _ h => h)
  have hpo : PassesOwn (model P w) (cxOf (L2.CX P w) P w K mg base n_told_right "told_right" (defScope s_told_right) f cdv A outer s H E).A (cxOf (L2.CX P w) P w K mg base n_told_right "told_right" (defScope s_told_right) f cdv A outer s H E).env (cxOf (L2.CX P w) P w K mg base n_told_right "told_right" (defScope s_told_right) f cdv A outer s H E).xe := passes_of (X := cxOf (L2.CX P w) P w K mg base n_told_right "told_right" (defScope s_told_right) f cdv A outer s H E) rfl
  exact (sb_cons (ss_expr (se_call H_ranked (hr.mono (by decide)) rfl hx (sa_cons (se_var 0) (sa_cons (se_var 1) sa_nil))))
      (sb_one (ss_if (st_not (st_val (se_call H_raised_form (hr.mono (by decide)) rfl hx (sa_cons (se_var 0) (sa_cons (se_var 2) sa_nil))))) (sb_one (ss_raise T.e_Unfit rfl tk rfl)) sb_nil)))
theorem ok_raised_to (T : Tx K mg cl) {f : Addr} {fd : FuncData} (F : Fun K "raised_to" "raised_to" s_raised_to f fd) : FnOk P w K mg base (L2.CX P w) 1 f fd ["raised", "things"] (SpD K cl d_raised_to) := by
  refine fn_ok F sc_raised_to fun cdv A outer s H E hr => ?_
  have scN := sc_raised_to.nd
  have tk := takes_of (X := cxOf (L2.CX P w) P w K mg base n_raised_to "raised_to" (defScope s_raised_to) f cdv A outer s H E) (E := E) rfl rfl rfl rfl
  have hx := passes_call (E := E) tk (fun _ _ _ _ h => h)
  have hpo : PassesOwn (model P w) (cxOf (L2.CX P w) P w K mg base n_raised_to "raised_to" (defScope s_raised_to) f cdv A outer s H E).A (cxOf (L2.CX P w) P w K mg base n_raised_to "raised_to" (defScope s_raised_to) f cdv A outer s H E).env (cxOf (L2.CX P w) P w K mg base n_raised_to "raised_to" (defScope s_raised_to) f cdv A outer s H E).xe := passes_of (X := cxOf (L2.CX P w) P w K mg base n_raised_to "raised_to" (defScope s_raised_to) f cdv A outer s H E) rfl
  exact (sb_cons (ss_setLc (own := [("room", 3), ("mode", 4)]) (i := 2) rfl scN rfl rfl (sw_true rfl rfl rfl (by decide +kernel)) (so_tup (se_var 1)) (blkOk_by (own := [("room", 3), ("mode", 4)]) (N := n_raised_to) (sc := (defScope s_raised_to)) (by decide +kernel)) (by decide) (fun _ _ _ _ _ => (sg_tup rfl (sgs_cons (sg_name (i := 3) scN rfl (Or.inl rfl)) (sgs_cons (sg_name (i := 4) scN rfl (Or.inl rfl)) sgs_nil)))) (fun _ _ _ _ _ => pts_yes) (fun _ _ _ _ _ => (se_ix (se_ix (se_var 0) (se_var 3)) (se_ixC T.c_MODES rfl (se_var 4)))))
      (sb_one (ss_ret (se_lc (own := [("rank", 5)]) rfl scN (so_list (se_var 2)) (blkOk_by (own := [("rank", 5)]) (N := n_raised_to) (sc := (defScope s_raised_to)) (by decide +kernel)) (by decide) (fun _ _ _ _ _ => (sg_name (i := 5) scN rfl (Or.inl rfl))) (fun _ _ _ _ _ => (pts_one (st_cmp od_notN (se_var 5) se_non (nomark _)))) (fun _ _ _ _ _ => (se_var 5))))))
theorem ok_rank_at (T : Tx K mg cl) {f : Addr} {fd : FuncData} (F : Fun K "rank_at" "rank_at" s_rank_at f fd) (H_held : Has P w K mg base cl "held" 1 d_held) (H_raised_to : Has P w K mg base cl "raised_to" 1 d_raised_to) : FnOk P w K mg base (L2.CX P w) 2 f fd ["house", "ranks", "raised", "hand", "place"] (SpD K cl d_rank_at) := by
  refine fn_ok F sc_rank_at fun cdv A outer s H E hr => ?_
  have scN := sc_rank_at.nd
  have tk := takes_of (X := cxOf (L2.CX P w) P w K mg base n_rank_at "rank_at" (defScope s_rank_at) f cdv A outer s H E) (E := E) rfl rfl rfl rfl
  have hx := passes_call (E := E) tk (fun _ _ _ _ h => h)
  have hpo : PassesOwn (model P w) (cxOf (L2.CX P w) P w K mg base n_rank_at "rank_at" (defScope s_rank_at) f cdv A outer s H E).A (cxOf (L2.CX P w) P w K mg base n_rank_at "rank_at" (defScope s_rank_at) f cdv A outer s H E).env (cxOf (L2.CX P w) P w K mg base n_rank_at "rank_at" (defScope s_rank_at) f cdv A outer s H E).xe := passes_of (X := cxOf (L2.CX P w) P w K mg base n_rank_at "rank_at" (defScope s_rank_at) f cdv A outer s H E) rfl
  exact (sb_cons (ss_set (i := 5) scN rfl (Or.inl rfl) (se_if (st_cmp od_isN (se_var 4) se_non (nomark _)) (se_tup sa_nil) (se_call H_held (hr.mono (by decide)) rfl hx (sa_cons (se_ix (se_ix (se_var 0) se_int) (se_var 3)) (sa_cons (se_var 4) sa_nil)))))
      (sb_one (ss_ret (se_callB (cd_max rfl) rfl T.n_max bt_max (sa_cons (se_bin od_add (se_lst (sa_cons (se_ix (se_var 1) (se_var 3)) sa_nil)) (se_call H_raised_to (hr.mono (by decide)) rfl hx (sa_cons (se_var 2) (sa_cons (se_var 5) sa_nil)))) sa_nil)))))
theorem ok_is_breach_form (T : Tx K mg cl) {f : Addr} {fd : FuncData} (F : Fun K "is_breach_form" "is_breach_form" s_is_breach_form f fd) (H_is_within : Has P w K mg base cl "is_within" 2 d_is_within) : FnOk P w K mg base (L2.CX P w) 3 f fd ["house", "value"] (SpD K cl d_is_breach_form) := by
  refine fn_ok F sc_is_breach_form fun cdv A outer s H E hr => ?_
  have scN := sc_is_breach_form.nd
  have tk := takes_of (X := cxOf (L2.CX P w) P w K mg base n_is_breach_form "is_breach_form" (defScope s_is_breach_form) f cdv A outer s H E) (E := E) rfl rfl rfl rfl
  have hx := passes_call (E := E) tk (fun _ _ _ _ h => h)
  have hpo : PassesOwn (model P w) (cxOf (L2.CX P w) P w K mg base n_is_breach_form "is_breach_form" (defScope s_is_breach_form) f cdv A outer s H E).A (cxOf (L2.CX P w) P w K mg base n_is_breach_form "is_breach_form" (defScope s_is_breach_form) f cdv A outer s H E).env (cxOf (L2.CX P w) P w K mg base n_is_breach_form "is_breach_form" (defScope s_is_breach_form) f cdv A outer s H E).xe := passes_of (X := cxOf (L2.CX P w) P w K mg base n_is_breach_form "is_breach_form" (defScope s_is_breach_form) f cdv A outer s H E) rfl
  exact (sb_cons (ss_if (PW.pt (sw_or (st_not (st_val (se_isi rfl T.n_isinstance bt_isinstance (se_var 1) rfl T.n_tuple bt_tuple))) (sw_or1 (st_cmp (od_ne hr.units) (se_callB cd_len rfl T.n_len bt_len (sa_cons (se_var 1) sa_nil)) se_int (nomark _))))) (sb_one (ss_ret se_bl)) sb_nil)
      (sb_cons (ss_for hpo rfl (so_tup (se_tup (sa_cons (se_sl (se_var 1) so_none (so_some se_int)) (sa_cons (se_sl (se_var 1) (so_some se_int) so_none) sa_nil)))) (sg_tup rfl (sgs_cons (sg_name (i := 2) scN rfl (Or.inl rfl)) (sgs_cons (sg_name (i := 3) scN rfl (Or.inl rfl)) sgs_nil))) (sb_one (ss_if (PW.pt (sw_or (st_not (st_val (se_call H_is_within (hr.mono (by decide)) rfl hx (sa_cons (se_var 2) (sa_cons se_int (sa_cons (se_bin od_sub (se_callB cd_len rfl T.n_len bt_len (sa_cons (se_ix (se_var 0) se_int) sa_nil)) se_int) sa_nil)))))) (sw_or1 (st_not (st_val (se_call H_is_within (hr.mono (by decide)) rfl hx (sa_cons (se_var 3) (sa_cons se_int (sa_cons (se_bin od_sub (se_callB cd_len rfl T.n_len bt_len (sa_cons (se_ix (se_ix (se_var 0) se_int) (se_var 2)) sa_nil)) se_int) sa_nil))))))))) (sb_one (ss_ret se_bl)) sb_nil)))
      (sb_one (ss_ret (se_cmp (od_ne hr.units) (se_ix (se_var 1) se_int) (se_ix (se_var 1) se_int) (nomark _))))))
theorem ok_barred_error (T : Tx K mg cl) {f : Addr} {fd : FuncData} (F : Fun K "barred_error" "barred_error" s_barred_error f fd) (H_barring_place : Has P w K mg base cl "barring_place" 4 d_barring_place) (H_held : Has P w K mg base cl "held" 1 d_held) (H_is_breach_form : Has P w K mg base cl "is_breach_form" 3 d_is_breach_form) (H_rank_at : Has P w K mg base cl "rank_at" 2 d_rank_at) (H_told_right : Has P w K mg base cl "told_right" 5 d_told_right) : FnOk P w K mg base (L2.CX P w) 6 f fd ["house", "ranks", "raised", "value"] (SpD K cl d_barred_error) := by
  refine fn_ok F sc_barred_error fun cdv A outer s H E hr => ?_
  have scN := sc_barred_error.nd
  have tk := takes_of (X := cxOf (L2.CX P w) P w K mg base n_barred_error "barred_error" (defScope s_barred_error) f cdv A outer s H E) (E := E) rfl rfl rfl rfl
  have hx := passes_call (E := E) tk (fun _ _ _ _ h => h)
  have hpo : PassesOwn (model P w) (cxOf (L2.CX P w) P w K mg base n_barred_error "barred_error" (defScope s_barred_error) f cdv A outer s H E).A (cxOf (L2.CX P w) P w K mg base n_barred_error "barred_error" (defScope s_barred_error) f cdv A outer s H E).env (cxOf (L2.CX P w) P w K mg base n_barred_error "barred_error" (defScope s_barred_error) f cdv A outer s H E).xe := passes_of (X := cxOf (L2.CX P w) P w K mg base n_barred_error "barred_error" (defScope s_barred_error) f cdv A outer s H E) rfl
  exact (sb_cons (ss_expr (se_call H_told_right (hr.mono (by decide)) rfl hx (sa_cons (se_var 0) (sa_cons (se_var 1) (sa_cons (se_var 2) sa_nil)))))
      (sb_cons (ss_if (st_not (st_val (se_call H_is_breach_form (hr.mono (by decide)) rfl hx (sa_cons (se_var 0) (sa_cons (se_var 3) sa_nil))))) (sb_one (ss_ret se_str)) sb_nil)
      (sb_cons (ss_asg (se_var 3) (sg_tup rfl (sgs_cons (sg_name (i := 4) scN rfl (Or.inl rfl)) (sgs_cons (sg_name (i := 5) scN rfl (Or.inl rfl)) (sgs_cons (sg_name (i := 6) scN rfl (Or.inl rfl)) (sgs_cons (sg_name (i := 7) scN rfl (Or.inl rfl)) sgs_nil))))))
      (sb_cons (ss_if (st_cmp od_lt (se_ix (se_var 1) (se_var 6)) (se_ix (se_var 1) (se_var 4)) (nomark _)) (sb_one (ss_ret se_str)) sb_nil)
      (sb_cons (ss_if (st_cmp (od_ne hr.units) (se_call H_barring_place (hr.mono (by decide)) rfl hx (sa_cons (se_var 0) (sa_cons (se_var 6) (sa_cons (se_call H_held (hr.mono (by decide)) rfl hx (sa_cons (se_ix (se_ix (se_var 0) se_int) (se_var 4)) (sa_cons (se_var 5) sa_nil))) sa_nil)))) (se_var 7) (nomark _)) (sb_one (ss_ret se_str)) sb_nil)
      (sb_one (ss_ret (se_if (st_cmp od_lt (se_call H_rank_at (hr.mono (by decide)) rfl hx (sa_cons (se_var 0) (sa_cons (se_var 1) (sa_cons (se_var 2) (sa_cons (se_var 4) (sa_cons (se_var 5) sa_nil)))))) (se_ix (se_var 1) (se_var 6)) (nomark _)) se_non se_str))))))))
theorem ok_longest_raised (T : Tx K mg cl) {f : Addr} {fd : FuncData} (F : Fun K "longest_raised" "longest_raised" s_longest_raised f fd) (H_rank_at : Has P w K mg base cl "rank_at" 2 d_rank_at) : FnOk P w K mg base (L2.CX P w) 3 f fd ["house", "ranks", "raised", "low", "rank"] (SpD K cl d_longest_raised) := by
  refine fn_ok F sc_longest_raised fun cdv A outer s H E hr => ?_
  have scN := sc_longest_raised.nd
  have tk := takes_of (X := cxOf (L2.CX P w) P w K mg base n_longest_raised "longest_raised" (defScope s_longest_raised) f cdv A outer s H E) (E := E) rfl rfl rfl rfl
  have hx := passes_call (E := E) tk (fun _ _ _ _ h => h)
  have hpo : PassesOwn (model P w) (cxOf (L2.CX P w) P w K mg base n_longest_raised "longest_raised" (defScope s_longest_raised) f cdv A outer s H E).A (cxOf (L2.CX P w) P w K mg base n_longest_raised "longest_raised" (defScope s_longest_raised) f cdv A outer s H E).env (cxOf (L2.CX P w) P w K mg base n_longest_raised "longest_raised" (defScope s_longest_raised) f cdv A outer s H E).xe := passes_of (X := cxOf (L2.CX P w) P w K mg base n_longest_raised "longest_raised" (defScope s_longest_raised) f cdv A outer s H E) rfl
  exact (sb_cons (ss_asg (se_tup (sa_cons se_int (sa_cons se_int sa_nil))) (sg_tup rfl (sgs_cons (sg_name (i := 5) scN rfl (Or.inl rfl)) (sgs_cons (sg_name (i := 6) scN rfl (Or.inl rfl)) sgs_nil))))
      (sb_cons (ss_for hpo rfl (so_range1 rfl T.n_range (sa_cons (se_callB cd_len rfl T.n_len bt_len (sa_cons (se_ix (se_ix (se_var 0) se_int) (se_var 3)) sa_nil)) sa_nil)) (sg_name (i := 7) scN rfl (Or.inl rfl)) (sb_cons (ss_set (i := 6) scN rfl (Or.inl rfl) (se_if (st_cmp od_ge (se_call H_rank_at (hr.mono (by decide)) rfl hx (sa_cons (se_var 0) (sa_cons (se_var 1) (sa_cons (se_var 2) (sa_cons (se_var 3) (sa_cons (se_var 7) sa_nil)))))) (se_var 4) (nomark _)) (se_bin od_add (se_var 6) se_int) se_int))
      (sb_one (ss_set (i := 5) scN rfl (Or.inl rfl) (se_callB (cd_max rfl) rfl T.n_max bt_max (sa_cons (se_var 5) (sa_cons (se_var 6) sa_nil)))))))
      (sb_one (ss_ret (se_var 5)))))
theorem ok_raised_wait (T : Tx K mg cl) {f : Addr} {fd : FuncData} (F : Fun K "raised_wait" "raised_wait" s_raised_wait f fd) (H_handed_right : Has P w K mg base cl "handed_right" 3 d_handed_right) (H_longest_raised : Has P w K mg base cl "longest_raised" 3 d_longest_raised) (H_told_right : Has P w K mg base cl "told_right" 5 d_told_right) : FnOk P w K mg base (L2.CX P w) 6 f fd ["house", "ranks", "raised", "hand"] (SpD K cl d_raised_wait) := by
  refine fn_ok F sc_raised_wait fun cdv A outer s H E hr => ?_
  have scN := sc_raised_wait.nd
  have tk := takes_of (X := cxOf (L2.CX P w) P w K mg base n_raised_wait "raised_wait" (defScope s_raised_wait) f cdv A outer s H E) (E := E) rfl rfl rfl rfl
  have hx := passes_call (E := E) tk (fun _ _ _ _ h => h)
  have hpo : PassesOwn (model P w) (cxOf (L2.CX P w) P w K mg base n_raised_wait "raised_wait" (defScope s_raised_wait) f cdv A outer s H E).A (cxOf (L2.CX P w) P w K mg base n_raised_wait "raised_wait" (defScope s_raised_wait) f cdv A outer s H E).env (cxOf (L2.CX P w) P w K mg base n_raised_wait "raised_wait" (defScope s_raised_wait) f cdv A outer s H E).xe := passes_of (X := cxOf (L2.CX P w) P w K mg base n_raised_wait "raised_wait" (defScope s_raised_wait) f cdv A outer s H E) rfl
  exact (sb_cons (ss_expr (se_call H_told_right (hr.mono (by decide)) rfl hx (sa_cons (se_var 0) (sa_cons (se_var 1) (sa_cons (se_var 2) sa_nil)))))
      (sb_cons (ss_expr (se_call H_handed_right (hr.mono (by decide)) rfl hx (sa_cons (se_var 0) (sa_cons (se_var 3) sa_nil))))
      (sb_cons (ss_setLc (own := [("low", 5), ("rank", 6)]) (i := 4) rfl scN rfl rfl (sw_true rfl rfl rfl (by decide +kernel)) (so_enumT rfl T.n_enumerate (sa_cons (se_var 1) sa_nil)) (blkOk_by (own := [("low", 5), ("rank", 6)]) (N := n_raised_wait) (sc := (defScope s_raised_wait)) (by decide +kernel)) (by decide) (fun _ _ _ _ _ => (sg_tup rfl (sgs_cons (sg_name (i := 5) scN rfl (Or.inl rfl)) (sgs_cons (sg_name (i := 6) scN rfl (Or.inl rfl)) sgs_nil)))) (fun _ _ _ _ _ => (pts_one (st_cmp od_lt (se_var 6) (se_ix (se_var 1) (se_var 3)) (nomark _)))) (fun _ _ _ _ _ => (se_var 5)))
      (sb_one (ss_ret (se_callB (cd_max rfl) rfl T.n_max bt_max (sa_cons (se_bin od_add (se_lst (sa_cons se_int sa_nil)) (se_lc (own := [("low", 5)]) rfl scN (so_list (se_var 4)) (blkOk_by (own := [("low", 5)]) (N := n_raised_wait) (sc := (defScope s_raised_wait)) (by decide +kernel)) (by decide) (fun _ _ _ _ _ => (sg_name (i := 5) scN rfl (Or.inl rfl))) (fun _ _ _ _ _ => pts_yes) (fun _ _ _ _ _ => (se_call H_longest_raised (hr.mono (by decide)) rfl passL (sa_cons (se_var 0) (sa_cons (se_var 1) (sa_cons (se_var 2) (sa_cons (se_var 5) (sa_cons (se_ix (se_var 1) (se_var 3)) sa_nil))))))))) sa_nil)))))))
theorem ok_law_deck (T : Tx K mg cl) {f : Addr} {fd : FuncData} (F : Fun K "_law_deck" "_law_deck" s_law_deck f fd) : FnOk P w K mg base (L2.CX P w) 1 f fd ["script"] (SpD K cl d_law_deck) := by
  refine fn_ok F sc_law_deck fun cdv A outer s H E hr => ?_
  have scN := sc_law_deck.nd
  have tk := takes_of (X := cxOf (L2.CX P w) P w K mg base n_law_deck "_law_deck" (defScope s_law_deck) f cdv A outer s H E) (E := E) rfl rfl rfl rfl
  have hx := passes_call (E := E) tk (fun _ _ _ _ h => h)
  have hpo : PassesOwn (model P w) (cxOf (L2.CX P w) P w K mg base n_law_deck "_law_deck" (defScope s_law_deck) f cdv A outer s H E).A (cxOf (L2.CX P w) P w K mg base n_law_deck "_law_deck" (defScope s_law_deck) f cdv A outer s H E).env (cxOf (L2.CX P w) P w K mg base n_law_deck "_law_deck" (defScope s_law_deck) f cdv A outer s H E).xe := passes_of (X := cxOf (L2.CX P w) P w K mg base n_law_deck "_law_deck" (defScope s_law_deck) f cdv A outer s H E) rfl
  exact (sb_cons (ss_set (i := 1) scN rfl (Or.inl rfl) (se_disp [("great", (dLst dNil)), ("mixed", (dBin opAdd (dC (.int 1591384)) (dCall bLen (dCons (dSl (dVar 0) dNoPart (dPart (dC (.int 63)))) dNil)))), ("turns", (dC (.int 0)))] (sp_cons (se_lst sa_nil) (sp_cons (se_bin od_add se_int (se_callB cd_len rfl T.n_len bt_len (sa_cons (se_sl (se_var 0) so_none (so_some se_int)) sa_nil))) (sp_cons se_int sp_nil))) rfl rfl (by simp) (by decide)))
      (sb_cons (ss_for hpo rfl (so_list (se_sl (se_var 0) so_none (so_some se_int))) (sg_name (i := 2) scN rfl (Or.inl rfl)) (sb_cons (ss_set (i := 3) scN rfl (Or.inl rfl) (se_bin od_add (se_bin od_mul se_int (se_callB cd_abs rfl T.n_abs bt_abs (sa_cons (se_var 2) sa_nil))) (se_callTy cd_int rfl T.n_int bt_int (sa_cons (se_cmp od_lt (se_var 2) se_int (nomark _)) sa_nil))))
      (sb_cons (ss_if (st_cmp od_ge (se_var 3) (se_bin od_pow se_int se_int) (nomark _)) (sb_one (ss_expr (se_mth PySem.F.slot_list_append PySem.F.type_list_append md_append (se_dget (hu_of hr) (se_var 1) se_str) (sa_cons (se_var 3) sa_nil)))) sb_nil)
      (sb_one (ss_dput (hu_of hr) (se_var 1) (se_bin od_mod (se_callTy cd_int rfl T.n_int bt_int (sa_cons (se_bin od_add (se_bin od_add (se_bin od_mul (se_dget (hu_of hr) (se_var 1) se_str) se_int) (se_var 3)) se_int) sa_nil)) se_int))))))
      (sb_one (ss_ret (se_var 1)))))
theorem ok_law_draw (T : Tx K mg cl) {f : Addr} {fd : FuncData} (F : Fun K "_law_draw" "_law_draw" s_law_draw f fd) : FnOk P w K mg base (L2.CX P w) 1 f fd ["deck", "many"] (SpD K cl d_law_draw) := by
  refine fn_ok F sc_law_draw fun cdv A outer s H E hr => ?_
  have scN := sc_law_draw.nd
  have tk := takes_of (X := cxOf (L2.CX P w) P w K mg base n_law_draw "_law_draw" (defScope s_law_draw) f cdv A outer s H E) (E := E) rfl rfl rfl rfl
  have hx := passes_call (E := E) tk (fun _ _ _ _ h => h)
  have hpo : PassesOwn (model P w) (cxOf (L2.CX P w) P w K mg base n_law_draw "_law_draw" (defScope s_law_draw) f cdv A outer s H E).A (cxOf (L2.CX P w) P w K mg base n_law_draw "_law_draw" (defScope s_law_draw) f cdv A outer s H E).env (cxOf (L2.CX P w) P w K mg base n_law_draw "_law_draw" (defScope s_law_draw) f cdv A outer s H E).xe := passes_of (X := cxOf (L2.CX P w) P w K mg base n_law_draw "_law_draw" (defScope s_law_draw) f cdv A outer s H E) rfl
  exact (sb_cons (ss_if (st_cmp od_lt (se_var 1) se_int (nomark _)) (sb_one (ss_ret se_int)) sb_nil)
      (sb_cons (ss_if (st_cmp (od_ne hr.units) (se_dget (hu_of hr) (se_var 0) se_str) (se_lst sa_nil) (nomark _)) (sb_cons (ss_set (i := 2) scN rfl (Or.inl rfl) (se_mth0 PySem.F.slot_list_pop PySem.F.type_list_pop md_pop (se_dget (hu_of hr) (se_var 0) se_str)))
      (sb_cons (ss_if (st_cmp od_ge (se_var 2) (se_var 1) (nomark _)) (sb_one (ss_expr (se_mth PySem.F.slot_list_append PySem.F.type_list_append md_append (se_dget (hu_of hr) (se_var 0) se_str) (sa_cons (se_bin od_fdiv (se_var 2) (se_var 1)) sa_nil)))) sb_nil)
      (sb_one (ss_ret (se_bin od_mod (se_callTy cd_int rfl T.n_int bt_int (sa_cons (se_var 2) sa_nil)) (se_var 1)))))) sb_nil)
      (sb_cons (ss_dput (hu_of hr) (se_var 0) (se_bin od_add (se_dget (hu_of hr) (se_var 0) se_str) se_int))
      (sb_cons (ss_set (i := 3) scN rfl (Or.inl rfl) (se_bin od_mod (se_callTy cd_int rfl T.n_int bt_int (sa_cons (se_bin od_add (se_dget (hu_of hr) (se_var 0) se_str) (se_bin od_mul se_int (se_dget (hu_of hr) (se_var 0) se_str))) sa_nil)) se_int))
      (sb_cons (ss_set (i := 3) scN rfl (Or.inl rfl) (se_bin od_mod (se_callTy cd_int rfl T.n_int bt_int (sa_cons (se_bin od_add (se_bin od_add (se_bin od_mul (se_var 3) (se_var 3)) (se_bin od_mul se_int (se_dget (hu_of hr) (se_var 0) se_str))) se_int) sa_nil)) se_int))
      (sb_cons (ss_set (i := 3) scN rfl (Or.inl rfl) (se_bin od_mod (se_callTy cd_int rfl T.n_int bt_int (sa_cons (se_bin od_add (se_bin od_mul (se_var 3) (se_var 3)) (se_bin od_mul (se_dget (hu_of hr) (se_var 0) se_str) se_int)) sa_nil)) se_int))
      (sb_one (ss_ret (se_bin od_mod (se_callTy cd_int rfl T.n_int bt_int (sa_cons (se_bin od_fdiv (se_var 3) se_int) sa_nil)) (se_var 1))))))))))
theorem ok_law_pick (T : Tx K mg cl) {f : Addr} {fd : FuncData} (F : Fun K "_law_pick" "_law_pick" s_law_pick f fd) (H_law_draw : Has P w K mg base cl "_law_draw" 1 d_law_draw) : FnOk P w K mg base (L2.CX P w) 2 f fd ["deck", "row"] (SpD K cl d_law_pick) := by
  refine fn_ok F sc_law_pick fun cdv A outer s H E hr => ?_
  have scN := sc_law_pick.nd
  have tk := takes_of (X := cxOf (L2.CX P w) P w K mg base n_law_pick "_law_pick" (defScope s_law_pick) f cdv A outer s H E) (E := E) rfl rfl rfl rfl
  have hx := passes_call (E := E) tk (fun _ _ _ _ h => h)
  have hpo : PassesOwn (model P w) (cxOf (L2.CX P w) P w K mg base n_law_pick "_law_pick" (defScope s_law_pick) f cdv A outer s H E).A (cxOf (L2.CX P w) P w K mg base n_law_pick "_law_pick" (defScope s_law_pick) f cdv A outer s H E).env (cxOf (L2.CX P w) P w K mg base n_law_pick "_law_pick" (defScope s_law_pick) f cdv A outer s H E).xe := passes_of (X := cxOf (L2.CX P w) P w K mg base n_law_pick "_law_pick" (defScope s_law_pick) f cdv A outer s H E) rfl
  exact (sb_one (ss_ret (se_ix (se_var 1) (se_call H_law_draw (hr.mono (by decide)) rfl hx (sa_cons (se_var 0) (sa_cons (se_callB cd_len rfl T.n_len bt_len (sa_cons (se_var 1) sa_nil)) sa_nil))))))
theorem ok_law_any (T : Tx K mg cl) {f : Addr} {fd : FuncData} (F : Fun K "_law_any" "_law_any" s_law_any f fd) (gF : mg "_law_any" = some (.ref f)) (bF : Binds K fd ["deck", "deep"] []) (H_law_draw : Has P w K mg base cl "_law_draw" 1 d_law_draw) (H_law_pick : Has P w K mg base cl "_law_pick" 2 d_law_pick) : ∀ j : Nat, j ≤ 5 → FnOk P w K mg base (L2.CX P w) (3 + j) f fd ["deck", "deep"] (SpD K cl (d_law_any j))
  | 0, _ => ⟨fun _ _ _ _ h => (by obtain ⟨_, _, _, _, _, P⟩ := h; exact P.elim), fun _ _ _ _ _ _ _ _ _ _ _ _ _ h => (by obtain ⟨_, _, _, _, _, P⟩ := h; exact P.elim)⟩
  | j + 1, hj => by
    have H_law_any : Has P w K mg base cl "_law_any" (3 + j) (d_law_any j) := ⟨f, fd, ["deck", "deep"], ok_law_any T F gF bF H_law_draw H_law_pick j (by omega), gF, F.kp, bF⟩
    refine fn_ok (k := 3 + j) F sc_law_any fun cdv A outer s H E hr => ?_
    have scN := sc_law_any.nd
    have tk := takes_of (X := cxOf (L2.CX P w) P w K mg base n_law_any "_law_any" (defScope s_law_any) f cdv A outer s H E) (E := E) rfl rfl rfl rfl
    have hx := passes_call (E := E) tk (fun _ _ _ _ h => h)
    have hpo : PassesOwn (model P w) (cxOf (L2.CX P w) P w K mg base n_law_any "_law_any" (defScope s_law_any) f cdv A outer s H E).A (cxOf (L2.CX P w) P w K mg base n_law_any "_law_any" (defScope s_law_any) f cdv A outer s H E).env (cxOf (L2.CX P w) P w K mg base n_law_any "_law_any" (defScope s_law_any) f cdv A outer s H E).xe := passes_of (X := cxOf (L2.CX P w) P w K mg base n_law_any "_law_any" (defScope s_law_any) f cdv A outer s H E) rfl
    exact (sb_cons (ss_set (i := 2) scN rfl (Or.inl rfl) (se_call H_law_draw (hr.mono (by omega)) rfl hx (sa_cons (se_var 0) (sa_cons (se_if (st_cmp od_gt (se_var 1) se_int (nomark _)) se_int se_int) sa_nil))))
      (sb_cons (ss_if (st_cmp od_lt (se_var 2) se_int (nomark _)) (sb_one (ss_ret (se_ix (se_lst (sa_cons se_non (sa_cons se_bl (sa_cons (se_call H_law_pick (hr.mono (by omega)) rfl hx (sa_cons (se_var 0) (sa_cons (se_lst (sa_cons se_int (sa_cons se_int (sa_cons se_int (sa_cons se_int (sa_cons (se_neg se_int) (sa_cons (se_bin od_pow se_int se_int) sa_nil))))))) sa_nil))) (sa_cons se_str (sa_cons se_str (sa_cons se_str sa_nil))))))) (se_var 2)))) sb_nil)
      (sb_cons (ss_setLc (own := [("turn", 4)]) (i := 3) rfl scN rfl rfl (sw_true rfl rfl rfl (by decide +kernel)) (so_range1 rfl T.n_range (sa_cons (se_call H_law_draw (hr.mono (by omega)) rfl hx (sa_cons (se_var 0) (sa_cons se_int sa_nil))) sa_nil)) (blkOk_by (own := [("turn", 4)]) (N := n_law_any) (sc := (defScope s_law_any)) (by decide +kernel)) (by decide) (fun _ _ _ _ _ => (sg_name (i := 4) scN rfl (Or.inl rfl))) (fun _ _ _ _ _ => pts_yes) (fun _ _ _ _ _ => (se_call H_law_any hr rfl passL (sa_cons (se_var 0) (sa_cons (se_bin od_sub (se_var 1) se_int) sa_nil)))))
      (sb_one (ss_ret (se_if (st_cmp od_lt (se_var 2) se_int (nomark _)) (se_callTy cd_tuple rfl T.n_tuple bt_tuple (sa_cons (se_var 3) sa_nil)) (se_var 3)))))))
theorem ok_law_way (T : Tx K mg cl) {f : Addr} {fd : FuncData} (F : Fun K "_law_way" "_law_way" s_law_way f fd) (H_law_draw : Has P w K mg base cl "_law_draw" 1 d_law_draw) (H_law_pick : Has P w K mg base cl "_law_pick" 2 d_law_pick) : FnOk P w K mg base (L2.CX P w) 3 f fd ["deck", "modes", "most", "is_trying"] (SpD K cl d_law_way) := by
  refine fn_ok F sc_law_way fun cdv A outer s H E hr => ?_
  have scN := sc_law_way.nd
  have tk := takes_of (X := cxOf (L2.CX P w) P w K mg base n_law_way "_law_way" (defScope s_law_way) f cdv A outer s H E) (E := E) rfl rfl rfl rfl
  have hx := passes_call (E := E) tk (fun _ _ _ _ h => h)
  have hpo : PassesOwn (model P w) (cxOf (L2.CX P w) P w K mg base n_law_way "_law_way" (defScope s_law_way) f cdv A outer s H E).A (cxOf (L2.CX P w) P w K mg base n_law_way "_law_way" (defScope s_law_way) f cdv A outer s H E).env (cxOf (L2.CX P w) P w K mg base n_law_way "_law_way" (defScope s_law_way) f cdv A outer s H E).xe := passes_of (X := cxOf (L2.CX P w) P w K mg base n_law_way "_law_way" (defScope s_law_way) f cdv A outer s H E) rfl
  exact (sb_cons (ss_asg (se_tup (sa_cons (se_lst sa_nil) (sa_cons (se_lst sa_nil) (sa_cons (se_bin od_add se_int (se_bin od_mul se_int (se_call H_law_draw (hr.mono (by decide)) rfl hx (sa_cons (se_var 0) (sa_cons (se_bin od_fdiv (se_var 2) se_int) sa_nil))))) sa_nil)))) (sg_tup rfl (sgs_cons (sg_name (i := 4) scN rfl (Or.inl rfl)) (sgs_cons (sg_name (i := 5) scN rfl (Or.inr rfl)) (sgs_cons (sg_name (i := 6) scN rfl (Or.inl rfl)) sgs_nil)))))
      (sb_cons (ss_for hpo rfl (so_range1 rfl T.n_range (sa_cons (se_var 6) sa_nil)) (sg_name (i := 7) scN rfl (Or.inl rfl)) (sb_cons (ss_setLc (own := [("room", 11)]) (i := 8) rfl scN rfl rfl (sw_true rfl rfl rfl (by decide +kernel)) (so_range1 rfl T.n_range (sa_cons (se_callB cd_len rfl T.n_len bt_len (sa_cons (se_var 1) sa_nil)) sa_nil)) (blkOk_by (own := [("room", 11)]) (N := n_law_way) (sc := (defScope s_law_way)) (by decide +kernel)) (by decide) (fun _ _ _ _ _ => (sg_name (i := 11) scN rfl (Or.inl rfl))) (fun _ _ _ _ _ => (pts_one (st_cmp od_notIn (se_var 11) (se_var 5) rfl))) (fun _ _ _ _ _ => (se_var 11)))
      (sb_cons (ss_set (i := 9) scN rfl (Or.inl rfl) (se_or (se_cmp (od_eq hr.units) (se_var 8) (se_lst sa_nil) (nomark _)) (se_one (se_cmp (od_eq hr.units) (se_bin od_sub (se_var 6) (se_var 7)) (se_callB cd_len rfl T.n_len bt_len (sa_cons (se_var 5) sa_nil)) (nomark _)))))
      (sb_one (ss_if (PW.pt (sw_and (st_cmp (od_ne hr.units) (se_var 5) (se_lst sa_nil) (nomark _)) (sw_and1 (PW.pt (sw_or (st_val (se_var 9)) (sw_or1 (st_cmp (od_eq hr.units) (se_call H_law_draw (hr.mono (by decide)) rfl hx (sa_cons (se_var 0) (sa_cons se_int sa_nil))) se_int (nomark _)))))))) (sb_one (ss_expr (se_mth PySem.F.slot_list_append PySem.F.type_list_append md_append (se_var 4) (sa_cons (se_tup (sa_cons se_str (sa_cons (se_mth0 PySem.F.slot_list_pop PySem.F.type_list_pop md_pop (se_var 5)) sa_nil))) sa_nil)))) (sb_cons (ss_set (i := 10) scN rfl (Or.inl rfl) (se_if (PW.pt (sw_and (st_val (se_var 3)) (sw_and1 (st_cmp (od_eq hr.units) (se_call H_law_draw (hr.mono (by decide)) rfl hx (sa_cons (se_var 0) (sa_cons se_int sa_nil))) se_int (nomark _))))) se_str se_str))
      (sb_cons (ss_expr (se_mth PySem.F.slot_list_append PySem.F.type_list_append md_append (se_var 5) (sa_cons (se_call H_law_pick (hr.mono (by decide)) rfl hx (sa_cons (se_var 0) (sa_cons (se_var 8) sa_nil))) sa_nil)))
      (sb_one (ss_expr (se_mth PySem.F.slot_list_append PySem.F.type_list_append md_append (se_var 4) (sa_cons (se_tup (sa_cons (se_var 10) (sa_cons (se_ix (se_var 5) (se_neg se_int)) (sa_cons (se_call H_law_pick (hr.mono (by decide)) rfl hx (sa_cons (se_var 0) (sa_cons (se_ix (se_var 1) (se_ix (se_var 5) (se_neg se_int))) sa_nil))) sa_nil)))) sa_nil)))))))))))
      (sb_one (ss_ret (se_callTy cd_tuple rfl T.n_tuple bt_tuple (sa_cons (se_var 4) sa_nil))))))
theorem ok_law_beyond (T : Tx K mg cl) {f : Addr} {fd : FuncData} (F : Fun K "_law_beyond" "_law_beyond" s_law_beyond f fd) : FnOk P w K mg base (L2.CX P w) 1 f fd ["way", "place"] (SpD K cl d_law_beyond) := by
  refine fn_ok F sc_law_beyond fun cdv A outer s H E hr => ?_
  have scN := sc_law_beyond.nd
  have tk := takes_of (X := cxOf (L2.CX P w) P w K mg base n_law_beyond "_law_beyond" (defScope s_law_beyond) f cdv A outer s H E) (E := E) rfl rfl rfl rfl
  have hx := passes_call (E := E) tk (fun _ _ _ _ h => h)
  have hpo : PassesOwn (model P w) (cxOf (L2.CX P w) P w K mg base n_law_beyond "_law_beyond" (defScope s_law_beyond) f cdv A outer s H E).A (cxOf (L2.CX P w) P w K mg base n_law_beyond "_law_beyond" (defScope s_law_beyond) f cdv A outer s H E).env (cxOf (L2.CX P w) P w K mg base n_law_beyond "_law_beyond" (defScope s_law_beyond) f cdv A outer s H E).xe := passes_of (X := cxOf (L2.CX P w) P w K mg base n_law_beyond "_law_beyond" (defScope s_law_beyond) f cdv A outer s H E) rfl
  exact (sb_cons (ss_par (i := 2) (j := 3) rfl scN rfl rfl (by decide) rfl rfl (sa_cons se_int (sa_cons (se_var 1) sa_nil)) (by rfl))
      (sb_cons (ss_for hpo rfl (so_tup (se_sl (se_var 0) (so_some (se_var 1)) so_none)) (sg_name (i := 4) scN rfl (Or.inl rfl)) (sb_cons (ss_par (i := 2) (j := 3) rfl scN rfl rfl (by decide) rfl rfl (sa_cons (se_bin od_add (se_var 2) (se_if (st_cmp (od_eq hr.units) (se_ix (se_var 4) se_int) se_str (nomark _)) (se_neg se_int) se_int)) (sa_cons (se_bin od_add (se_var 3) se_int) sa_nil)) (by rfl))
      (sb_one (ss_if (st_cmp (od_eq hr.units) (se_var 2) se_int (nomark _)) (sb_one ss_break) sb_nil))))
      (sb_one (ss_ret (se_var 3)))))
theorem ok_law_plan (T : Tx K mg cl) {f : Addr} {fd : FuncData} (F : Fun K "_law_plan" "_law_plan" s_law_plan f fd) (H_law_beyond : Has P w K mg base cl "_law_beyond" 1 d_law_beyond) : FnOk P w K mg base (L2.CX P w) 2 f fd ["house"] (SpD K cl d_law_plan) := by
  refine fn_ok F sc_law_plan fun cdv A outer s H E hr => ?_
  have scN := sc_law_plan.nd
  have tk := takes_of (X := cxOf (L2.CX P w) P w K mg base n_law_plan "_law_plan" (defScope s_law_plan) f cdv A outer s H E) (E := E) rfl rfl rfl rfl
  have hx := passes_call (E := E) tk (fun _ _ _ _ h => h)
  have hpo : PassesOwn (model P w) (cxOf (L2.CX P w) P w K mg base n_law_plan "_law_plan" (defScope s_law_plan) f cdv A outer s H E).A (cxOf (L2.CX P w) P w K mg base n_law_plan "_law_plan" (defScope s_law_plan) f cdv A outer s H E).env (cxOf (L2.CX P w) P w K mg base n_law_plan "_law_plan" (defScope s_law_plan) f cdv A outer s H E).xe := passes_of (X := cxOf (L2.CX P w) P w K mg base n_law_plan "_law_plan" (defScope s_law_plan) f cdv A outer s H E) rfl
  exact (sb_cons (ss_set (i := 1) scN rfl (Or.inl rfl) (se_lst sa_nil))
      (sb_cons (ss_for hpo rfl (so_tup (se_ix (se_var 0) se_int)) (sg_name (i := 2) scN rfl (Or.inl rfl)) (sb_cons (ss_par (i := 3) (j := 4) rfl scN rfl rfl (by decide) rfl rfl (sa_cons (se_lst sa_nil) (sa_cons (se_tup sa_nil) sa_nil)) (by rfl))
      (sb_cons (ss_for hpo rfl (so_enumT rfl T.n_enumerate (sa_cons (se_var 2) sa_nil)) (sg_tup rfl (sgs_cons (sg_name (i := 5) scN rfl (Or.inl rfl)) (sgs_cons (sg_name (i := 6) scN rfl (Or.inl rfl)) sgs_nil))) (sb_one (ss_if (st_cmp (od_eq hr.units) (se_ix (se_var 6) se_int) se_str (nomark _)) (sb_cons (ss_expr (se_mth PySem.F.slot_list_append PySem.F.type_list_append md_append (se_var 3) (sa_cons (se_tup (sa_cons (se_var 4) (sa_cons se_non (sa_cons se_bl (sa_cons se_int sa_nil))))) sa_nil)))
      (sb_one (ss_set (i := 4) scN rfl (Or.inl rfl) (se_sl (se_var 4) so_none (so_some (se_neg se_int)))))) (sb_cons (ss_expr (se_mth PySem.F.slot_list_append PySem.F.type_list_append md_append (se_var 3) (sa_cons (se_tup (sa_cons (se_var 4) (sa_cons (se_sl (se_var 6) (so_some se_int) so_none) (sa_cons (se_cmp (od_eq hr.units) (se_ix (se_var 6) se_int) se_str (nomark _)) (sa_cons (se_call H_law_beyond (hr.mono (by decide)) rfl hx (sa_cons (se_var 2) (sa_cons (se_var 5) sa_nil))) sa_nil))))) sa_nil)))
      (sb_one (ss_set (i := 4) scN rfl (Or.inl rfl) (se_bin od_add (se_var 4) (se_tup (sa_cons (se_sl (se_var 6) (so_some se_int) so_none) sa_nil)))))))))
      (sb_one (ss_expr (se_mth PySem.F.slot_list_append PySem.F.type_list_append md_append (se_var 1) (sa_cons (se_var 3) sa_nil)))))))
      (sb_one (ss_ret (se_var 1)))))
theorem ok_law_meets (T : Tx K mg cl) {f : Addr} {fd : FuncData} (F : Fun K "_law_meets" "_law_meets" s_law_meets f fd) : FnOk P w K mg base (L2.CX P w) 1 f fd ["house", "thing", "held_v"] (SpD K cl d_law_meets) := by
  refine fn_ok F sc_law_meets fun cdv A outer s H E hr => ?_
  have scN := sc_law_meets.nd
  have tk := takes_of (X := cxOf (L2.CX P w) P w K mg base n_law_meets "_law_meets" (defScope s_law_meets) f cdv A outer s H E) (E := E) rfl rfl rfl rfl
  have hx := passes_call (E := E) tk (fun _ _ _ _ h => h)
  have hpo : PassesOwn (model P w) (cxOf (L2.CX P w) P w K mg base n_law_meets "_law_meets" (defScope s_law_meets) f cdv A outer s H E).A (cxOf (L2.CX P w) P w K mg base n_law_meets "_law_meets" (defScope s_law_meets) f cdv A outer s H E).env (cxOf (L2.CX P w) P w K mg base n_law_meets "_law_meets" (defScope s_law_meets) f cdv A outer s H E).xe := passes_of (X := cxOf (L2.CX P w) P w K mg base n_law_meets "_law_meets" (defScope s_law_meets) f cdv A outer s H E) rfl
  exact (sb_cons (ss_for hpo rfl (so_tup (se_var 2)) (sg_tup rfl (sgs_cons (sg_name (i := 3) scN rfl (Or.inl rfl)) (sgs_cons (sg_name (i := 4) scN rfl (Or.inl rfl)) sgs_nil))) (sb_one (ss_if (PW.pt (sw_and (st_cmp (od_eq hr.units) (se_var 3) (se_ix (se_var 1) se_int) (nomark _)) (sw_and1 (PW.pt (sw_or (st_cmp (od_eq hr.units) (se_ix (se_ix (se_ix (se_var 0) se_int) (se_var 3)) se_int) se_str (nomark _)) (sw_or (st_cmp (od_eq hr.units) (se_var 4) se_str (nomark _)) (sw_or1 (st_cmp (od_eq hr.units) (se_ix (se_var 1) se_int) se_str (nomark _))))))))) (sb_one (ss_ret se_bl)) sb_nil)))
      (sb_one (ss_ret se_bl)))
theorem ok_law_calm (T : Tx K mg cl) {f : Addr} {fd : FuncData} (F : Fun K "_law_calm" "_law_calm" s_law_calm f fd) (H_law_pick : Has P w K mg base cl "_law_pick" 2 d_law_pick) (H_law_way : Has P w K mg base cl "_law_way" 3 d_law_way) : FnOk P w K mg base (L2.CX P w) 4 f fd ["deck", "hands", "rooms", "most"] (SpD K cl d_law_calm) := by
  refine fn_ok F sc_law_calm fun cdv A outer s H E hr => ?_
  have scN := sc_law_calm.nd
  have tk := takes_of (X := cxOf (L2.CX P w) P w K mg base n_law_calm "_law_calm" (defScope s_law_calm) f cdv A outer s H E) (E := E) rfl rfl rfl rfl
  have hx := passes_call (E := E) tk (fun _ _ _ _ h => h)
  have hpo : PassesOwn (model P w) (cxOf (L2.CX P w) P w K mg base n_law_calm "_law_calm" (defScope s_law_calm) f cdv A outer s H E).A (cxOf (L2.CX P w) P w K mg base n_law_calm "_law_calm" (defScope s_law_calm) f cdv A outer s H E).env (cxOf (L2.CX P w) P w K mg base n_law_calm "_law_calm" (defScope s_law_calm) f cdv A outer s H E).xe := passes_of (X := cxOf (L2.CX P w) P w K mg base n_law_calm "_law_calm" (defScope s_law_calm) f cdv A outer s H E) rfl
  exact (sb_cons (ss_set (i := 4) scN rfl (Or.inr rfl) (se_lc (own := [("room", 5)]) rfl scN (so_range1 rfl T.n_range (sa_cons (se_var 2) sa_nil)) (blkOk_by (own := [("room", 5)]) (N := n_law_calm) (sc := (defScope s_law_calm)) (by decide +kernel)) (by decide) (fun _ _ _ _ _ => (sg_name (i := 5) scN rfl (Or.inl rfl))) (fun _ _ _ _ _ => pts_yes) (fun _ _ _ _ _ => (se_call H_law_pick (hr.mono (by decide)) rfl passL (sa_cons (se_var 0) (sa_cons (se_lst (sa_cons (se_lst (sa_cons se_str sa_nil)) (sa_cons (se_lst (sa_cons se_str (sa_cons se_str sa_nil))) sa_nil))) sa_nil))))))
      (sb_one (ss_ret (se_tup (sa_cons (se_bin od_mul (se_tup (sa_cons (se_tup (sa_cons se_str (sa_cons se_non sa_nil))) sa_nil)) (se_var 2)) (sa_cons (se_callTy cd_tuple rfl T.n_tuple bt_tuple (sa_cons (se_lc (own := [("hand", 6)]) rfl scN (so_range1 rfl T.n_range (sa_cons (se_var 1) sa_nil)) (blkOk_by (own := [("hand", 6)]) (N := n_law_calm) (sc := (defScope s_law_calm)) (by decide +kernel)) (by decide) (fun _ _ _ _ _ => (sg_name (i := 6) scN rfl (Or.inl rfl))) (fun _ _ _ _ _ => pts_yes) (fun _ _ _ _ _ => (se_call H_law_way (hr.mono (by decide)) rfl passL (sa_cons (se_var 0) (sa_cons (se_var 4) (sa_cons (se_var 3) (sa_cons se_bl sa_nil))))))) sa_nil)) sa_nil))))))
theorem ok_law_ranked (T : Tx K mg cl) {f : Addr} {fd : FuncData} (F : Fun K "_law_ranked" "_law_ranked" s_law_ranked f fd) (H_law_draw : Has P w K mg base cl "_law_draw" 1 d_law_draw) : FnOk P w K mg base (L2.CX P w) 2 f fd ["deck", "hands"] (SpD K cl d_law_ranked) := by
  refine fn_ok F sc_law_ranked fun cdv A outer s H E hr => ?_
  have scN := sc_law_ranked.nd
  have tk := takes_of (X := cxOf (L2.CX P w) P w K mg base n_law_ranked "_law_ranked" (defScope s_law_ranked) f cdv A outer s H E) (E := E) rfl rfl rfl rfl
  have hx := passes_call (E := E) tk (fun _ _ _ _ h => h)
  have hpo : PassesOwn (model P w) (cxOf (L2.CX P w) P w K mg base n_law_ranked "_law_ranked" (defScope s_law_ranked) f cdv A outer s H E).A (cxOf (L2.CX P w) P w K mg base n_law_ranked "_law_ranked" (defScope s_law_ranked) f cdv A outer s H E).env (cxOf (L2.CX P w) P w K mg base n_law_ranked "_law_ranked" (defScope s_law_ranked) f cdv A outer s H E).xe := passes_of (X := cxOf (L2.CX P w) P w K mg base n_law_ranked "_law_ranked" (defScope s_law_ranked) f cdv A outer s H E) rfl
  exact (sb_cons (ss_set (i := 2) scN rfl (Or.inr rfl) (se_lst (sa_cons (se_neg se_int) (sa_cons se_int (sa_cons se_int (sa_cons se_int (sa_cons se_int (sa_cons (se_bin od_pow se_int se_int) sa_nil))))))))
      (sb_one (ss_ret (se_callTy cd_tuple rfl T.n_tuple bt_tuple (sa_cons (se_lc (own := [("hand", 3)]) rfl scN (so_range1 rfl T.n_range (sa_cons (se_var 1) sa_nil)) (blkOk_by (own := [("hand", 3)]) (N := n_law_ranked) (sc := (defScope s_law_ranked)) (by decide +kernel)) (by decide) (fun _ _ _ _ _ => (sg_name (i := 3) scN rfl (Or.inl rfl))) (fun _ _ _ _ _ => pts_yes) (fun _ _ _ _ _ => (se_mth PySem.F.slot_list_pop PySem.F.type_list_pop md_pop (se_var 2) (sa_cons (se_call H_law_draw (hr.mono (by decide)) rfl passL (sa_cons (se_var 0) (sa_cons (se_callB cd_len rfl T.n_len bt_len (sa_cons (se_var 2) sa_nil)) sa_nil))) sa_nil)))) sa_nil)))))
theorem ok_law_no_calm (T : Tx K mg cl) {f : Addr} {fd : FuncData} (F : Fun K "_law_no_calm" "_law_no_calm" s_law_no_calm f fd) (H_law_draw : Has P w K mg base cl "_law_draw" 1 d_law_draw) : FnOk P w K mg base (L2.CX P w) 2 f fd ["deck", "house"] (SpD K cl d_law_no_calm) := by
  refine fn_ok F sc_law_no_calm fun cdv A outer s H E hr => ?_
  have scN := sc_law_no_calm.nd
  have tk := takes_of (X := cxOf (L2.CX P w) P w K mg base n_law_no_calm "_law_no_calm" (defScope s_law_no_calm) f cdv A outer s H E) (E := E) rfl rfl rfl rfl
  have hx := passes_call (E := E) tk (fun _ _ _ _ h => h)
  have hpo : PassesOwn (model P w) (cxOf (L2.CX P w) P w K mg base n_law_no_calm "_law_no_calm" (defScope s_law_no_calm) f cdv A outer s H E).A (cxOf (L2.CX P w) P w K mg base n_law_no_calm "_law_no_calm" (defScope s_law_no_calm) f cdv A outer s H E).env (cxOf (L2.CX P w) P w K mg base n_law_no_calm "_law_no_calm" (defScope s_law_no_calm) f cdv A outer s H E).xe := passes_of (X := cxOf (L2.CX P w) P w K mg base n_law_no_calm "_law_no_calm" (defScope s_law_no_calm) f cdv A outer s H E) rfl
  exact (sb_cons (ss_asg (se_var 1) (sg_tup rfl (sgs_cons (sg_name (i := 2) scN rfl (Or.inl rfl)) (sgs_cons (sg_name (i := 3) scN rfl (Or.inl rfl)) sgs_nil))))
      (sb_cons (ss_asg (se_tup (sa_cons (se_call H_law_draw (hr.mono (by decide)) rfl hx (sa_cons (se_var 0) (sa_cons se_int sa_nil))) (sa_cons (se_callB cd_len rfl T.n_len bt_len (sa_cons (se_var 3) sa_nil)) sa_nil))) (sg_tup rfl (sgs_cons (sg_name (i := 4) scN rfl (Or.inl rfl)) (sgs_cons (sg_name (i := 5) scN rfl (Or.inr rfl)) sgs_nil))))
      (sb_cons (ss_if (st_cmp (od_eq hr.units) (se_var 4) se_int (nomark _)) (sb_cons (ss_set (i := 6) scN rfl (Or.inl rfl) (se_tup (sa_cons se_str (sa_cons se_str (sa_cons se_str (sa_cons se_str (sa_cons se_str (sa_cons se_str (sa_cons se_str (sa_cons se_str (sa_cons se_str (sa_cons se_str sa_nil))))))))))))
      (sb_one (ss_ret (se_tup (sa_cons (se_bin od_add (se_sl (se_var 2) so_none (so_some (se_neg se_int))) (se_tup (sa_cons (se_tup (sa_cons se_str (sa_cons (se_var 6) sa_nil))) sa_nil))) (sa_cons (se_var 3) sa_nil)))))) sb_nil)
      (sb_cons (ss_set (i := 7) scN rfl (Or.inl rfl) (se_tup (sa_cons (se_tup (sa_cons se_str (sa_cons se_int (sa_cons se_str sa_nil)))) (sa_cons (se_tup (sa_cons se_str (sa_cons se_int sa_nil))) sa_nil))))
      (sb_cons (ss_if (st_cmp (od_eq hr.units) (se_var 4) se_int (nomark _)) (sb_one (ss_ret (se_tup (sa_cons (se_var 2) (sa_cons (se_bin od_add (se_sl (se_var 3) so_none (so_some (se_neg se_int))) (se_tup (sa_cons (se_var 7) sa_nil))) sa_nil))))) sb_nil)
      (sb_cons (ss_set (i := 8) scN rfl (Or.inl rfl) (se_callTy cd_tuple rfl T.n_tuple bt_tuple (sa_cons (se_lc (own := [("hand", 11)]) rfl scN (so_range1 rfl T.n_range (sa_cons (se_var 5) sa_nil)) (blkOk_by (own := [("hand", 11)]) (N := n_law_no_calm) (sc := (defScope s_law_no_calm)) (by decide +kernel)) (by decide) (fun _ _ _ _ _ => (sg_name (i := 11) scN rfl (Or.inr rfl))) (fun _ _ _ _ _ => pts_yes) (fun _ _ _ _ _ => (se_callTy cd_tuple rfl T.n_tuple bt_tuple (sa_cons (se_lc (own := [("other", 10)]) rfl scN (so_range1 rfl T.n_range (sa_cons (se_var 5) sa_nil)) (blkOk_by (own := [("other", 10)]) (N := n_law_no_calm) (sc := (relS { kind := .function, names := [(".0", .local), ("hand", .cell), ("tuple", .globalImplicit), ("range", .globalImplicit), ("many", .free)], isGenerator := false, isCoroutine := false, more := [] : Scope } (defScope s_law_no_calm))) (by decide +kernel)) (by decide) (fun _ _ _ _ _ => (sg_name (i := 10) scN rfl (Or.inl rfl))) (fun _ _ _ _ _ => (pts_one (st_cmp (od_ne hr.units) (se_var 10) (se_var 11) (nomark _)))) (fun _ _ _ _ _ => (se_var 10))) sa_nil)))) sa_nil)))
      (sb_cons (ss_set (i := 9) scN rfl (Or.inl rfl) (se_callTy cd_tuple rfl T.n_tuple bt_tuple (sa_cons (se_lc (own := [("hand", 11)]) rfl scN (so_range1 rfl T.n_range (sa_cons (se_var 5) sa_nil)) (blkOk_by (own := [("hand", 11)]) (N := n_law_no_calm) (sc := (defScope s_law_no_calm)) (by decide +kernel)) (by decide) (fun _ _ _ _ _ => (sg_name (i := 11) scN rfl (Or.inr rfl))) (fun _ _ _ _ _ => pts_yes) (fun _ _ _ _ _ => (se_callTy cd_tuple rfl T.n_tuple bt_tuple (sa_cons (se_lc (own := [("other", 10)]) rfl scN (so_range1 rfl T.n_range (sa_cons (se_var 5) sa_nil)) (blkOk_by (own := [("other", 10)]) (N := n_law_no_calm) (sc := (relS { kind := .function, names := [(".0", .local), ("hand", .cell), ("tuple", .globalImplicit), ("range", .globalImplicit), ("many", .free)], isGenerator := false, isCoroutine := false, more := [] : Scope } (defScope s_law_no_calm))) (by decide +kernel)) (by decide) (fun _ _ _ _ _ => (sg_name (i := 10) scN rfl (Or.inl rfl))) (fun _ _ _ _ _ => pts_yes) (fun _ _ _ _ _ => (se_if (st_cmp (od_eq hr.units) (se_var 10) (se_var 11) (nomark _)) se_str se_str))) sa_nil)))) sa_nil)))
      (sb_one (ss_ret (se_tup (sa_cons (se_bin od_add (se_var 2) (se_tup (sa_cons (se_tup (sa_cons se_str (sa_cons (se_var 9) (sa_cons (se_var 8) sa_nil)))) sa_nil))) (sa_cons (se_var 3) sa_nil))))))))))))
theorem ok_law_told_by (T : Tx K mg cl) {f : Addr} {fd : FuncData} (F : Fun K "_law_told_by" "_law_told_by" s_law_told_by f fd) : FnOk P w K mg base (L2.CX P w) 1 f fd ["raised", "thing"] (SpD K cl d_law_told_by) := by
  refine fn_ok F sc_law_told_by fun cdv A outer s H E hr => ?_
  have scN := sc_law_told_by.nd
  have tk := takes_of (X := cxOf (L2.CX P w) P w K mg base n_law_told_by "_law_told_by" (defScope s_law_told_by) f cdv A outer s H E) (E := E) rfl rfl rfl rfl
  have hx := passes_call (E := E) tk (fun _ _ _ _ h => h)
  have hpo : PassesOwn (model P w) (cxOf (L2.CX P w) P w K mg base n_law_told_by "_law_told_by" (defScope s_law_told_by) f cdv A outer s H E).A (cxOf (L2.CX P w) P w K mg base n_law_told_by "_law_told_by" (defScope s_law_told_by) f cdv A outer s H E).env (cxOf (L2.CX P w) P w K mg base n_law_told_by "_law_told_by" (defScope s_law_told_by) f cdv A outer s H E).xe := passes_of (X := cxOf (L2.CX P w) P w K mg base n_law_told_by "_law_told_by" (defScope s_law_told_by) f cdv A outer s H E) rfl
  exact (sb_one (ss_ret (se_ix (se_ix (se_var 0) (se_ix (se_var 1) se_int)) (se_callTy cd_int rfl T.n_int bt_int (sa_cons (se_cmp (od_eq hr.units) (se_ix (se_var 1) se_int) se_str (nomark _)) sa_nil)))))
theorem ok_law_rank_at (T : Tx K mg cl) {f : Addr} {fd : FuncData} (F : Fun K "_law_rank_at" "_law_rank_at" s_law_rank_at f fd) (H_law_told_by : Has P w K mg base cl "_law_told_by" 1 d_law_told_by) : FnOk P w K mg base (L2.CX P w) 2 f fd ["plan", "ranks", "raised", "hand", "place"] (SpD K cl d_law_rank_at) := by
  refine fn_ok F sc_law_rank_at fun cdv A outer s H E hr => ?_
  have scN := sc_law_rank_at.nd
  have tk := takes_of (X := cxOf (L2.CX P w) P w K mg base n_law_rank_at "_law_rank_at" (defScope s_law_rank_at) f cdv A outer s H E) (E := E) rfl rfl rfl rfl
  have hx := passes_call (E := E) tk (fun _ _ _ _ h => h)
  have hpo : PassesOwn (model P w) (cxOf (L2.CX P w) P w K mg base n_law_rank_at "_law_rank_at" (defScope s_law_rank_at) f cdv A outer s H E).A (cxOf (L2.CX P w) P w K mg base n_law_rank_at "_law_rank_at" (defScope s_law_rank_at) f cdv A outer s H E).env (cxOf (L2.CX P w) P w K mg base n_law_rank_at "_law_rank_at" (defScope s_law_rank_at) f cdv A outer s H E).xe := passes_of (X := cxOf (L2.CX P w) P w K mg base n_law_rank_at "_law_rank_at" (defScope s_law_rank_at) f cdv A outer s H E) rfl
  exact (sb_cons (ss_setLc (own := [("thing", 6)]) (i := 5) rfl scN rfl rfl (sw_true rfl rfl rfl (by decide +kernel)) (so_tup (se_ix (se_ix (se_ix (se_var 0) (se_var 3)) (se_var 4)) se_int)) (blkOk_by (own := [("thing", 6)]) (N := n_law_rank_at) (sc := (defScope s_law_rank_at)) (by decide +kernel)) (by decide) (fun _ _ _ _ _ => (sg_name (i := 6) scN rfl (Or.inl rfl))) (fun _ _ _ _ _ => pts_yes) (fun _ _ _ _ _ => (se_call H_law_told_by (hr.mono (by decide)) rfl passL (sa_cons (se_var 2) (sa_cons (se_var 6) sa_nil)))))
      (sb_one (ss_ret (se_callB (cd_max rfl) rfl T.n_max bt_max (sa_cons (se_bin od_add (se_lst (sa_cons (se_ix (se_var 1) (se_var 3)) sa_nil)) (se_lc (own := [("own", 7)]) rfl scN (so_list (se_var 5)) (blkOk_by (own := [("own", 7)]) (N := n_law_rank_at) (sc := (defScope s_law_rank_at)) (by decide +kernel)) (by decide) (fun _ _ _ _ _ => (sg_name (i := 7) scN rfl (Or.inl rfl))) (fun _ _ _ _ _ => (pts_one (st_cmp od_notN (se_var 7) se_non (nomark _)))) (fun _ _ _ _ _ => (se_var 7)))) sa_nil)))))
theorem ok_law_entry (T : Tx K mg cl) {f : Addr} {fd : FuncData} (F : Fun K "_law_entry" "_law_entry" s_law_entry f fd) (H_law_meets : Has P w K mg base cl "_law_meets" 1 d_law_meets) : FnOk P w K mg base (L2.CX P w) 2 f fd ["house", "plan", "high", "things"] (SpD K cl d_law_entry) := by
  refine fn_ok F sc_law_entry fun cdv A outer s H E hr => ?_
  have scN := sc_law_entry.nd
  have tk := takes_of (X := cxOf (L2.CX P w) P w K mg base n_law_entry "_law_entry" (defScope s_law_entry) f cdv A outer s H E) (E := E) rfl rfl rfl rfl
  have hx := passes_call (E := E) tk (fun _ _ _ _ h => h)
  have hpo : PassesOwn (model P w) (cxOf (L2.CX P w) P w K mg base n_law_entry "_law_entry" (defScope s_law_entry) f cdv A outer s H E).A (cxOf (L2.CX P w) P w K mg base n_law_entry "_law_entry" (defScope s_law_entry) f cdv A outer s H E).env (cxOf (L2.CX P w) P w K mg base n_law_entry "_law_entry" (defScope s_law_entry) f cdv A outer s H E).xe := passes_of (X := cxOf (L2.CX P w) P w K mg base n_law_entry "_law_entry" (defScope s_law_entry) f cdv A outer s H E) rfl
  exact (sb_cons (ss_for hpo rfl (so_enumL rfl T.n_enumerate (sa_cons (se_ix (se_var 1) (se_var 2)) sa_nil)) (sg_tup rfl (sgs_cons (sg_name (i := 4) scN rfl (Or.inl rfl)) (sgs_cons (sg_tup rfl (sgs_cons (sg_name (i := 5) scN rfl (Or.inl rfl)) (sgs_cons (sg_name (i := 6) scN rfl (Or.inl rfl)) (sgs_cons (sg_name (i := 7) scN rfl (Or.inl rfl)) (sgs_cons (sg_name (i := 8) scN rfl (Or.inl rfl)) sgs_nil))))) sgs_nil))) (sb_one (ss_if (PW.pt (sw_and (st_cmp od_notN (se_var 6) se_non (nomark _)) (sw_and1 (st_val (se_call H_law_meets (hr.mono (by decide)) rfl hx (sa_cons (se_var 0) (sa_cons (se_var 6) (sa_cons (se_var 3) sa_nil)))))))) (sb_one (ss_ret (se_var 4))) sb_nil)))
      (sb_one (ss_ret se_non)))
theorem ok_law_breaches (T : Tx K mg cl) {f : Addr} {fd : FuncData} (F : Fun K "_law_breaches" "_law_breaches" s_law_breaches f fd) (H_law_entry : Has P w K mg base cl "_law_entry" 2 d_law_entry) (H_law_rank_at : Has P w K mg base cl "_law_rank_at" 2 d_law_rank_at) : FnOk P w K mg base (L2.CX P w) 3 f fd ["house", "plan", "ranks", "raised"] (SpD K cl d_law_breaches) := by
  refine fn_ok F sc_law_breaches fun cdv A outer s H E hr => ?_
  have scN := sc_law_breaches.nd
  have tk := takes_of (X := cxOf (L2.CX P w) P w K mg base n_law_breaches "_law_breaches" (defScope s_law_breaches) f cdv A outer s H E) (E := E) rfl rfl rfl rfl
  have hx := passes_call (E := E) tk (fun _ _ _ _ h => h)
  have hpo : PassesOwn (model P w) (cxOf (L2.CX P w) P w K mg base n_law_breaches "_law_breaches" (defScope s_law_breaches) f cdv A outer s H E).A (cxOf (L2.CX P w) P w K mg base n_law_breaches "_law_breaches" (defScope s_law_breaches) f cdv A outer s H E).env (cxOf (L2.CX P w) P w K mg base n_law_breaches "_law_breaches" (defScope s_law_breaches) f cdv A outer s H E).xe := passes_of (X := cxOf (L2.CX P w) P w K mg base n_law_breaches "_law_breaches" (defScope s_law_breaches) f cdv A outer s H E) rfl
  exact (sb_cons (ss_set (i := 4) scN rfl (Or.inl rfl) (se_lst sa_nil))
      (sb_cons (ss_for hpo rfl (so_enumL rfl T.n_enumerate (sa_cons (se_var 1) sa_nil)) (sg_tup rfl (sgs_cons (sg_name (i := 5) scN rfl (Or.inl rfl)) (sgs_cons (sg_name (i := 6) scN rfl (Or.inl rfl)) sgs_nil))) (sb_one (ss_for hpo rfl (so_range1 rfl T.n_range (sa_cons (se_callB cd_len rfl T.n_len bt_len (sa_cons (se_var 6) sa_nil)) sa_nil)) (sg_name (i := 7) scN rfl (Or.inl rfl)) (sb_one (ss_for hpo rfl (so_range1 rfl T.n_range (sa_cons (se_callB cd_len rfl T.n_len bt_len (sa_cons (se_var 1) sa_nil)) sa_nil)) (sg_name (i := 8) scN rfl (Or.inl rfl)) (sb_one (ss_if (PW.pt (sw_and (st_cmp od_gt (se_ix (se_var 2) (se_var 8)) (se_ix (se_var 2) (se_var 5)) (nomark _)) (sw_and1 (st_cmp od_lt (se_call H_law_rank_at (hr.mono (by decide)) rfl hx (sa_cons (se_var 1) (sa_cons (se_var 2) (sa_cons (se_var 3) (sa_cons (se_var 5) (sa_cons (se_var 7) sa_nil)))))) (se_ix (se_var 2) (se_var 8)) (nomark _))))) (sb_cons (ss_set (i := 9) scN rfl (Or.inl rfl) (se_call H_law_entry (hr.mono (by decide)) rfl hx (sa_cons (se_var 0) (sa_cons (se_var 1) (sa_cons (se_var 8) (sa_cons (se_ix (se_ix (se_var 6) (se_var 7)) se_int) sa_nil))))))
      (sb_one (ss_set (i := 4) scN rfl (Or.inl rfl) (se_bin od_add (se_var 4) (se_bin od_mul (se_lst (sa_cons (se_tup (sa_cons (se_var 5) (sa_cons (se_var 7) (sa_cons (se_var 8) (sa_cons (se_var 9) sa_nil))))) sa_nil)) (se_callTy cd_int rfl T.n_int bt_int (sa_cons (se_cmp od_notN (se_var 9) se_non (nomark _)) sa_nil))))))) sb_nil)))))))
      (sb_one (ss_ret (se_var 4)))))
theorem ok_law_ceilings (T : Tx K mg cl) {f : Addr} {fd : FuncData} (F : Fun K "_law_ceilings" "_law_ceilings" s_law_ceilings f fd) (H_law_entry : Has P w K mg base cl "_law_entry" 2 d_law_entry) : FnOk P w K mg base (L2.CX P w) 3 f fd ["house", "plan", "ranks"] (SpD K cl d_law_ceilings) := by
  refine fn_ok F sc_law_ceilings fun cdv A outer s H E hr => ?_
  have scN := sc_law_ceilings.nd
  have tk := takes_of (X := cxOf (L2.CX P w) P w K mg base n_law_ceilings "_law_ceilings" (defScope s_law_ceilings) f cdv A outer s H E) (E := E) rfl rfl rfl rfl
  have hx := passes_call (E := E) tk (fun _ _ _ _ h => h)
  have hpo : PassesOwn (model P w) (cxOf (L2.CX P w) P w K mg base n_law_ceilings "_law_ceilings" (defScope s_law_ceilings) f cdv A outer s H E).A (cxOf (L2.CX P w) P w K mg base n_law_ceilings "_law_ceilings" (defScope s_law_ceilings) f cdv A outer s H E).env (cxOf (L2.CX P w) P w K mg base n_law_ceilings "_law_ceilings" (defScope s_law_ceilings) f cdv A outer s H E).xe := passes_of (X := cxOf (L2.CX P w) P w K mg base n_law_ceilings "_law_ceilings" (defScope s_law_ceilings) f cdv A outer s H E) rfl
  exact (sb_cons (ss_set (i := 3) scN rfl (Or.inl rfl) (se_lst sa_nil))
      (sb_cons (ss_for hpo rfl (so_range1 rfl T.n_range (sa_cons (se_callB cd_len rfl T.n_len bt_len (sa_cons (se_ix (se_var 0) se_int) sa_nil)) sa_nil)) (sg_name (i := 4) scN rfl (Or.inr rfl)) (sb_cons (ss_set (i := 5) scN rfl (Or.inl rfl) (se_lst sa_nil))
      (sb_cons (ss_for hpo rfl (so_tup (se_tup (sa_cons se_str (sa_cons se_str sa_nil)))) (sg_name (i := 6) scN rfl (Or.inr rfl)) (sb_cons (ss_setLc (own := [("hand", 8)]) (i := 7) rfl scN rfl rfl (sw_true rfl rfl rfl (by decide +kernel)) (so_range1 rfl T.n_range (sa_cons (se_callB cd_len rfl T.n_len bt_len (sa_cons (se_var 1) sa_nil)) sa_nil)) (blkOk_by (own := [("hand", 8)]) (N := n_law_ceilings) (sc := (defScope s_law_ceilings)) (by decide +kernel)) (by decide) (fun _ _ _ _ _ => (sg_name (i := 8) scN rfl (Or.inl rfl))) (fun _ _ _ _ _ => (pts_one (st_cmp od_notN (se_call H_law_entry (hr.mono (by decide)) rfl passL (sa_cons (se_var 0) (sa_cons (se_var 1) (sa_cons (se_var 8) (sa_cons (se_tup (sa_cons (se_tup (sa_cons (se_var 4) (sa_cons (se_var 6) sa_nil))) sa_nil)) sa_nil))))) se_non (nomark _)))) (fun _ _ _ _ _ => (se_var 8)))
      (sb_one (ss_expr (se_mth PySem.F.slot_list_append PySem.F.type_list_append md_append (se_var 5) (sa_cons (se_if (st_cmp (od_ne hr.units) (se_var 7) (se_lst sa_nil) (nomark _)) (se_callB (cd_max rfl) rfl T.n_max bt_max (sa_cons (se_lc (own := [("hand", 8)]) rfl scN (so_list (se_var 7)) (blkOk_by (own := [("hand", 8)]) (N := n_law_ceilings) (sc := (defScope s_law_ceilings)) (by decide +kernel)) (by decide) (fun _ _ _ _ _ => (sg_name (i := 8) scN rfl (Or.inl rfl))) (fun _ _ _ _ _ => pts_yes) (fun _ _ _ _ _ => (se_ix (se_var 2) (se_var 8)))) sa_nil)) se_non) sa_nil))))))
      (sb_one (ss_expr (se_mth PySem.F.slot_list_append PySem.F.type_list_append md_append (se_var 3) (sa_cons (se_callTy cd_tuple rfl T.n_tuple bt_tuple (sa_cons (se_var 5) sa_nil)) sa_nil)))))))
      (sb_one (ss_ret (se_callTy cd_tuple rfl T.n_tuple bt_tuple (sa_cons (se_var 3) sa_nil))))))
theorem ok_law_drawn_raised (T : Tx K mg cl) {f : Addr} {fd : FuncData} (F : Fun K "_law_drawn_raised" "_law_drawn_raised" s_law_drawn_raised f fd) (H_law_ceilings : Has P w K mg base cl "_law_ceilings" 3 d_law_ceilings) (H_law_draw : Has P w K mg base cl "_law_draw" 1 d_law_draw) (H_law_pick : Has P w K mg base cl "_law_pick" 2 d_law_pick) : FnOk P w K mg base (L2.CX P w) 4 f fd ["deck", "house", "plan", "ranks"] (SpD K cl d_law_drawn_raised) := by
  refine fn_ok F sc_law_drawn_raised fun cdv A outer s H E hr => ?_
  have scN := sc_law_drawn_raised.nd
  have tk := takes_of (X := cxOf (L2.CX P w) P w K mg base n_law_drawn_raised "_law_drawn_raised" (defScope s_law_drawn_raised) f cdv A outer s H E) (E := E) rfl rfl rfl rfl
  have hx := passes_call (E := E) tk (fun _ _ _ _ h => h)
  have hpo : PassesOwn (model P w) (cxOf (L2.CX P w) P w K mg base n_law_drawn_raised "_law_drawn_raised" (defScope s_law_drawn_raised) f cdv A outer s H E).A (cxOf (L2.CX P w) P w K mg base n_law_drawn_raised "_law_drawn_raised" (defScope s_law_drawn_raised) f cdv A outer s H E).env (cxOf (L2.CX P w) P w K mg base n_law_drawn_raised "_law_drawn_raised" (defScope s_law_drawn_raised) f cdv A outer s H E).xe := passes_of (X := cxOf (L2.CX P w) P w K mg base n_law_drawn_raised "_law_drawn_raised" (defScope s_law_drawn_raised) f cdv A outer s H E) rfl
  exact (sb_cons (ss_par (i := 4) (j := 5) rfl scN rfl rfl (by decide) rfl rfl (sa_cons (se_lc (own := [("pair", 7)]) rfl scN (so_tup (se_call H_law_ceilings (hr.mono (by decide)) rfl hx (sa_cons (se_var 1) (sa_cons (se_var 2) (sa_cons (se_var 3) sa_nil))))) (blkOk_by (own := [("pair", 7)]) (N := n_law_drawn_raised) (sc := (defScope s_law_drawn_raised)) (by decide +kernel)) (by decide) (fun _ _ _ _ _ => (sg_name (i := 7) scN rfl (Or.inl rfl))) (fun _ _ _ _ _ => pts_yes) (fun _ _ _ _ _ => (se_callTy cd_list rfl T.n_list bt_list (sa_cons (se_var 7) sa_nil)))) (sa_cons (se_call H_law_draw (hr.mono (by decide)) rfl hx (sa_cons (se_var 0) (sa_cons se_int sa_nil))) sa_nil)) (by rfl))
      (sb_cons (ss_set (i := 6) scN rfl (Or.inr rfl) (se_bin od_add (se_lst (sa_cons se_non (sa_cons (se_neg se_int) (sa_cons se_int (sa_cons (se_bin od_pow se_int se_int) sa_nil))))) (se_callTy cd_list rfl T.n_list bt_list (sa_cons (se_var 3) sa_nil))))
      (sb_cons (ss_if (st_cmp od_in (se_var 5) (se_tup (sa_cons se_int (sa_cons se_int sa_nil))) rfl) (sb_one (ss_iput (se_ix (se_var 4) (se_call H_law_draw (hr.mono (by decide)) rfl hx (sa_cons (se_var 0) (sa_cons (se_callB cd_len rfl T.n_len bt_len (sa_cons (se_var 4) sa_nil)) sa_nil)))) (se_call H_law_draw (hr.mono (by decide)) rfl hx (sa_cons (se_var 0) (sa_cons se_int sa_nil))) (se_call H_law_pick (hr.mono (by decide)) rfl hx (sa_cons (se_var 0) (sa_cons (se_var 6) sa_nil))))) sb_nil)
      (sb_cons (ss_if (st_cmp (od_eq hr.units) (se_var 5) se_int (nomark _)) (sb_one (ss_setLc (own := [("room", 8)]) (i := 4) rfl scN rfl rfl (sw_true rfl rfl rfl (by decide +kernel)) (so_tup (se_ix (se_var 1) se_int)) (blkOk_by (own := [("room", 8)]) (N := n_law_drawn_raised) (sc := (defScope s_law_drawn_raised)) (by decide +kernel)) (by decide) (fun _ _ _ _ _ => (sg_name (i := 8) scN rfl (Or.inl rfl))) (fun _ _ _ _ _ => pts_yes) (fun _ _ _ _ _ => (se_lst (sa_cons (se_call H_law_pick (hr.mono (by decide)) rfl passL (sa_cons (se_var 0) (sa_cons (se_var 6) sa_nil))) (sa_cons (se_call H_law_pick (hr.mono (by decide)) rfl passL (sa_cons (se_var 0) (sa_cons (se_var 6) sa_nil))) sa_nil)))))) sb_nil)
      (sb_one (ss_ret (se_callTy cd_tuple rfl T.n_tuple bt_tuple (sa_cons (se_lc (own := [("pair", 7)]) rfl scN (so_list (se_var 4)) (blkOk_by (own := [("pair", 7)]) (N := n_law_drawn_raised) (sc := (defScope s_law_drawn_raised)) (by decide +kernel)) (by decide) (fun _ _ _ _ _ => (sg_name (i := 7) scN rfl (Or.inl rfl))) (fun _ _ _ _ _ => pts_yes) (fun _ _ _ _ _ => (se_callTy cd_tuple rfl T.n_tuple bt_tuple (sa_cons (se_var 7) sa_nil)))) sa_nil))))))))
theorem ok_law_is_whole (T : Tx K mg cl) {f : Addr} {fd : FuncData} (F : Fun K "_law_is_whole" "_law_is_whole" s_law_is_whole f fd) : FnOk P w K mg base (L2.CX P w) 1 f fd ["value", "many"] (SpD K cl d_law_is_whole) := by
  refine fn_ok F sc_law_is_whole fun cdv A outer s H E hr => ?_
  have scN := sc_law_is_whole.nd
  have tk := takes_of (X := cxOf (L2.CX P w) P w K mg base n_law_is_whole "_law_is_whole" (defScope s_law_is_whole) f cdv A outer s H E) (E := E) rfl rfl rfl rfl
  have hx := passes_call (E := E) tk (fun _ _ _ _ h => h)
  have hpo : PassesOwn (model P w) (cxOf (L2.CX P w) P w K mg base n_law_is_whole "_law_is_whole" (defScope s_law_is_whole) f cdv A outer s H E).A (cxOf (L2.CX P w) P w K mg base n_law_is_whole "_law_is_whole" (defScope s_law_is_whole) f cdv A outer s H E).env (cxOf (L2.CX P w) P w K mg base n_law_is_whole "_law_is_whole" (defScope s_law_is_whole) f cdv A outer s H E).xe := passes_of (X := cxOf (L2.CX P w) P w K mg base n_law_is_whole "_law_is_whole" (defScope s_law_is_whole) f cdv A outer s H E) rfl
  exact (sb_one (ss_ret (se_and (se_isi rfl T.n_isinstance bt_isinstance (se_var 0) rfl T.n_int bt_int) (se_and (se_not (se_isi rfl T.n_isinstance bt_isinstance (se_var 0) rfl T.n_bool bt_bool)) (se_one (se_chain od_le od_lt se_int (se_var 0) (se_var 1)))))))
theorem ok_law_is_raised (T : Tx K mg cl) {f : Addr} {fd : FuncData} (F : Fun K "_law_is_raised" "_law_is_raised" s_law_is_raised f fd) : FnOk P w K mg base (L2.CX P w) 1 f fd ["house", "value"] (SpD K cl d_law_is_raised) := by
  refine fn_ok F sc_law_is_raised fun cdv A outer s H E hr => ?_
  have scN := sc_law_is_raised.nd
  have tk := takes_of (X := cxOf (L2.CX P w) P w K mg base n_law_is_raised "_law_is_raised" (defScope s_law_is_raised) f cdv A outer s H E) (E := E) rfl rfl rfl rfl
  have hx := passes_call (E := E) tk (fun _ _ _ _ h => h)
  have hpo : PassesOwn (model P w) (cxOf (L2.CX P w) P w K mg base n_law_is_raised "_law_is_raised" (defScope s_law_is_raised) f cdv A outer s H E).A (cxOf (L2.CX P w) P w K mg base n_law_is_raised "_law_is_raised" (defScope s_law_is_raised) f cdv A outer s H E).env (cxOf (L2.CX P w) P w K mg base n_law_is_raised "_law_is_raised" (defScope s_law_is_raised) f cdv A outer s H E).xe := passes_of (X := cxOf (L2.CX P w) P w K mg base n_law_is_raised "_law_is_raised" (defScope s_law_is_raised) f cdv A outer s H E) rfl
  exact (sb_cons (ss_if (PW.pt (sw_or (st_not (st_val (se_isi rfl T.n_isinstance bt_isinstance (se_var 1) rfl T.n_tuple bt_tuple))) (sw_or1 (st_cmp (od_ne hr.units) (se_callB cd_len rfl T.n_len bt_len (sa_cons (se_var 1) sa_nil)) (se_callB cd_len rfl T.n_len bt_len (sa_cons (se_ix (se_var 0) se_int) sa_nil)) (nomark _))))) (sb_one (ss_ret se_bl)) sb_nil)
      (sb_cons (ss_for hpo rfl (so_tup (se_var 1)) (sg_name (i := 2) scN rfl (Or.inl rfl)) (sb_cons (ss_if (PW.pt (sw_or (st_not (st_val (se_isi rfl T.n_isinstance bt_isinstance (se_var 2) rfl T.n_tuple bt_tuple))) (sw_or1 (st_cmp (od_ne hr.units) (se_callB cd_len rfl T.n_len bt_len (sa_cons (se_var 2) sa_nil)) se_int (nomark _))))) (sb_one (ss_ret se_bl)) sb_nil)
      (sb_one (ss_for hpo rfl (so_tup (se_var 2)) (sg_name (i := 3) scN rfl (Or.inl rfl)) (sb_one (ss_if (PW.pt (sw_and (st_cmp od_notN (se_var 3) se_non (nomark _)) (sw_and1 (PW.pt (sw_or (st_val (se_isi rfl T.n_isinstance bt_isinstance (se_var 3) rfl T.n_bool bt_bool)) (sw_or1 (st_not (st_val (se_isi rfl T.n_isinstance bt_isinstance (se_var 3) rfl T.n_int bt_int))))))))) (sb_one (ss_ret se_bl)) sb_nil))))))
      (sb_one (ss_ret se_bl))))
theorem ok_law_error (T : Tx K mg cl) {f : Addr} {fd : FuncData} (F : Fun K "_law_error" "_law_error" s_law_error f fd) (H_law_entry : Has P w K mg base cl "_law_entry" 2 d_law_entry) (H_law_is_whole : Has P w K mg base cl "_law_is_whole" 1 d_law_is_whole) (H_law_rank_at : Has P w K mg base cl "_law_rank_at" 2 d_law_rank_at) : FnOk P w K mg base (L2.CX P w) 3 f fd ["house", "plan", "ranks", "raised", "value"] (SpD K cl d_law_error) := by
  refine fn_ok F sc_law_error fun cdv A outer s H E hr => ?_
  have scN := sc_law_error.nd
  have tk := takes_of (X := cxOf (L2.CX P w) P w K mg base n_law_error "_law_error" (defScope s_law_error) f cdv A outer s H E) (E := E) rfl rfl rfl rfl
  have hx := passes_call (E := E) tk (fun _ _ _ _ h => h)
  have hpo : PassesOwn (model P w) (cxOf (L2.CX P w) P w K mg base n_law_error "_law_error" (defScope s_law_error) f cdv A outer s H E).A (cxOf (L2.CX P w) P w K mg base n_law_error "_law_error" (defScope s_law_error) f cdv A outer s H E).env (cxOf (L2.CX P w) P w K mg base n_law_error "_law_error" (defScope s_law_error) f cdv A outer s H E).xe := passes_of (X := cxOf (L2.CX P w) P w K mg base n_law_error "_law_error" (defScope s_law_error) f cdv A outer s H E) rfl
  exact (sb_cons (ss_if (PW.pt (sw_or (st_not (st_val (se_isi rfl T.n_isinstance bt_isinstance (se_var 4) rfl T.n_tuple bt_tuple))) (sw_or1 (st_cmp (od_ne hr.units) (se_callB cd_len rfl T.n_len bt_len (sa_cons (se_var 4) sa_nil)) se_int (nomark _))))) (sb_one (ss_ret se_str)) sb_nil)
      (sb_cons (ss_asg (se_var 4) (sg_tup rfl (sgs_cons (sg_name (i := 5) scN rfl (Or.inl rfl)) (sgs_cons (sg_name (i := 6) scN rfl (Or.inl rfl)) (sgs_cons (sg_name (i := 7) scN rfl (Or.inl rfl)) (sgs_cons (sg_name (i := 8) scN rfl (Or.inl rfl)) sgs_nil))))))
      (sb_cons (ss_if (PW.pt (sw_or (st_not (st_val (se_call H_law_is_whole (hr.mono (by decide)) rfl hx (sa_cons (se_var 5) (sa_cons (se_callB cd_len rfl T.n_len bt_len (sa_cons (se_var 1) sa_nil)) sa_nil))))) (sw_or (st_not (st_val (se_call H_law_is_whole (hr.mono (by decide)) rfl hx (sa_cons (se_var 7) (sa_cons (se_callB cd_len rfl T.n_len bt_len (sa_cons (se_var 1) sa_nil)) sa_nil))))) (sw_or1 (st_cmp (od_eq hr.units) (se_var 5) (se_var 7) (nomark _)))))) (sb_one (ss_ret se_str)) sb_nil)
      (sb_cons (ss_if (PW.pt (sw_or (st_not (st_val (se_call H_law_is_whole (hr.mono (by decide)) rfl hx (sa_cons (se_var 6) (sa_cons (se_callB cd_len rfl T.n_len bt_len (sa_cons (se_ix (se_var 1) (se_var 5)) sa_nil)) sa_nil))))) (sw_or1 (st_not (st_val (se_call H_law_is_whole (hr.mono (by decide)) rfl hx (sa_cons (se_var 8) (sa_cons (se_callB cd_len rfl T.n_len bt_len (sa_cons (se_ix (se_var 1) (se_var 7)) sa_nil)) sa_nil)))))))) (sb_one (ss_ret se_str)) sb_nil)
      (sb_cons (ss_if (st_cmp od_lt (se_ix (se_var 2) (se_var 7)) (se_ix (se_var 2) (se_var 5)) (nomark _)) (sb_one (ss_ret se_str)) sb_nil)
      (sb_cons (ss_if (st_cmp (od_ne hr.units) (se_call H_law_entry (hr.mono (by decide)) rfl hx (sa_cons (se_var 0) (sa_cons (se_var 1) (sa_cons (se_var 7) (sa_cons (se_ix (se_ix (se_ix (se_var 1) (se_var 5)) (se_var 6)) se_int) sa_nil))))) (se_var 8) (nomark _)) (sb_one (ss_ret se_str)) sb_nil)
      (sb_one (ss_ret (se_if (st_cmp od_ge (se_call H_law_rank_at (hr.mono (by decide)) rfl hx (sa_cons (se_var 1) (sa_cons (se_var 2) (sa_cons (se_var 3) (sa_cons (se_var 5) (sa_cons (se_var 6) sa_nil)))))) (se_ix (se_var 2) (se_var 7)) (nomark _)) se_str se_non)))))))))
theorem ok_law_longest (T : Tx K mg cl) {f : Addr} {fd : FuncData} (F : Fun K "_law_longest" "_law_longest" s_law_longest f fd) (H_law_rank_at : Has P w K mg base cl "_law_rank_at" 2 d_law_rank_at) : FnOk P w K mg base (L2.CX P w) 3 f fd ["plan", "ranks", "raised", "hand"] (SpD K cl d_law_longest) := by
  refine fn_ok F sc_law_longest fun cdv A outer s H E hr => ?_
  have scN := sc_law_longest.nd
  have tk := takes_of (X := cxOf (L2.CX P w) P w K mg base n_law_longest "_law_longest" (defScope s_law_longest) f cdv A outer s H E) (E := E) rfl rfl rfl rfl
  have hx := passes_call (E := E) tk (fun _ _ _ _ h => h)
  have hpo : PassesOwn (model P w) (cxOf (L2.CX P w) P w K mg base n_law_longest "_law_longest" (defScope s_law_longest) f cdv A outer s H E).A (cxOf (L2.CX P w) P w K mg base n_law_longest "_law_longest" (defScope s_law_longest) f cdv A outer s H E).env (cxOf (L2.CX P w) P w K mg base n_law_longest "_law_longest" (defScope s_law_longest) f cdv A outer s H E).xe := passes_of (X := cxOf (L2.CX P w) P w K mg base n_law_longest "_law_longest" (defScope s_law_longest) f cdv A outer s H E) rfl
  exact (sb_cons (ss_set (i := 4) scN rfl (Or.inl rfl) se_int)
      (sb_cons (ss_for hpo rfl (so_enumL rfl T.n_enumerate (sa_cons (se_var 0) sa_nil)) (sg_tup rfl (sgs_cons (sg_name (i := 5) scN rfl (Or.inl rfl)) (sgs_cons (sg_name (i := 6) scN rfl (Or.inl rfl)) sgs_nil))) (sb_cons (ss_set (i := 7) scN rfl (Or.inl rfl) se_int)
      (sb_one (ss_for hpo rfl (so_list (se_if (st_cmp od_lt (se_ix (se_var 1) (se_var 5)) (se_ix (se_var 1) (se_var 3)) (nomark _)) (se_listRg rfl rfl T.n_range rfl T.n_list (se_callB cd_len rfl T.n_len bt_len (sa_cons (se_var 6) sa_nil))) (se_lst sa_nil))) (sg_name (i := 8) scN rfl (Or.inl rfl)) (sb_cons (ss_set (i := 7) scN rfl (Or.inl rfl) (se_if (st_cmp od_ge (se_call H_law_rank_at (hr.mono (by decide)) rfl hx (sa_cons (se_var 0) (sa_cons (se_var 1) (sa_cons (se_var 2) (sa_cons (se_var 5) (sa_cons (se_var 8) sa_nil)))))) (se_ix (se_var 1) (se_var 3)) (nomark _)) (se_bin od_add (se_var 7) se_int) se_int))
      (sb_one (ss_set (i := 4) scN rfl (Or.inl rfl) (se_callB (cd_max rfl) rfl T.n_max bt_max (sa_cons (se_var 4) (sa_cons (se_var 7) sa_nil))))))))))
      (sb_one (ss_ret (se_var 4)))))
theorem ok_law_odd_raised (T : Tx K mg cl) {f : Addr} {fd : FuncData} (F : Fun K "_law_odd_raised" "_law_odd_raised" s_law_odd_raised f fd) (H_law_draw : Has P w K mg base cl "_law_draw" 1 d_law_draw) (H_law_pick : Has P w K mg base cl "_law_pick" 2 d_law_pick) : FnOk P w K mg base (L2.CX P w) 3 f fd ["deck", "raised"] (SpD K cl d_law_odd_raised) := by
  refine fn_ok F sc_law_odd_raised fun cdv A outer s H E hr => ?_
  have scN := sc_law_odd_raised.nd
  have tk := takes_of (X := cxOf (L2.CX P w) P w K mg base n_law_odd_raised "_law_odd_raised" (defScope s_law_odd_raised) f cdv A outer s H E) (E := E) rfl rfl rfl rfl
  have hx := passes_call (E := E) tk (fun _ _ _ _ h => h)
  have hpo : PassesOwn (model P w) (cxOf (L2.CX P w) P w K mg base n_law_odd_raised "_law_odd_raised" (defScope s_law_odd_raised) f cdv A outer s H E).A (cxOf (L2.CX P w) P w K mg base n_law_odd_raised "_law_odd_raised" (defScope s_law_odd_raised) f cdv A outer s H E).env (cxOf (L2.CX P w) P w K mg base n_law_odd_raised "_law_odd_raised" (defScope s_law_odd_raised) f cdv A outer s H E).xe := passes_of (X := cxOf (L2.CX P w) P w K mg base n_law_odd_raised "_law_odd_raised" (defScope s_law_odd_raised) f cdv A outer s H E) rfl
  exact (sb_cons (ss_par (i := 2) (j := 3) rfl scN rfl rfl (by decide) rfl rfl (sa_cons (se_call H_law_draw (hr.mono (by decide)) rfl hx (sa_cons (se_var 0) (sa_cons (se_callB cd_len rfl T.n_len bt_len (sa_cons (se_var 1) sa_nil)) sa_nil))) (sa_cons (se_call H_law_draw (hr.mono (by decide)) rfl hx (sa_cons (se_var 0) (sa_cons se_int sa_nil))) sa_nil)) (by rfl))
      (sb_cons (ss_set (i := 4) scN rfl (Or.inl rfl) (se_call H_law_pick (hr.mono (by decide)) rfl hx (sa_cons (se_var 0) (sa_cons (se_lst (sa_cons (se_tup (sa_cons se_non sa_nil)) (sa_cons (se_tup (sa_cons se_int (sa_cons se_int (sa_cons se_int sa_nil)))) (sa_cons se_non (sa_cons (se_lst (sa_cons se_int (sa_cons se_int sa_nil))) (sa_cons (se_tup (sa_cons se_bl (sa_cons se_int sa_nil))) (sa_cons (se_tup (sa_cons se_int (sa_cons se_str sa_nil))) (sa_cons (se_tup (sa_cons se_int (sa_cons (se_tup sa_nil) sa_nil))) (sa_cons (se_tup (sa_cons se_int (sa_cons (se_neg se_int) sa_nil))) (sa_cons (se_tup (sa_cons se_non (sa_cons (se_bin od_pow se_int se_int) sa_nil))) sa_nil)))))))))) sa_nil))))
      (sb_cons (ss_if (st_cmp od_lt (se_var 3) se_int (nomark _)) (sb_one (ss_ret (se_bin od_add (se_bin od_add (se_sl (se_var 1) so_none (so_some (se_var 2))) (se_tup (sa_cons (se_var 4) sa_nil))) (se_sl (se_var 1) (so_some (se_bin od_add (se_var 2) se_int)) so_none)))) sb_nil)
      (sb_one (ss_ret (se_ix (se_lst (sa_cons (se_sl (se_var 1) so_none (so_some (se_neg se_int))) (sa_cons (se_bin od_add (se_var 1) (se_tup (sa_cons (se_tup (sa_cons se_non (sa_cons se_non sa_nil))) sa_nil))) (sa_cons (se_callTy cd_list rfl T.n_list bt_list (sa_cons (se_var 1) sa_nil)) sa_nil)))) (se_bin od_sub (se_var 3) se_int)))))))
theorem ok_law_near (T : Tx K mg cl) {f : Addr} {fd : FuncData} (F : Fun K "_law_near" "_law_near" s_law_near f fd) (H_law_draw : Has P w K mg base cl "_law_draw" 1 d_law_draw) (H_law_pick : Has P w K mg base cl "_law_pick" 2 d_law_pick) : FnOk P w K mg base (L2.CX P w) 3 f fd ["deck", "breach"] (SpD K cl d_law_near) := by
  refine fn_ok F sc_law_near fun cdv A outer s H E hr => ?_
  have scN := sc_law_near.nd
  have tk := takes_of (X := cxOf (L2.CX P w) P w K mg base n_law_near "_law_near" (defScope s_law_near) f cdv A outer s H E) (E := E) rfl rfl rfl rfl
  have hx := passes_call (E := E) tk (fun _ _ _ _ h => h)
  have hpo : PassesOwn (model P w) (cxOf (L2.CX P w) P w K mg base n_law_near "_law_near" (defScope s_law_near) f cdv A outer s H E).A (cxOf (L2.CX P w) P w K mg base n_law_near "_law_near" (defScope s_law_near) f cdv A outer s H E).env (cxOf (L2.CX P w) P w K mg base n_law_near "_law_near" (defScope s_law_near) f cdv A outer s H E).xe := passes_of (X := cxOf (L2.CX P w) P w K mg base n_law_near "_law_near" (defScope s_law_near) f cdv A outer s H E) rfl
  exact (sb_cons (ss_par (i := 2) (j := 3) rfl scN rfl rfl (by decide) rfl rfl (sa_cons (se_call H_law_draw (hr.mono (by decide)) rfl hx (sa_cons (se_var 0) (sa_cons se_int sa_nil))) (sa_cons (se_callTy cd_list rfl T.n_list bt_list (sa_cons (se_var 1) sa_nil)) sa_nil)) (by rfl))
      (sb_cons (ss_iput (se_var 3) (se_var 2) (se_call H_law_pick (hr.mono (by decide)) rfl hx (sa_cons (se_var 0) (sa_cons (se_lst (sa_cons (se_call H_law_draw (hr.mono (by decide)) rfl hx (sa_cons (se_var 0) (sa_cons se_int sa_nil))) (sa_cons (se_call H_law_draw (hr.mono (by decide)) rfl hx (sa_cons (se_var 0) (sa_cons se_int sa_nil))) (sa_cons (se_bin od_add (se_ix (se_var 3) (se_var 2)) se_int) (sa_cons se_non (sa_cons se_bl (sa_cons (se_neg se_int) (sa_cons se_int sa_nil)))))))) sa_nil))))
      (sb_one (ss_ret (se_call H_law_pick (hr.mono (by decide)) rfl hx (sa_cons (se_var 0) (sa_cons (se_lst (sa_cons (se_callTy cd_tuple rfl T.n_tuple bt_tuple (sa_cons (se_var 3) sa_nil)) (sa_cons (se_callTy cd_tuple rfl T.n_tuple bt_tuple (sa_cons (se_var 3) sa_nil)) (sa_cons (se_callTy cd_tuple rfl T.n_tuple bt_tuple (sa_cons (se_var 3) sa_nil)) (sa_cons (se_callTy cd_list rfl T.n_list bt_list (sa_cons (se_var 1) sa_nil)) (sa_cons (se_bin od_add (se_var 1) (se_tup (sa_cons se_int sa_nil))) (sa_cons (se_sl (se_var 1) so_none (so_some se_int)) sa_nil))))))) sa_nil)))))))
theorem ok_law_is_refused (T : Tx K mg cl) {f : Addr} {fd : FuncData} (F : Fun K "_law_is_refused" "_law_is_refused" s_law_is_refused f fd) (H_barred_error : Has P w K mg base cl "barred_error" 6 d_barred_error) (H_raised_error : Has P w K mg base cl "raised_error" 3 d_raised_error) (H_raised_wait : Has P w K mg base cl "raised_wait" 6 d_raised_wait) : FnOk P w K mg base (L2.CX P w) 7 f fd ["house", "ranks", "raised", "way", "hand"] (SpD K cl d_law_is_refused) := by
  refine fn_ok F sc_law_is_refused fun cdv A outer s H E hr => ?_
  have scN := sc_law_is_refused.nd
  have tk := takes_of (X := cxOf (L2.CX P w) P w K mg base n_law_is_refused "_law_is_refused" (defScope s_law_is_refused) f cdv A outer s H E) (E := E) rfl rfl rfl rfl
  have hx := passes_call (E := E) tk (fun _ _ _ _ h => h)
  have hpo : PassesOwn (model P w) (cxOf (L2.CX P w) P w K mg base n_law_is_refused "_law_is_refused" (defScope s_law_is_refused) f cdv A outer s H E).A (cxOf (L2.CX P w) P w K mg base n_law_is_refused "_law_is_refused" (defScope s_law_is_refused) f cdv A outer s H E).env (cxOf (L2.CX P w) P w K mg base n_law_is_refused "_law_is_refused" (defScope s_law_is_refused) f cdv A outer s H E).xe := passes_of (X := cxOf (L2.CX P w) P w K mg base n_law_is_refused "_law_is_refused" (defScope s_law_is_refused) f cdv A outer s H E) rfl
  exact (sb_cons (ss_try T.e_Unfit rfl rfl rfl (by decide) tk (fun W pn xe tk hpo => by
      have hx := passes_call (E := fun cls d H => ∀ σ, W cls d σ H) tk (fun cls d σ H h => h σ)
      exact (sb_one (ss_if (st_cmp (od_eq hr.units) (se_var 3) se_int (nomark _)) (sb_one (ss_expr (se_call H_barred_error (hr.mono (by decide)) rfl hx (sa_cons (se_var 0) (sa_cons (se_var 1) (sa_cons (se_var 2) (sa_cons se_non sa_nil))))))) (sb_one (ss_if (st_cmp (od_eq hr.units) (se_var 3) se_int (nomark _)) (sb_one (ss_expr (se_call H_raised_wait (hr.mono (by decide)) rfl hx (sa_cons (se_var 0) (sa_cons (se_var 1) (sa_cons (se_var 2) (sa_cons (se_var 4) sa_nil))))))) (sb_one (ss_expr (se_call H_raised_error (hr.mono (by decide)) rfl hx (sa_cons (se_var 0) (sa_cons (se_var 2) sa_nil)))))))))))
      (sb_one (ss_ret se_bl)))
theorem ok_law (T : Tx K mg cl) {f : Addr} {fd : FuncData} (F : Fun K "law" "law" s_law f fd) (H_law_any : Has P w K mg base cl "_law_any" 8 (d_law_any 5)) (H_law_breaches : Has P w K mg base cl "_law_breaches" 3 d_law_breaches) (H_law_calm : Has P w K mg base cl "_law_calm" 4 d_law_calm) (H_law_deck : Has P w K mg base cl "_law_deck" 1 d_law_deck) (H_law_draw : Has P w K mg base cl "_law_draw" 1 d_law_draw) (H_law_drawn_raised : Has P w K mg base cl "_law_drawn_raised" 4 d_law_drawn_raised) (H_law_entry : Has P w K mg base cl "_law_entry" 2 d_law_entry) (H_law_error : Has P w K mg base cl "_law_error" 3 d_law_error) (H_law_is_raised : Has P w K mg base cl "_law_is_raised" 1 d_law_is_raised) (H_law_is_refused : Has P w K mg base cl "_law_is_refused" 7 d_law_is_refused) (H_law_longest : Has P w K mg base cl "_law_longest" 3 d_law_longest) (H_law_near : Has P w K mg base cl "_law_near" 3 d_law_near) (H_law_no_calm : Has P w K mg base cl "_law_no_calm" 2 d_law_no_calm) (H_law_odd_raised : Has P w K mg base cl "_law_odd_raised" 3 d_law_odd_raised) (H_law_pick : Has P w K mg base cl "_law_pick" 2 d_law_pick) (H_law_plan : Has P w K mg base cl "_law_plan" 2 d_law_plan) (H_law_ranked : Has P w K mg base cl "_law_ranked" 2 d_law_ranked) (H_barred_error : Has P w K mg base cl "barred_error" 6 d_barred_error) (H_raised_error : Has P w K mg base cl "raised_error" 3 d_raised_error) (H_raised_wait : Has P w K mg base cl "raised_wait" 6 d_raised_wait) (HK_raised_error : HasK P w K mg base cl "raised_error" 3 ["value", "house"] [1, 0] d_raised_error) (HK_barred_error : HasK P w K mg base cl "barred_error" 6 ["value", "raised", "ranks", "house"] [3, 2, 1, 0] d_barred_error) (HK_raised_wait : HasK P w K mg base cl "raised_wait" 6 ["hand", "raised", "ranks", "house"] [3, 2, 1, 0] d_raised_wait) : RunG P w K mg base cl 9 f fd ["script"] d_law := by
  refine fn_okG F sc_law fun cdv A outer s H E hr hgd => ?_
  have scN := sc_law.nd
  have tk := takes_of (X := cxOf (L2.CX P w) P w K mg base n_law "law" (defScope s_law) f cdv A outer s H E) (E := E) rfl rfl rfl rfl
  have hx := passes_call (E := E) tk (fun _ _ _ _ h => h)
  have hpo : PassesOwn (model P w) (cxOf (L2.CX P w) P w K mg base n_law "law" (defScope s_law) f cdv A outer s H E).A (cxOf (L2.CX P w) P w K mg base n_law "law" (defScope s_law) f cdv A outer s H E).env (cxOf (L2.CX P w) P w K mg base n_law "law" (defScope s_law) f cdv A outer s H E).xe := passes_of (X := cxOf (L2.CX P w) P w K mg base n_law "law" (defScope s_law) f cdv A outer s H E) rfl
  exact (sb_cons (ss_set (i := 1) scN rfl (Or.inl rfl) (se_call H_law_deck (hr.mono (by decide)) rfl hx (sa_cons (se_var 0) sa_nil)))
      (sb_cons (ss_for hpo rfl (so_range1 rfl T.n_range (sa_cons se_int sa_nil)) (sg_name (i := 2) scN rfl (Or.inl rfl)) (sb_cons (ss_set (i := 3) scN rfl (Or.inl rfl) (se_call H_law_pick (hr.mono (by decide)) rfl hx (sa_cons (se_var 1) (sa_cons (se_lst (sa_cons se_int (sa_cons se_int (sa_cons se_int (sa_cons se_int (sa_cons se_int (sa_cons se_int sa_nil))))))) sa_nil))))
      (sb_cons (ss_set (i := 4) scN rfl (Or.inl rfl) (se_call H_law_calm (hr.mono (by decide)) rfl hx (sa_cons (se_var 1) (sa_cons (se_var 3) (sa_cons (se_bin od_add se_int (se_call H_law_draw (hr.mono (by decide)) rfl hx (sa_cons (se_var 1) (sa_cons se_int sa_nil)))) (sa_cons (se_if (st_cmp od_lt (se_var 3) se_int (nomark _)) (se_call H_law_pick (hr.mono (by decide)) rfl hx (sa_cons (se_var 1) (sa_cons (se_lst (sa_cons se_int (sa_cons se_int (sa_cons se_int (sa_cons se_int sa_nil))))) sa_nil))) se_int) sa_nil))))))
      (sb_cons (ss_par3 (i := 5) (j := 6) (l := 7) rfl scN rfl rfl rfl (by decide) (by decide) (by decide) rfl rfl rfl (sa_cons (se_call H_law_plan (hr.mono (by decide)) rfl hx (sa_cons (se_var 4) sa_nil)) (sa_cons (se_call H_law_ranked (hr.mono (by decide)) rfl hx (sa_cons (se_var 1) (sa_cons (se_var 3) sa_nil))) (sa_cons (se_callB (cd_repr hgd hr.units) rfl T.n_repr bt_repr (sa_cons (se_var 4) sa_nil)) sa_nil))) (by rfl))
      (sb_cons (ss_set (i := 8) scN rfl (Or.inl rfl) (se_call H_law_drawn_raised (hr.mono (by decide)) rfl hx (sa_cons (se_var 1) (sa_cons (se_var 4) (sa_cons (se_var 5) (sa_cons (se_var 6) sa_nil))))))
      (sb_cons (ss_for hpo rfl (so_tup (se_tup (sa_cons (se_var 8) (sa_cons (se_call H_law_odd_raised (hr.mono (by decide)) rfl hx (sa_cons (se_var 1) (sa_cons (se_var 8) sa_nil))) (sa_cons (se_call H_law_odd_raised (hr.mono (by decide)) rfl hx (sa_cons (se_var 1) (sa_cons (se_var 8) sa_nil))) (sa_cons (se_call H_law_any (hr.mono (by decide)) rfl hx (sa_cons (se_var 1) (sa_cons se_int sa_nil))) sa_nil)))))) (sg_name (i := 9) scN rfl (Or.inl rfl)) (sb_cons (ss_set (i := 10) scN rfl (Or.inl rfl) (se_if (st_val (se_call H_law_is_raised (hr.mono (by decide)) rfl hx (sa_cons (se_var 4) (sa_cons (se_var 9) sa_nil)))) se_non se_str))
      (sb_one (ss_if (st_cmp (od_ne hr.units) (se_callB (cd_repr hgd hr.units) rfl T.n_repr bt_repr (sa_cons (se_lst (sa_cons (se_call H_raised_error (hr.mono (by decide)) rfl hx (sa_cons (se_var 4) (sa_cons (se_var 9) sa_nil))) (sa_cons (se_callK HK_raised_error (hr.mono (by decide)) rfl hx (sk_cons (se_var 9) (sk_cons (se_var 4) sk_nil))) sa_nil))) sa_nil)) (se_callB (cd_repr hgd hr.units) rfl T.n_repr bt_repr (sa_cons (se_lst (sa_cons (se_var 10) (sa_cons (se_var 10) sa_nil))) sa_nil)) (nomark _)) (sb_one (ss_ret se_bl)) sb_nil))))
      (sb_cons (ss_set (i := 11) scN rfl (Or.inl rfl) (se_call H_law_breaches (hr.mono (by decide)) rfl hx (sa_cons (se_var 4) (sa_cons (se_var 5) (sa_cons (se_var 6) (sa_cons (se_var 8) sa_nil))))))
      (sb_cons (ss_par (i := 12) (j := 13) rfl scN rfl rfl (by decide) rfl rfl (sa_cons (se_call H_law_draw (hr.mono (by decide)) rfl hx (sa_cons (se_var 1) (sa_cons (se_var 3) sa_nil))) (sa_cons (se_call H_law_draw (hr.mono (by decide)) rfl hx (sa_cons (se_var 1) (sa_cons (se_var 3) sa_nil))) sa_nil)) (by rfl))
      (sb_cons (ss_set (i := 14) scN rfl (Or.inl rfl) (se_call H_law_draw (hr.mono (by decide)) rfl hx (sa_cons (se_var 1) (sa_cons (se_callB cd_len rfl T.n_len bt_len (sa_cons (se_ix (se_var 5) (se_var 12)) sa_nil)) sa_nil))))
      (sb_cons (ss_set (i := 15) scN rfl (Or.inl rfl) (se_call H_law_entry (hr.mono (by decide)) rfl hx (sa_cons (se_var 4) (sa_cons (se_var 5) (sa_cons (se_var 13) (sa_cons (se_ix (se_ix (se_ix (se_var 5) (se_var 12)) (se_var 14)) se_int) sa_nil))))))
      (sb_cons (ss_set (i := 16) scN rfl (Or.inl rfl) (se_lst (sa_cons (se_tup (sa_cons (se_var 12) (sa_cons (se_var 14) (sa_cons (se_var 13) (sa_cons (se_if (st_cmp od_isN (se_var 15) se_non (nomark _)) se_int (se_var 15)) sa_nil))))) (sa_cons (se_tup (sa_cons (se_var 12) (sa_cons (se_var 14) (sa_cons (se_var 13) (sa_cons (se_call H_law_draw (hr.mono (by decide)) rfl hx (sa_cons (se_var 1) (sa_cons se_int sa_nil))) sa_nil))))) (sa_cons (se_tup sa_nil) (sa_cons se_non sa_nil))))))
      (sb_cons (ss_set (i := 17) scN rfl (Or.inl rfl) (se_if (st_cmp (od_ne hr.units) (se_var 11) (se_lst sa_nil) (nomark _)) (se_call H_law_pick (hr.mono (by decide)) rfl hx (sa_cons (se_var 1) (sa_cons (se_var 11) sa_nil))) (se_ix (se_var 16) se_int)))
      (sb_cons (ss_set (i := 16) scN rfl (Or.inl rfl) (se_bin od_add (se_var 16) (se_lst (sa_cons (se_var 17) (sa_cons (se_call H_law_near (hr.mono (by decide)) rfl hx (sa_cons (se_var 1) (sa_cons (se_var 17) sa_nil))) (sa_cons (se_call H_law_near (hr.mono (by decide)) rfl hx (sa_cons (se_var 1) (sa_cons (se_var 17) sa_nil))) (sa_cons (se_call H_law_near (hr.mono (by decide)) rfl hx (sa_cons (se_var 1) (sa_cons (se_ix (se_var 16) se_int) sa_nil))) sa_nil)))))))
      (sb_cons (ss_for hpo rfl (so_enumL rfl T.n_enumerate (sa_cons (se_bin od_add (se_var 16) (se_lst (sa_cons (se_call H_law_any (hr.mono (by decide)) rfl hx (sa_cons (se_var 1) (sa_cons se_int sa_nil))) sa_nil))) sa_nil)) (sg_tup rfl (sgs_cons (sg_name (i := 18) scN rfl (Or.inl rfl)) (sgs_cons (sg_name (i := 9) scN rfl (Or.inl rfl)) sgs_nil))) (sb_cons (ss_par (i := 10) (j := 19) rfl scN rfl rfl (by decide) rfl rfl (sa_cons (se_call H_law_error (hr.mono (by decide)) rfl hx (sa_cons (se_var 4) (sa_cons (se_var 5) (sa_cons (se_var 6) (sa_cons (se_var 8) (sa_cons (se_var 9) sa_nil)))))) (sa_cons (se_callB (cd_repr hgd hr.units) rfl T.n_repr bt_repr (sa_cons (se_lst (sa_cons (se_var 8) (sa_cons (se_var 9) sa_nil))) sa_nil)) sa_nil)) (by rfl))
      (sb_cons (ss_set (i := 20) scN rfl (Or.inl rfl) (se_lst (sa_cons (se_call H_barred_error (hr.mono (by decide)) rfl hx (sa_cons (se_var 4) (sa_cons (se_var 6) (sa_cons (se_var 8) (sa_cons (se_var 9) sa_nil))))) sa_nil)))
      (sb_cons (ss_if (st_cmp (od_eq hr.units) (se_bin od_mod (se_var 18) se_int) se_int (nomark _)) (sb_one (ss_expr (se_mth PySem.F.slot_list_append PySem.F.type_list_append md_append (se_var 20) (sa_cons (se_callK HK_barred_error (hr.mono (by decide)) rfl hx (sk_cons (se_var 9) (sk_cons (se_var 8) (sk_cons (se_var 6) (sk_cons (se_var 4) sk_nil))))) sa_nil)))) sb_nil)
      (sb_one (ss_if (PW.pt (sw_or (st_cmp (od_ne hr.units) (se_callB (cd_repr hgd hr.units) rfl T.n_repr bt_repr (sa_cons (se_var 20) sa_nil)) (se_callB (cd_repr hgd hr.units) rfl T.n_repr bt_repr (sa_cons (se_bin od_mul (se_lst (sa_cons (se_var 10) sa_nil)) (se_callB cd_len rfl T.n_len bt_len (sa_cons (se_var 20) sa_nil))) sa_nil)) (nomark _)) (sw_or1 (st_cmp (od_ne hr.units) (se_callB (cd_repr hgd hr.units) rfl T.n_repr bt_repr (sa_cons (se_lst (sa_cons (se_var 8) (sa_cons (se_var 9) sa_nil))) sa_nil)) (se_var 19) (nomark _))))) (sb_one (ss_ret se_bl)) sb_nil))))))
      (sb_cons (ss_set (i := 21) scN rfl (Or.inl rfl) (se_call H_law_draw (hr.mono (by decide)) rfl hx (sa_cons (se_var 1) (sa_cons (se_var 3) sa_nil))))
      (sb_cons (ss_set (i := 10) scN rfl (Or.inl rfl) (se_call H_law_longest (hr.mono (by decide)) rfl hx (sa_cons (se_var 5) (sa_cons (se_var 6) (sa_cons (se_var 8) (sa_cons (se_var 21) sa_nil))))))
      (sb_cons (ss_set (i := 20) scN rfl (Or.inl rfl) (se_lst (sa_cons (se_call H_raised_wait (hr.mono (by decide)) rfl hx (sa_cons (se_var 4) (sa_cons (se_var 6) (sa_cons (se_var 8) (sa_cons (se_var 21) sa_nil))))) sa_nil)))
      (sb_cons (ss_expr (se_mth PySem.F.slot_list_append PySem.F.type_list_append md_append (se_var 20) (sa_cons (se_callK HK_raised_wait (hr.mono (by decide)) rfl hx (sk_cons (se_var 21) (sk_cons (se_var 8) (sk_cons (se_var 6) (sk_cons (se_var 4) sk_nil))))) sa_nil)))
      (sb_cons (ss_set (i := 22) scN rfl (Or.inl rfl) (se_call H_law_pick (hr.mono (by decide)) rfl hx (sa_cons (se_var 1) (sa_cons (se_lst (sa_cons se_non (sa_cons (se_tup sa_nil) (sa_cons (se_callTy cd_list rfl T.n_list bt_list (sa_cons (se_var 8) sa_nil)) (sa_cons (se_sl (se_var 8) so_none (so_some (se_neg se_int))) sa_nil))))) sa_nil))))
      (sb_cons (ss_set (i := 23) scN rfl (Or.inl rfl) (se_lst (sa_cons (se_tup (sa_cons (se_call H_law_no_calm (hr.mono (by decide)) rfl hx (sa_cons (se_var 1) (sa_cons (se_var 4) sa_nil))) (sa_cons (se_var 6) (sa_cons (se_var 8) (sa_cons (se_call H_law_draw (hr.mono (by decide)) rfl hx (sa_cons (se_var 1) (sa_cons se_int sa_nil))) sa_nil))))) (sa_cons (se_tup (sa_cons (se_var 4) (sa_cons (se_callTy cd_list rfl T.n_list bt_list (sa_cons (se_var 6) sa_nil)) (sa_cons (se_var 8) (sa_cons se_int sa_nil))))) sa_nil))))
      (sb_cons (ss_set (i := 24) scN rfl (Or.inl rfl) (se_call H_law_pick (hr.mono (by decide)) rfl hx (sa_cons (se_var 1) (sa_cons (se_bin od_add (se_var 23) (se_lst (sa_cons (se_tup (sa_cons (se_var 4) (sa_cons (se_var 6) (sa_cons (se_var 22) (sa_cons se_int sa_nil))))) (sa_cons (se_tup (sa_cons (se_var 4) (sa_cons (se_var 6) (sa_cons (se_var 22) (sa_cons se_int sa_nil))))) (sa_cons (se_tup (sa_cons (se_var 4) (sa_cons (se_tup sa_nil) (sa_cons (se_var 8) (sa_cons se_int sa_nil))))) sa_nil))))) sa_nil))))
      (sb_cons (ss_if (PW.pt (sw_or (st_cmp (od_ne hr.units) (se_callB (cd_repr hgd hr.units) rfl T.n_repr bt_repr (sa_cons (se_var 20) sa_nil)) (se_callB (cd_repr hgd hr.units) rfl T.n_repr bt_repr (sa_cons (se_lst (sa_cons (se_var 10) (sa_cons (se_var 10) sa_nil))) sa_nil)) (nomark _)) (sw_or1 (st_not (st_val (se_call H_law_is_refused (hr.mono (by decide)) rfl hx (sa_cons (se_ix (se_var 24) se_int) (sa_cons (se_ix (se_var 24) se_int) (sa_cons (se_ix (se_var 24) se_int) (sa_cons (se_ix (se_var 24) se_int) (sa_cons se_int sa_nil))))))))))) (sb_one (ss_ret se_bl)) sb_nil)
      (sb_cons (ss_set (i := 22) scN rfl (Or.inl rfl) (se_call H_law_pick (hr.mono (by decide)) rfl hx (sa_cons (se_var 1) (sa_cons (se_lst (sa_cons se_non (sa_cons se_bl (sa_cons (se_neg se_int) (sa_cons (se_var 3) (sa_cons se_str (sa_cons (se_tup (sa_cons se_int sa_nil)) (sa_cons (se_lst (sa_cons se_int sa_nil)) (sa_cons se_dic0 (sa_cons (se_bin od_pow se_int se_int) sa_nil)))))))))) sa_nil))))
      (sb_cons (ss_if (st_not (st_val (se_call H_law_is_refused (hr.mono (by decide)) rfl hx (sa_cons (se_var 4) (sa_cons (se_var 6) (sa_cons (se_var 8) (sa_cons se_int (sa_cons (se_var 22) sa_nil)))))))) (sb_one (ss_ret se_bl)) sb_nil)
      (sb_one (ss_if (st_cmp (od_ne hr.units) (se_callB (cd_repr hgd hr.units) rfl T.n_repr bt_repr (sa_cons (se_var 4) sa_nil)) (se_var 7) (nomark _)) (sb_one (ss_ret se_bl)) sb_nil))))))))))))))))))))))))))
      (sb_one (ss_ret se_bl))))
end
end Dn
set_option Elab.async false
set_option linter.all false
set_option maxRecDepth 100000
set_option maxHeartbeats 0
/-! Hd_k84: the head, printed by head.py. -/
namespace Dn
open PySem PySem.Spec PyProof.Rows L2
def fnD (x : Str) (st : Stmt) : He.FnD := ⟨(x, none), x, x, defArgs st, defBody st, defScope st⟩
def fnL_0 : List He.FnD := [fnD "is_integer" s_is_integer, fnD "is_within" s_is_within, fnD "held" s_held, fnD "wish" s_wish, fnD "entries" s_entries, fnD "is_door" s_is_door, fnD "clash" s_clash, fnD "is_calm" s_is_calm, fnD "calm" s_calm, fnD "ranks_error" s_ranks_error, fnD "ranked" s_ranked, fnD "handed_right" s_handed_right, fnD "does_clash" s_does_clash, fnD "barring_place" s_barring_place, fnD "raised_form" s_raised_form, fnD "raised_error" s_raised_error, fnD "told_right" s_told_right, fnD "raised_to" s_raised_to, fnD "rank_at" s_rank_at, fnD "is_breach_form" s_is_breach_form, fnD "barred_error" s_barred_error, fnD "longest_raised" s_longest_raised, fnD "raised_wait" s_raised_wait, fnD "_law_deck" s_law_deck, fnD "_law_draw" s_law_draw, fnD "_law_pick" s_law_pick, fnD "_law_any" s_law_any, fnD "_law_way" s_law_way, fnD "_law_beyond" s_law_beyond, fnD "_law_plan" s_law_plan]
def fnL_1 : List He.FnD := [fnD "_law_meets" s_law_meets, fnD "_law_calm" s_law_calm, fnD "_law_ranked" s_law_ranked, fnD "_law_no_calm" s_law_no_calm, fnD "_law_told_by" s_law_told_by, fnD "_law_rank_at" s_law_rank_at, fnD "_law_entry" s_law_entry, fnD "_law_breaches" s_law_breaches, fnD "_law_ceilings" s_law_ceilings, fnD "_law_drawn_raised" s_law_drawn_raised, fnD "_law_is_whole" s_law_is_whole, fnD "_law_is_raised" s_law_is_raised, fnD "_law_error" s_law_error, fnD "_law_longest" s_law_longest, fnD "_law_odd_raised" s_law_odd_raised, fnD "_law_near" s_law_near, fnD "_law_is_refused" s_law_is_refused, fnD "law" s_law]
def fnL : List He.FnD := fnL_0 ++ fnL_1

def faL_0 : List He.Fa := [.free "abs", .free "all", .free "bool", .free "enumerate", .free "int", .free "isinstance", .free "len", .free "list", .free "max", .free "range", .free "repr", .free "tuple", .glo "Unfit", .exc "Unfit", .exm "Unfit" "Unfit" true, .glo "is_integer", .keep "is_integer", .glo "is_within", .keep "is_within", .glo "held", .keep "held", .glo "wish", .keep "wish", .glo "entries", .keep "entries", .glo "is_door", .keep "is_door", .glo "clash", .keep "clash", .glo "is_calm"]
def faL_1 : List He.Fa := [.keep "is_calm", .glo "calm", .keep "calm", .glo "ranks_error", .keep "ranks_error", .glo "ranked", .keep "ranked", .glo "handed_right", .keep "handed_right", .glo "does_clash", .keep "does_clash", .glo "barring_place", .keep "barring_place", .glo "raised_form", .keep "raised_form", .glo "raised_error", .keep "raised_error", .glo "told_right", .keep "told_right", .glo "raised_to", .keep "raised_to", .glo "rank_at", .keep "rank_at", .glo "is_breach_form", .keep "is_breach_form", .glo "barred_error", .keep "barred_error", .glo "longest_raised", .keep "longest_raised", .glo "raised_wait"]
def faL_2 : List He.Fa := [.keep "raised_wait", .glo "_law_deck", .keep "_law_deck", .glo "_law_draw", .keep "_law_draw", .glo "_law_pick", .keep "_law_pick", .glo "_law_any", .keep "_law_any", .glo "_law_way", .keep "_law_way", .glo "_law_beyond", .keep "_law_beyond", .glo "_law_plan", .keep "_law_plan", .glo "_law_meets", .keep "_law_meets", .glo "_law_calm", .keep "_law_calm", .glo "_law_ranked", .keep "_law_ranked", .glo "_law_no_calm", .keep "_law_no_calm", .glo "_law_told_by", .keep "_law_told_by", .glo "_law_rank_at", .keep "_law_rank_at", .glo "_law_entry", .keep "_law_entry", .glo "_law_breaches"]
def faL_3 : List He.Fa := [.keep "_law_breaches", .glo "_law_ceilings", .keep "_law_ceilings", .glo "_law_drawn_raised", .keep "_law_drawn_raised", .glo "_law_is_whole", .keep "_law_is_whole", .glo "_law_is_raised", .keep "_law_is_raised", .glo "_law_error", .keep "_law_error", .glo "_law_longest", .keep "_law_longest", .glo "_law_odd_raised", .keep "_law_odd_raised", .glo "_law_near", .keep "_law_near", .glo "_law_is_refused", .keep "_law_is_refused", .glo "law", .keep "law"]
def faL : List He.Fa := faL_0 ++ faL_1 ++ faL_2 ++ faL_3

def exB (K : PySem.W.Frag) : Bool := tcB K "MODES" ["alone", "beside"]
abbrev Rr : PySem.W.OpenRow := PySem.W.OpenLaw.row PySem.Challenge.rw_manylocks_k84_ranks_for_rooms_and_breach
abbrev hk : PySem.W.Hook := hookM 5 faL fnL exB
def ob (s : PySem.W.SharedT) : AlM := obsM 5 faL fnL exB (HandSHeadRun.getT s)
theorem ob_eq (s : PySem.W.SharedT) : ob s = hk.obs s.abs := obsM_eq (HandSHeadRun.getT_eq s)
def looseL_0 : List Str := ["is_integer", "is_within", "LockError", "Unfit", "held", "wish", "entries", "is_door", "clash", "is_calm", "calm", "ranked", "handed_right", "ranks_error", "does_clash", "barring_place", "MODES", "raised_form", "raised_error", "told_right", "raised_to", "rank_at", "is_breach_form", "barred_error", "longest_raised", "raised_wait", "_law_deck", "_law_draw", "_law_pick", "_law_any"]
def looseL_1 : List Str := ["_law_way", "_law_beyond", "_law_plan", "_law_meets", "_law_calm", "_law_ranked", "_law_no_calm", "_law_told_by", "_law_rank_at", "_law_entry", "_law_breaches", "_law_ceilings", "_law_drawn_raised", "_law_is_whole", "_law_is_raised", "_law_error", "_law_longest", "_law_odd_raised", "_law_near", "_law_is_refused"]
def looseL : List Str := looseL_0 ++ looseL_1

theorem run (w : World) : HandSHeadRun.RunEq Rr (PySem.W.view Rr.prog [58]) hk ob 4000 looseL w := by
  intro os
  kernel_rfl
theorem facts {P : Program} {w : World} {K : PySem.W.Frag} {h : Heap} {mg : Str → Option Value} {f : Addr} (X : K.In h) (G : h.Ns mainGlobals mg) (hfa : mg ("law" : Str) = some (.ref f)) (c : SaysM faL fnL exB K) :
    ∃ (fd : FuncData) (cl : Str → Value), (∀ (s : Shared) (u : Value), BindsTo s fd ⟨[u], []⟩ [("script", u)]) ∧ ∀ base : Heap, K.In base → base.Ns mainGlobals mg → RunG P w K mg base cl 9 f fd ["script"] d_law := by
  have T : Tx K mg (clG K) := ⟨He.free_ok X G (c.e.fact 0 (f := .free "abs") rfl),
    He.free_ok X G (c.e.fact 1 (f := .free "all") rfl),
    He.free_ok X G (c.e.fact 2 (f := .free "bool") rfl),
    He.free_ok X G (c.e.fact 3 (f := .free "enumerate") rfl),
    He.free_ok X G (c.e.fact 4 (f := .free "int") rfl),
    He.free_ok X G (c.e.fact 5 (f := .free "isinstance") rfl),
    He.free_ok X G (c.e.fact 6 (f := .free "len") rfl),
    He.free_ok X G (c.e.fact 7 (f := .free "list") rfl),
    He.free_ok X G (c.e.fact 8 (f := .free "max") rfl),
    He.free_ok X G (c.e.fact 9 (f := .free "range") rfl),
    He.free_ok X G (c.e.fact 10 (f := .free "repr") rfl),
    He.free_ok X G (c.e.fact 11 (f := .free "tuple") rfl),
    exn_ok X G (c.e.fact 12 (f := .glo "Unfit") rfl) (c.e.fact 13 (f := .exc "Unfit") rfl) (c.e.fact 14 (f := .exm "Unfit" "Unfit" true) rfl),
    tcB_ok X G c.x⟩
  obtain ⟨_, _, _, _, _, _, _, cdv_is_integer, _, lk_is_integer, cd_is_integer⟩ := c.e.def_ 0 (d := fnD "is_integer" s_is_integer) rfl
  have F_is_integer := fun_mk (st := s_is_integer) lk_is_integer cd_is_integer (He.keep_ok (c.e.fact 16 (f := .keep "is_integer") rfl))
  have g_is_integer : mg "is_integer" = some (.ref (He.ga K "is_integer")) := He.glo_ok X G (c.e.fact 15 (f := .glo "is_integer") rfl)
  have b_is_integer := F_is_integer.binds (ps := ["value"]) fun _ _ _ _ _ _ us hl => match us, hl with | [_], _ => rfl
  obtain ⟨_, _, _, _, _, _, _, cdv_is_within, _, lk_is_within, cd_is_within⟩ := c.e.def_ 1 (d := fnD "is_within" s_is_within) rfl
  have F_is_within := fun_mk (st := s_is_within) lk_is_within cd_is_within (He.keep_ok (c.e.fact 18 (f := .keep "is_within") rfl))
  have g_is_within : mg "is_within" = some (.ref (He.ga K "is_within")) := He.glo_ok X G (c.e.fact 17 (f := .glo "is_within") rfl)
  have b_is_within := F_is_within.binds (ps := ["value", "low", "high"]) fun _ _ _ _ _ _ us hl => match us, hl with | [_, _, _], _ => rfl
  obtain ⟨_, _, _, _, _, _, _, cdv_held, _, lk_held, cd_held⟩ := c.e.def_ 2 (d := fnD "held" s_held) rfl
  have F_held := fun_mk (st := s_held) lk_held cd_held (He.keep_ok (c.e.fact 20 (f := .keep "held") rfl))
  have g_held : mg "held" = some (.ref (He.ga K "held")) := He.glo_ok X G (c.e.fact 19 (f := .glo "held") rfl)
  have b_held := F_held.binds (ps := ["way", "place"]) fun _ _ _ _ _ _ us hl => match us, hl with | [_, _], _ => rfl
  obtain ⟨_, _, _, _, _, _, _, cdv_wish, _, lk_wish, cd_wish⟩ := c.e.def_ 3 (d := fnD "wish" s_wish) rfl
  have F_wish := fun_mk (st := s_wish) lk_wish cd_wish (He.keep_ok (c.e.fact 22 (f := .keep "wish") rfl))
  have g_wish : mg "wish" = some (.ref (He.ga K "wish")) := He.glo_ok X G (c.e.fact 21 (f := .glo "wish") rfl)
  have b_wish := F_wish.binds (ps := ["way", "place"]) fun _ _ _ _ _ _ us hl => match us, hl with | [_, _], _ => rfl
  obtain ⟨_, _, _, _, _, _, _, cdv_entries, _, lk_entries, cd_entries⟩ := c.e.def_ 4 (d := fnD "entries" s_entries) rfl
  have F_entries := fun_mk (st := s_entries) lk_entries cd_entries (He.keep_ok (c.e.fact 24 (f := .keep "entries") rfl))
  have g_entries : mg "entries" = some (.ref (He.ga K "entries")) := He.glo_ok X G (c.e.fact 23 (f := .glo "entries") rfl)
  have b_entries := F_entries.binds (ps := ["way"]) fun _ _ _ _ _ _ us hl => match us, hl with | [_], _ => rfl
  obtain ⟨_, _, _, _, _, _, _, cdv_is_door, _, lk_is_door, cd_is_door⟩ := c.e.def_ 5 (d := fnD "is_door" s_is_door) rfl
  have F_is_door := fun_mk (st := s_is_door) lk_is_door cd_is_door (He.keep_ok (c.e.fact 26 (f := .keep "is_door") rfl))
  have g_is_door : mg "is_door" = some (.ref (He.ga K "is_door")) := He.glo_ok X G (c.e.fact 25 (f := .glo "is_door") rfl)
  have b_is_door := F_is_door.binds (ps := ["house", "room"]) fun _ _ _ _ _ _ us hl => match us, hl with | [_, _], _ => rfl
  obtain ⟨_, _, _, _, _, _, _, cdv_clash, _, lk_clash, cd_clash⟩ := c.e.def_ 6 (d := fnD "clash" s_clash) rfl
  have F_clash := fun_mk (st := s_clash) lk_clash cd_clash (He.keep_ok (c.e.fact 28 (f := .keep "clash") rfl))
  have g_clash : mg "clash" = some (.ref (He.ga K "clash")) := He.glo_ok X G (c.e.fact 27 (f := .glo "clash") rfl)
  have b_clash := F_clash.binds (ps := ["house", "one", "other"]) fun _ _ _ _ _ _ us hl => match us, hl with | [_, _, _], _ => rfl
  obtain ⟨_, _, _, _, _, _, _, cdv_is_calm, _, lk_is_calm, cd_is_calm⟩ := c.e.def_ 7 (d := fnD "is_calm" s_is_calm) rfl
  have F_is_calm := fun_mk (st := s_is_calm) lk_is_calm cd_is_calm (He.keep_ok (c.e.fact 30 (f := .keep "is_calm") rfl))
  have g_is_calm : mg "is_calm" = some (.ref (He.ga K "is_calm")) := He.glo_ok X G (c.e.fact 29 (f := .glo "is_calm") rfl)
  have b_is_calm := F_is_calm.binds (ps := ["house"]) fun _ _ _ _ _ _ us hl => match us, hl with | [_], _ => rfl
  obtain ⟨_, _, _, _, _, _, _, cdv_calm, _, lk_calm, cd_calm⟩ := c.e.def_ 8 (d := fnD "calm" s_calm) rfl
  have F_calm := fun_mk (st := s_calm) lk_calm cd_calm (He.keep_ok (c.e.fact 32 (f := .keep "calm") rfl))
  have g_calm : mg "calm" = some (.ref (He.ga K "calm")) := He.glo_ok X G (c.e.fact 31 (f := .glo "calm") rfl)
  have b_calm := F_calm.binds (ps := ["house"]) fun _ _ _ _ _ _ us hl => match us, hl with | [_], _ => rfl
  obtain ⟨_, _, _, _, _, _, _, cdv_ranks_error, _, lk_ranks_error, cd_ranks_error⟩ := c.e.def_ 9 (d := fnD "ranks_error" s_ranks_error) rfl
  have F_ranks_error := fun_mk (st := s_ranks_error) lk_ranks_error cd_ranks_error (He.keep_ok (c.e.fact 34 (f := .keep "ranks_error") rfl))
  have g_ranks_error : mg "ranks_error" = some (.ref (He.ga K "ranks_error")) := He.glo_ok X G (c.e.fact 33 (f := .glo "ranks_error") rfl)
  have b_ranks_error := F_ranks_error.binds (ps := ["house", "value"]) fun _ _ _ _ _ _ us hl => match us, hl with | [_, _], _ => rfl
  obtain ⟨_, _, _, _, _, _, _, cdv_ranked, _, lk_ranked, cd_ranked⟩ := c.e.def_ 10 (d := fnD "ranked" s_ranked) rfl
  have F_ranked := fun_mk (st := s_ranked) lk_ranked cd_ranked (He.keep_ok (c.e.fact 36 (f := .keep "ranked") rfl))
  have g_ranked : mg "ranked" = some (.ref (He.ga K "ranked")) := He.glo_ok X G (c.e.fact 35 (f := .glo "ranked") rfl)
  have b_ranked := F_ranked.binds (ps := ["house", "ranks"]) fun _ _ _ _ _ _ us hl => match us, hl with | [_, _], _ => rfl
  obtain ⟨_, _, _, _, _, _, _, cdv_handed_right, _, lk_handed_right, cd_handed_right⟩ := c.e.def_ 11 (d := fnD "handed_right" s_handed_right) rfl
  have F_handed_right := fun_mk (st := s_handed_right) lk_handed_right cd_handed_right (He.keep_ok (c.e.fact 38 (f := .keep "handed_right") rfl))
  have g_handed_right : mg "handed_right" = some (.ref (He.ga K "handed_right")) := He.glo_ok X G (c.e.fact 37 (f := .glo "handed_right") rfl)
  have b_handed_right := F_handed_right.binds (ps := ["house", "hand"]) fun _ _ _ _ _ _ us hl => match us, hl with | [_, _], _ => rfl
  obtain ⟨_, _, _, _, _, _, _, cdv_does_clash, _, lk_does_clash, cd_does_clash⟩ := c.e.def_ 12 (d := fnD "does_clash" s_does_clash) rfl
  have F_does_clash := fun_mk (st := s_does_clash) lk_does_clash cd_does_clash (He.keep_ok (c.e.fact 40 (f := .keep "does_clash") rfl))
  have g_does_clash : mg "does_clash" = some (.ref (He.ga K "does_clash")) := He.glo_ok X G (c.e.fact 39 (f := .glo "does_clash") rfl)
  have b_does_clash := F_does_clash.binds (ps := ["house", "thing", "things"]) fun _ _ _ _ _ _ us hl => match us, hl with | [_, _, _], _ => rfl
  obtain ⟨_, _, _, _, _, _, _, cdv_barring_place, _, lk_barring_place, cd_barring_place⟩ := c.e.def_ 13 (d := fnD "barring_place" s_barring_place) rfl
  have F_barring_place := fun_mk (st := s_barring_place) lk_barring_place cd_barring_place (He.keep_ok (c.e.fact 42 (f := .keep "barring_place") rfl))
  have g_barring_place : mg "barring_place" = some (.ref (He.ga K "barring_place")) := He.glo_ok X G (c.e.fact 41 (f := .glo "barring_place") rfl)
  have b_barring_place := F_barring_place.binds (ps := ["house", "hand", "things"]) fun _ _ _ _ _ _ us hl => match us, hl with | [_, _, _], _ => rfl
  obtain ⟨_, _, _, _, _, _, _, cdv_raised_form, _, lk_raised_form, cd_raised_form⟩ := c.e.def_ 14 (d := fnD "raised_form" s_raised_form) rfl
  have F_raised_form := fun_mk (st := s_raised_form) lk_raised_form cd_raised_form (He.keep_ok (c.e.fact 44 (f := .keep "raised_form") rfl))
  have g_raised_form : mg "raised_form" = some (.ref (He.ga K "raised_form")) := He.glo_ok X G (c.e.fact 43 (f := .glo "raised_form") rfl)
  have b_raised_form := F_raised_form.binds (ps := ["house", "value"]) fun _ _ _ _ _ _ us hl => match us, hl with | [_, _], _ => rfl
  obtain ⟨_, _, _, _, _, _, _, cdv_raised_error, _, lk_raised_error, cd_raised_error⟩ := c.e.def_ 15 (d := fnD "raised_error" s_raised_error) rfl
  have F_raised_error := fun_mk (st := s_raised_error) lk_raised_error cd_raised_error (He.keep_ok (c.e.fact 46 (f := .keep "raised_error") rfl))
  have g_raised_error : mg "raised_error" = some (.ref (He.ga K "raised_error")) := He.glo_ok X G (c.e.fact 45 (f := .glo "raised_error") rfl)
  have b_raised_error := F_raised_error.binds (ps := ["house", "value"]) fun _ _ _ _ _ _ us hl => match us, hl with | [_, _], _ => rfl
  obtain ⟨_, _, _, _, _, _, _, cdv_told_right, _, lk_told_right, cd_told_right⟩ := c.e.def_ 16 (d := fnD "told_right" s_told_right) rfl
  have F_told_right := fun_mk (st := s_told_right) lk_told_right cd_told_right (He.keep_ok (c.e.fact 48 (f := .keep "told_right") rfl))
  have g_told_right : mg "told_right" = some (.ref (He.ga K "told_right")) := He.glo_ok X G (c.e.fact 47 (f := .glo "told_right") rfl)
  have b_told_right := F_told_right.binds (ps := ["house", "ranks", "raised"]) fun _ _ _ _ _ _ us hl => match us, hl with | [_, _, _], _ => rfl
  obtain ⟨_, _, _, _, _, _, _, cdv_raised_to, _, lk_raised_to, cd_raised_to⟩ := c.e.def_ 17 (d := fnD "raised_to" s_raised_to) rfl
  have F_raised_to := fun_mk (st := s_raised_to) lk_raised_to cd_raised_to (He.keep_ok (c.e.fact 50 (f := .keep "raised_to") rfl))
  have g_raised_to : mg "raised_to" = some (.ref (He.ga K "raised_to")) := He.glo_ok X G (c.e.fact 49 (f := .glo "raised_to") rfl)
  have b_raised_to := F_raised_to.binds (ps := ["raised", "things"]) fun _ _ _ _ _ _ us hl => match us, hl with | [_, _], _ => rfl
  obtain ⟨_, _, _, _, _, _, _, cdv_rank_at, _, lk_rank_at, cd_rank_at⟩ := c.e.def_ 18 (d := fnD "rank_at" s_rank_at) rfl
  have F_rank_at := fun_mk (st := s_rank_at) lk_rank_at cd_rank_at (He.keep_ok (c.e.fact 52 (f := .keep "rank_at") rfl))
  have g_rank_at : mg "rank_at" = some (.ref (He.ga K "rank_at")) := He.glo_ok X G (c.e.fact 51 (f := .glo "rank_at") rfl)
  have b_rank_at := F_rank_at.binds (ps := ["house", "ranks", "raised", "hand", "place"]) fun _ _ _ _ _ _ us hl => match us, hl with | [_, _, _, _, _], _ => rfl
  obtain ⟨_, _, _, _, _, _, _, cdv_is_breach_form, _, lk_is_breach_form, cd_is_breach_form⟩ := c.e.def_ 19 (d := fnD "is_breach_form" s_is_breach_form) rfl
  have F_is_breach_form := fun_mk (st := s_is_breach_form) lk_is_breach_form cd_is_breach_form (He.keep_ok (c.e.fact 54 (f := .keep "is_breach_form") rfl))
  have g_is_breach_form : mg "is_breach_form" = some (.ref (He.ga K "is_breach_form")) := He.glo_ok X G (c.e.fact 53 (f := .glo "is_breach_form") rfl)
  have b_is_breach_form := F_is_breach_form.binds (ps := ["house", "value"]) fun _ _ _ _ _ _ us hl => match us, hl with | [_, _], _ => rfl
  obtain ⟨_, _, _, _, _, _, _, cdv_barred_error, _, lk_barred_error, cd_barred_error⟩ := c.e.def_ 20 (d := fnD "barred_error" s_barred_error) rfl
  have F_barred_error := fun_mk (st := s_barred_error) lk_barred_error cd_barred_error (He.keep_ok (c.e.fact 56 (f := .keep "barred_error") rfl))
  have g_barred_error : mg "barred_error" = some (.ref (He.ga K "barred_error")) := He.glo_ok X G (c.e.fact 55 (f := .glo "barred_error") rfl)
  have b_barred_error := F_barred_error.binds (ps := ["house", "ranks", "raised", "value"]) fun _ _ _ _ _ _ us hl => match us, hl with | [_, _, _, _], _ => rfl
  obtain ⟨_, _, _, _, _, _, _, cdv_longest_raised, _, lk_longest_raised, cd_longest_raised⟩ := c.e.def_ 21 (d := fnD "longest_raised" s_longest_raised) rfl
  have F_longest_raised := fun_mk (st := s_longest_raised) lk_longest_raised cd_longest_raised (He.keep_ok (c.e.fact 58 (f := .keep "longest_raised") rfl))
  have g_longest_raised : mg "longest_raised" = some (.ref (He.ga K "longest_raised")) := He.glo_ok X G (c.e.fact 57 (f := .glo "longest_raised") rfl)
  have b_longest_raised := F_longest_raised.binds (ps := ["house", "ranks", "raised", "low", "rank"]) fun _ _ _ _ _ _ us hl => match us, hl with | [_, _, _, _, _], _ => rfl
  obtain ⟨_, _, _, _, _, _, _, cdv_raised_wait, _, lk_raised_wait, cd_raised_wait⟩ := c.e.def_ 22 (d := fnD "raised_wait" s_raised_wait) rfl
  have F_raised_wait := fun_mk (st := s_raised_wait) lk_raised_wait cd_raised_wait (He.keep_ok (c.e.fact 60 (f := .keep "raised_wait") rfl))
  have g_raised_wait : mg "raised_wait" = some (.ref (He.ga K "raised_wait")) := He.glo_ok X G (c.e.fact 59 (f := .glo "raised_wait") rfl)
  have b_raised_wait := F_raised_wait.binds (ps := ["house", "ranks", "raised", "hand"]) fun _ _ _ _ _ _ us hl => match us, hl with | [_, _, _, _], _ => rfl
  obtain ⟨_, _, _, _, _, _, _, cdv_law_deck, _, lk_law_deck, cd_law_deck⟩ := c.e.def_ 23 (d := fnD "_law_deck" s_law_deck) rfl
  have F_law_deck := fun_mk (st := s_law_deck) lk_law_deck cd_law_deck (He.keep_ok (c.e.fact 62 (f := .keep "_law_deck") rfl))
  have g_law_deck : mg "_law_deck" = some (.ref (He.ga K "_law_deck")) := He.glo_ok X G (c.e.fact 61 (f := .glo "_law_deck") rfl)
  have b_law_deck := F_law_deck.binds (ps := ["script"]) fun _ _ _ _ _ _ us hl => match us, hl with | [_], _ => rfl
  obtain ⟨_, _, _, _, _, _, _, cdv_law_draw, _, lk_law_draw, cd_law_draw⟩ := c.e.def_ 24 (d := fnD "_law_draw" s_law_draw) rfl
  have F_law_draw := fun_mk (st := s_law_draw) lk_law_draw cd_law_draw (He.keep_ok (c.e.fact 64 (f := .keep "_law_draw") rfl))
  have g_law_draw : mg "_law_draw" = some (.ref (He.ga K "_law_draw")) := He.glo_ok X G (c.e.fact 63 (f := .glo "_law_draw") rfl)
  have b_law_draw := F_law_draw.binds (ps := ["deck", "many"]) fun _ _ _ _ _ _ us hl => match us, hl with | [_, _], _ => rfl
  obtain ⟨_, _, _, _, _, _, _, cdv_law_pick, _, lk_law_pick, cd_law_pick⟩ := c.e.def_ 25 (d := fnD "_law_pick" s_law_pick) rfl
  have F_law_pick := fun_mk (st := s_law_pick) lk_law_pick cd_law_pick (He.keep_ok (c.e.fact 66 (f := .keep "_law_pick") rfl))
  have g_law_pick : mg "_law_pick" = some (.ref (He.ga K "_law_pick")) := He.glo_ok X G (c.e.fact 65 (f := .glo "_law_pick") rfl)
  have b_law_pick := F_law_pick.binds (ps := ["deck", "row"]) fun _ _ _ _ _ _ us hl => match us, hl with | [_, _], _ => rfl
  obtain ⟨_, _, _, _, _, _, _, cdv_law_any, _, lk_law_any, cd_law_any⟩ := c.e.def_ 26 (d := fnD "_law_any" s_law_any) rfl
  have F_law_any := fun_mk (st := s_law_any) lk_law_any cd_law_any (He.keep_ok (c.e.fact 68 (f := .keep "_law_any") rfl))
  have g_law_any : mg "_law_any" = some (.ref (He.ga K "_law_any")) := He.glo_ok X G (c.e.fact 67 (f := .glo "_law_any") rfl)
  have b_law_any := F_law_any.binds (ps := ["deck", "deep"]) fun _ _ _ _ _ _ us hl => match us, hl with | [_, _], _ => rfl
  obtain ⟨_, _, _, _, _, _, _, cdv_law_way, _, lk_law_way, cd_law_way⟩ := c.e.def_ 27 (d := fnD "_law_way" s_law_way) rfl
  have F_law_way := fun_mk (st := s_law_way) lk_law_way cd_law_way (He.keep_ok (c.e.fact 70 (f := .keep "_law_way") rfl))
  have g_law_way : mg "_law_way" = some (.ref (He.ga K "_law_way")) := He.glo_ok X G (c.e.fact 69 (f := .glo "_law_way") rfl)
  have b_law_way := F_law_way.binds (ps := ["deck", "modes", "most", "is_trying"]) fun _ _ _ _ _ _ us hl => match us, hl with | [_, _, _, _], _ => rfl
  obtain ⟨_, _, _, _, _, _, _, cdv_law_beyond, _, lk_law_beyond, cd_law_beyond⟩ := c.e.def_ 28 (d := fnD "_law_beyond" s_law_beyond) rfl
  have F_law_beyond := fun_mk (st := s_law_beyond) lk_law_beyond cd_law_beyond (He.keep_ok (c.e.fact 72 (f := .keep "_law_beyond") rfl))
  have g_law_beyond : mg "_law_beyond" = some (.ref (He.ga K "_law_beyond")) := He.glo_ok X G (c.e.fact 71 (f := .glo "_law_beyond") rfl)
  have b_law_beyond := F_law_beyond.binds (ps := ["way", "place"]) fun _ _ _ _ _ _ us hl => match us, hl with | [_, _], _ => rfl
  obtain ⟨_, _, _, _, _, _, _, cdv_law_plan, _, lk_law_plan, cd_law_plan⟩ := c.e.def_ 29 (d := fnD "_law_plan" s_law_plan) rfl
  have F_law_plan := fun_mk (st := s_law_plan) lk_law_plan cd_law_plan (He.keep_ok (c.e.fact 74 (f := .keep "_law_plan") rfl))
  have g_law_plan : mg "_law_plan" = some (.ref (He.ga K "_law_plan")) := He.glo_ok X G (c.e.fact 73 (f := .glo "_law_plan") rfl)
  have b_law_plan := F_law_plan.binds (ps := ["house"]) fun _ _ _ _ _ _ us hl => match us, hl with | [_], _ => rfl
  obtain ⟨_, _, _, _, _, _, _, cdv_law_meets, _, lk_law_meets, cd_law_meets⟩ := c.e.def_ 30 (d := fnD "_law_meets" s_law_meets) rfl
  have F_law_meets := fun_mk (st := s_law_meets) lk_law_meets cd_law_meets (He.keep_ok (c.e.fact 76 (f := .keep "_law_meets") rfl))
  have g_law_meets : mg "_law_meets" = some (.ref (He.ga K "_law_meets")) := He.glo_ok X G (c.e.fact 75 (f := .glo "_law_meets") rfl)
  have b_law_meets := F_law_meets.binds (ps := ["house", "thing", "held_v"]) fun _ _ _ _ _ _ us hl => match us, hl with | [_, _, _], _ => rfl
  obtain ⟨_, _, _, _, _, _, _, cdv_law_calm, _, lk_law_calm, cd_law_calm⟩ := c.e.def_ 31 (d := fnD "_law_calm" s_law_calm) rfl
  have F_law_calm := fun_mk (st := s_law_calm) lk_law_calm cd_law_calm (He.keep_ok (c.e.fact 78 (f := .keep "_law_calm") rfl))
  have g_law_calm : mg "_law_calm" = some (.ref (He.ga K "_law_calm")) := He.glo_ok X G (c.e.fact 77 (f := .glo "_law_calm") rfl)
  have b_law_calm := F_law_calm.binds (ps := ["deck", "hands", "rooms", "most"]) fun _ _ _ _ _ _ us hl => match us, hl with | [_, _, _, _], _ => rfl
  obtain ⟨_, _, _, _, _, _, _, cdv_law_ranked, _, lk_law_ranked, cd_law_ranked⟩ := c.e.def_ 32 (d := fnD "_law_ranked" s_law_ranked) rfl
  have F_law_ranked := fun_mk (st := s_law_ranked) lk_law_ranked cd_law_ranked (He.keep_ok (c.e.fact 80 (f := .keep "_law_ranked") rfl))
  have g_law_ranked : mg "_law_ranked" = some (.ref (He.ga K "_law_ranked")) := He.glo_ok X G (c.e.fact 79 (f := .glo "_law_ranked") rfl)
  have b_law_ranked := F_law_ranked.binds (ps := ["deck", "hands"]) fun _ _ _ _ _ _ us hl => match us, hl with | [_, _], _ => rfl
  obtain ⟨_, _, _, _, _, _, _, cdv_law_no_calm, _, lk_law_no_calm, cd_law_no_calm⟩ := c.e.def_ 33 (d := fnD "_law_no_calm" s_law_no_calm) rfl
  have F_law_no_calm := fun_mk (st := s_law_no_calm) lk_law_no_calm cd_law_no_calm (He.keep_ok (c.e.fact 82 (f := .keep "_law_no_calm") rfl))
  have g_law_no_calm : mg "_law_no_calm" = some (.ref (He.ga K "_law_no_calm")) := He.glo_ok X G (c.e.fact 81 (f := .glo "_law_no_calm") rfl)
  have b_law_no_calm := F_law_no_calm.binds (ps := ["deck", "house"]) fun _ _ _ _ _ _ us hl => match us, hl with | [_, _], _ => rfl
  obtain ⟨_, _, _, _, _, _, _, cdv_law_told_by, _, lk_law_told_by, cd_law_told_by⟩ := c.e.def_ 34 (d := fnD "_law_told_by" s_law_told_by) rfl
  have F_law_told_by := fun_mk (st := s_law_told_by) lk_law_told_by cd_law_told_by (He.keep_ok (c.e.fact 84 (f := .keep "_law_told_by") rfl))
  have g_law_told_by : mg "_law_told_by" = some (.ref (He.ga K "_law_told_by")) := He.glo_ok X G (c.e.fact 83 (f := .glo "_law_told_by") rfl)
  have b_law_told_by := F_law_told_by.binds (ps := ["raised", "thing"]) fun _ _ _ _ _ _ us hl => match us, hl with | [_, _], _ => rfl
  obtain ⟨_, _, _, _, _, _, _, cdv_law_rank_at, _, lk_law_rank_at, cd_law_rank_at⟩ := c.e.def_ 35 (d := fnD "_law_rank_at" s_law_rank_at) rfl
  have F_law_rank_at := fun_mk (st := s_law_rank_at) lk_law_rank_at cd_law_rank_at (He.keep_ok (c.e.fact 86 (f := .keep "_law_rank_at") rfl))
  have g_law_rank_at : mg "_law_rank_at" = some (.ref (He.ga K "_law_rank_at")) := He.glo_ok X G (c.e.fact 85 (f := .glo "_law_rank_at") rfl)
  have b_law_rank_at := F_law_rank_at.binds (ps := ["plan", "ranks", "raised", "hand", "place"]) fun _ _ _ _ _ _ us hl => match us, hl with | [_, _, _, _, _], _ => rfl
  obtain ⟨_, _, _, _, _, _, _, cdv_law_entry, _, lk_law_entry, cd_law_entry⟩ := c.e.def_ 36 (d := fnD "_law_entry" s_law_entry) rfl
  have F_law_entry := fun_mk (st := s_law_entry) lk_law_entry cd_law_entry (He.keep_ok (c.e.fact 88 (f := .keep "_law_entry") rfl))
  have g_law_entry : mg "_law_entry" = some (.ref (He.ga K "_law_entry")) := He.glo_ok X G (c.e.fact 87 (f := .glo "_law_entry") rfl)
  have b_law_entry := F_law_entry.binds (ps := ["house", "plan", "high", "things"]) fun _ _ _ _ _ _ us hl => match us, hl with | [_, _, _, _], _ => rfl
  obtain ⟨_, _, _, _, _, _, _, cdv_law_breaches, _, lk_law_breaches, cd_law_breaches⟩ := c.e.def_ 37 (d := fnD "_law_breaches" s_law_breaches) rfl
  have F_law_breaches := fun_mk (st := s_law_breaches) lk_law_breaches cd_law_breaches (He.keep_ok (c.e.fact 90 (f := .keep "_law_breaches") rfl))
  have g_law_breaches : mg "_law_breaches" = some (.ref (He.ga K "_law_breaches")) := He.glo_ok X G (c.e.fact 89 (f := .glo "_law_breaches") rfl)
  have b_law_breaches := F_law_breaches.binds (ps := ["house", "plan", "ranks", "raised"]) fun _ _ _ _ _ _ us hl => match us, hl with | [_, _, _, _], _ => rfl
  obtain ⟨_, _, _, _, _, _, _, cdv_law_ceilings, _, lk_law_ceilings, cd_law_ceilings⟩ := c.e.def_ 38 (d := fnD "_law_ceilings" s_law_ceilings) rfl
  have F_law_ceilings := fun_mk (st := s_law_ceilings) lk_law_ceilings cd_law_ceilings (He.keep_ok (c.e.fact 92 (f := .keep "_law_ceilings") rfl))
  have g_law_ceilings : mg "_law_ceilings" = some (.ref (He.ga K "_law_ceilings")) := He.glo_ok X G (c.e.fact 91 (f := .glo "_law_ceilings") rfl)
  have b_law_ceilings := F_law_ceilings.binds (ps := ["house", "plan", "ranks"]) fun _ _ _ _ _ _ us hl => match us, hl with | [_, _, _], _ => rfl
  obtain ⟨_, _, _, _, _, _, _, cdv_law_drawn_raised, _, lk_law_drawn_raised, cd_law_drawn_raised⟩ := c.e.def_ 39 (d := fnD "_law_drawn_raised" s_law_drawn_raised) rfl
  have F_law_drawn_raised := fun_mk (st := s_law_drawn_raised) lk_law_drawn_raised cd_law_drawn_raised (He.keep_ok (c.e.fact 94 (f := .keep "_law_drawn_raised") rfl))
  have g_law_drawn_raised : mg "_law_drawn_raised" = some (.ref (He.ga K "_law_drawn_raised")) := He.glo_ok X G (c.e.fact 93 (f := .glo "_law_drawn_raised") rfl)
  have b_law_drawn_raised := F_law_drawn_raised.binds (ps := ["deck", "house", "plan", "ranks"]) fun _ _ _ _ _ _ us hl => match us, hl with | [_, _, _, _], _ => rfl
  obtain ⟨_, _, _, _, _, _, _, cdv_law_is_whole, _, lk_law_is_whole, cd_law_is_whole⟩ := c.e.def_ 40 (d := fnD "_law_is_whole" s_law_is_whole) rfl
  have F_law_is_whole := fun_mk (st := s_law_is_whole) lk_law_is_whole cd_law_is_whole (He.keep_ok (c.e.fact 96 (f := .keep "_law_is_whole") rfl))
  have g_law_is_whole : mg "_law_is_whole" = some (.ref (He.ga K "_law_is_whole")) := He.glo_ok X G (c.e.fact 95 (f := .glo "_law_is_whole") rfl)
  have b_law_is_whole := F_law_is_whole.binds (ps := ["value", "many"]) fun _ _ _ _ _ _ us hl => match us, hl with | [_, _], _ => rfl
  obtain ⟨_, _, _, _, _, _, _, cdv_law_is_raised, _, lk_law_is_raised, cd_law_is_raised⟩ := c.e.def_ 41 (d := fnD "_law_is_raised" s_law_is_raised) rfl
  have F_law_is_raised := fun_mk (st := s_law_is_raised) lk_law_is_raised cd_law_is_raised (He.keep_ok (c.e.fact 98 (f := .keep "_law_is_raised") rfl))
  have g_law_is_raised : mg "_law_is_raised" = some (.ref (He.ga K "_law_is_raised")) := He.glo_ok X G (c.e.fact 97 (f := .glo "_law_is_raised") rfl)
  have b_law_is_raised := F_law_is_raised.binds (ps := ["house", "value"]) fun _ _ _ _ _ _ us hl => match us, hl with | [_, _], _ => rfl
  obtain ⟨_, _, _, _, _, _, _, cdv_law_error, _, lk_law_error, cd_law_error⟩ := c.e.def_ 42 (d := fnD "_law_error" s_law_error) rfl
  have F_law_error := fun_mk (st := s_law_error) lk_law_error cd_law_error (He.keep_ok (c.e.fact 100 (f := .keep "_law_error") rfl))
  have g_law_error : mg "_law_error" = some (.ref (He.ga K "_law_error")) := He.glo_ok X G (c.e.fact 99 (f := .glo "_law_error") rfl)
  have b_law_error := F_law_error.binds (ps := ["house", "plan", "ranks", "raised", "value"]) fun _ _ _ _ _ _ us hl => match us, hl with | [_, _, _, _, _], _ => rfl
  obtain ⟨_, _, _, _, _, _, _, cdv_law_longest, _, lk_law_longest, cd_law_longest⟩ := c.e.def_ 43 (d := fnD "_law_longest" s_law_longest) rfl
  have F_law_longest := fun_mk (st := s_law_longest) lk_law_longest cd_law_longest (He.keep_ok (c.e.fact 102 (f := .keep "_law_longest") rfl))
  have g_law_longest : mg "_law_longest" = some (.ref (He.ga K "_law_longest")) := He.glo_ok X G (c.e.fact 101 (f := .glo "_law_longest") rfl)
  have b_law_longest := F_law_longest.binds (ps := ["plan", "ranks", "raised", "hand"]) fun _ _ _ _ _ _ us hl => match us, hl with | [_, _, _, _], _ => rfl
  obtain ⟨_, _, _, _, _, _, _, cdv_law_odd_raised, _, lk_law_odd_raised, cd_law_odd_raised⟩ := c.e.def_ 44 (d := fnD "_law_odd_raised" s_law_odd_raised) rfl
  have F_law_odd_raised := fun_mk (st := s_law_odd_raised) lk_law_odd_raised cd_law_odd_raised (He.keep_ok (c.e.fact 104 (f := .keep "_law_odd_raised") rfl))
  have g_law_odd_raised : mg "_law_odd_raised" = some (.ref (He.ga K "_law_odd_raised")) := He.glo_ok X G (c.e.fact 103 (f := .glo "_law_odd_raised") rfl)
  have b_law_odd_raised := F_law_odd_raised.binds (ps := ["deck", "raised"]) fun _ _ _ _ _ _ us hl => match us, hl with | [_, _], _ => rfl
  obtain ⟨_, _, _, _, _, _, _, cdv_law_near, _, lk_law_near, cd_law_near⟩ := c.e.def_ 45 (d := fnD "_law_near" s_law_near) rfl
  have F_law_near := fun_mk (st := s_law_near) lk_law_near cd_law_near (He.keep_ok (c.e.fact 106 (f := .keep "_law_near") rfl))
  have g_law_near : mg "_law_near" = some (.ref (He.ga K "_law_near")) := He.glo_ok X G (c.e.fact 105 (f := .glo "_law_near") rfl)
  have b_law_near := F_law_near.binds (ps := ["deck", "breach"]) fun _ _ _ _ _ _ us hl => match us, hl with | [_, _], _ => rfl
  obtain ⟨_, _, _, _, _, _, _, cdv_law_is_refused, _, lk_law_is_refused, cd_law_is_refused⟩ := c.e.def_ 46 (d := fnD "_law_is_refused" s_law_is_refused) rfl
  have F_law_is_refused := fun_mk (st := s_law_is_refused) lk_law_is_refused cd_law_is_refused (He.keep_ok (c.e.fact 108 (f := .keep "_law_is_refused") rfl))
  have g_law_is_refused : mg "_law_is_refused" = some (.ref (He.ga K "_law_is_refused")) := He.glo_ok X G (c.e.fact 107 (f := .glo "_law_is_refused") rfl)
  have b_law_is_refused := F_law_is_refused.binds (ps := ["house", "ranks", "raised", "way", "hand"]) fun _ _ _ _ _ _ us hl => match us, hl with | [_, _, _, _, _], _ => rfl
  obtain ⟨_, _, _, kVl, dcl, pml, anl, cdv_law, ctl, lk_law, cd_law⟩ := c.e.def_ 47 (d := fnD "law" s_law) rfl
  have F_law := fun_mk (st := s_law) lk_law cd_law (He.keep_ok (c.e.fact 110 (f := .keep "law") rfl))
  have g_law : mg "law" = some (.ref (He.ga K "law")) := He.glo_ok X G (c.e.fact 109 (f := .glo "law") rfl)
  have e := hfa.symm.trans g_law
  cases e
  refine ⟨PySem.W.fnOf "law" "law" (defArgs s_law) (defBody s_law) (defScope s_law) .none kVl dcl pml anl cdv_law ctl, clG K, fun s v => .of_eq rfl, fun base B1 B2 => ?_⟩
  have O_is_integer := ok_is_integer (P := P) (w := w) (base := base) T F_is_integer
  have H_is_integer : Has P w K mg base (clG K) "is_integer" 1 d_is_integer := ⟨⟨He.ga K "is_integer", _, ["value"], O_is_integer, g_is_integer, F_is_integer.kp, b_is_integer⟩⟩
  have O_is_within := ok_is_within (P := P) (w := w) (base := base) T F_is_within H_is_integer
  have H_is_within : Has P w K mg base (clG K) "is_within" 2 d_is_within := ⟨⟨He.ga K "is_within", _, ["value", "low", "high"], O_is_within, g_is_within, F_is_within.kp, b_is_within⟩⟩
  have O_held := ok_held (P := P) (w := w) (base := base) T F_held
  have H_held : Has P w K mg base (clG K) "held" 1 d_held := ⟨⟨He.ga K "held", _, ["way", "place"], O_held, g_held, F_held.kp, b_held⟩⟩
  have O_wish := ok_wish (P := P) (w := w) (base := base) T F_wish
  have H_wish : Has P w K mg base (clG K) "wish" 1 d_wish := ⟨⟨He.ga K "wish", _, ["way", "place"], O_wish, g_wish, F_wish.kp, b_wish⟩⟩
  have O_entries := ok_entries (P := P) (w := w) (base := base) T F_entries
  have H_entries : Has P w K mg base (clG K) "entries" 1 d_entries := ⟨⟨He.ga K "entries", _, ["way"], O_entries, g_entries, F_entries.kp, b_entries⟩⟩
  have O_is_door := ok_is_door (P := P) (w := w) (base := base) T F_is_door
  have H_is_door : Has P w K mg base (clG K) "is_door" 1 d_is_door := ⟨⟨He.ga K "is_door", _, ["house", "room"], O_is_door, g_is_door, F_is_door.kp, b_is_door⟩⟩
  have O_clash := ok_clash (P := P) (w := w) (base := base) T F_clash H_is_door
  have H_clash : Has P w K mg base (clG K) "clash" 2 d_clash := ⟨⟨He.ga K "clash", _, ["house", "one", "other"], O_clash, g_clash, F_clash.kp, b_clash⟩⟩
  have O_is_calm := ok_is_calm (P := P) (w := w) (base := base) T F_is_calm
  have H_is_calm : Has P w K mg base (clG K) "is_calm" 1 d_is_calm := ⟨⟨He.ga K "is_calm", _, ["house"], O_is_calm, g_is_calm, F_is_calm.kp, b_is_calm⟩⟩
  have O_calm := ok_calm (P := P) (w := w) (base := base) T F_calm H_is_calm
  have H_calm : Has P w K mg base (clG K) "calm" 2 d_calm := ⟨⟨He.ga K "calm", _, ["house"], O_calm, g_calm, F_calm.kp, b_calm⟩⟩
  have O_ranks_error := ok_ranks_error (P := P) (w := w) (base := base) T F_ranks_error H_calm H_is_integer
  have H_ranks_error : Has P w K mg base (clG K) "ranks_error" 3 d_ranks_error := ⟨⟨He.ga K "ranks_error", _, ["house", "value"], O_ranks_error, g_ranks_error, F_ranks_error.kp, b_ranks_error⟩⟩
  have O_ranked := ok_ranked (P := P) (w := w) (base := base) T F_ranked H_ranks_error
  have H_ranked : Has P w K mg base (clG K) "ranked" 4 d_ranked := ⟨⟨He.ga K "ranked", _, ["house", "ranks"], O_ranked, g_ranked, F_ranked.kp, b_ranked⟩⟩
  have O_handed_right := ok_handed_right (P := P) (w := w) (base := base) T F_handed_right H_is_within
  have H_handed_right : Has P w K mg base (clG K) "handed_right" 3 d_handed_right := ⟨⟨He.ga K "handed_right", _, ["house", "hand"], O_handed_right, g_handed_right, F_handed_right.kp, b_handed_right⟩⟩
  have O_does_clash := ok_does_clash (P := P) (w := w) (base := base) T F_does_clash H_clash
  have H_does_clash : Has P w K mg base (clG K) "does_clash" 3 d_does_clash := ⟨⟨He.ga K "does_clash", _, ["house", "thing", "things"], O_does_clash, g_does_clash, F_does_clash.kp, b_does_clash⟩⟩
  have O_barring_place := ok_barring_place (P := P) (w := w) (base := base) T F_barring_place H_does_clash H_entries H_wish
  have H_barring_place : Has P w K mg base (clG K) "barring_place" 4 d_barring_place := ⟨⟨He.ga K "barring_place", _, ["house", "hand", "things"], O_barring_place, g_barring_place, F_barring_place.kp, b_barring_place⟩⟩
  have O_raised_form := ok_raised_form (P := P) (w := w) (base := base) T F_raised_form H_is_integer
  have H_raised_form : Has P w K mg base (clG K) "raised_form" 2 d_raised_form := ⟨⟨He.ga K "raised_form", _, ["house", "value"], O_raised_form, g_raised_form, F_raised_form.kp, b_raised_form⟩⟩
  have O_raised_error := ok_raised_error (P := P) (w := w) (base := base) T F_raised_error H_calm H_raised_form
  have H_raised_error : Has P w K mg base (clG K) "raised_error" 3 d_raised_error := ⟨⟨He.ga K "raised_error", _, ["house", "value"], O_raised_error, g_raised_error, F_raised_error.kp, b_raised_error⟩⟩
  have HK_raised_error : HasK P w K mg base (clG K) "raised_error" 3 ["value", "house"] [1, 0] d_raised_error := ⟨⟨He.ga K "raised_error", _, ["house", "value"], O_raised_error, g_raised_error, F_raised_error.kp, fun s ws _ hl => match ws, hl with | [_, _], _ => .of_eq rfl⟩⟩
  have O_told_right := ok_told_right (P := P) (w := w) (base := base) T F_told_right H_raised_form H_ranked
  have H_told_right : Has P w K mg base (clG K) "told_right" 5 d_told_right := ⟨⟨He.ga K "told_right", _, ["house", "ranks", "raised"], O_told_right, g_told_right, F_told_right.kp, b_told_right⟩⟩
  have O_raised_to := ok_raised_to (P := P) (w := w) (base := base) T F_raised_to
  have H_raised_to : Has P w K mg base (clG K) "raised_to" 1 d_raised_to := ⟨⟨He.ga K "raised_to", _, ["raised", "things"], O_raised_to, g_raised_to, F_raised_to.kp, b_raised_to⟩⟩
  have O_rank_at := ok_rank_at (P := P) (w := w) (base := base) T F_rank_at H_held H_raised_to
  have H_rank_at : Has P w K mg base (clG K) "rank_at" 2 d_rank_at := ⟨⟨He.ga K "rank_at", _, ["house", "ranks", "raised", "hand", "place"], O_rank_at, g_rank_at, F_rank_at.kp, b_rank_at⟩⟩
  have O_is_breach_form := ok_is_breach_form (P := P) (w := w) (base := base) T F_is_breach_form H_is_within
  have H_is_breach_form : Has P w K mg base (clG K) "is_breach_form" 3 d_is_breach_form := ⟨⟨He.ga K "is_breach_form", _, ["house", "value"], O_is_breach_form, g_is_breach_form, F_is_breach_form.kp, b_is_breach_form⟩⟩
  have O_barred_error := ok_barred_error (P := P) (w := w) (base := base) T F_barred_error H_barring_place H_held H_is_breach_form H_rank_at H_told_right
  have H_barred_error : Has P w K mg base (clG K) "barred_error" 6 d_barred_error := ⟨⟨He.ga K "barred_error", _, ["house", "ranks", "raised", "value"], O_barred_error, g_barred_error, F_barred_error.kp, b_barred_error⟩⟩
  have HK_barred_error : HasK P w K mg base (clG K) "barred_error" 6 ["value", "raised", "ranks", "house"] [3, 2, 1, 0] d_barred_error := ⟨⟨He.ga K "barred_error", _, ["house", "ranks", "raised", "value"], O_barred_error, g_barred_error, F_barred_error.kp, fun s ws _ hl => match ws, hl with | [_, _, _, _], _ => .of_eq rfl⟩⟩
  have O_longest_raised := ok_longest_raised (P := P) (w := w) (base := base) T F_longest_raised H_rank_at
  have H_longest_raised : Has P w K mg base (clG K) "longest_raised" 3 d_longest_raised := ⟨⟨He.ga K "longest_raised", _, ["house", "ranks", "raised", "low", "rank"], O_longest_raised, g_longest_raised, F_longest_raised.kp, b_longest_raised⟩⟩
  have O_raised_wait := ok_raised_wait (P := P) (w := w) (base := base) T F_raised_wait H_handed_right H_longest_raised H_told_right
  have H_raised_wait : Has P w K mg base (clG K) "raised_wait" 6 d_raised_wait := ⟨⟨He.ga K "raised_wait", _, ["house", "ranks", "raised", "hand"], O_raised_wait, g_raised_wait, F_raised_wait.kp, b_raised_wait⟩⟩
  have HK_raised_wait : HasK P w K mg base (clG K) "raised_wait" 6 ["hand", "raised", "ranks", "house"] [3, 2, 1, 0] d_raised_wait := ⟨⟨He.ga K "raised_wait", _, ["house", "ranks", "raised", "hand"], O_raised_wait, g_raised_wait, F_raised_wait.kp, fun s ws _ hl => match ws, hl with | [_, _, _, _], _ => .of_eq rfl⟩⟩
  have O_law_deck := ok_law_deck (P := P) (w := w) (base := base) T F_law_deck
  have H_law_deck : Has P w K mg base (clG K) "_law_deck" 1 d_law_deck := ⟨⟨He.ga K "_law_deck", _, ["script"], O_law_deck, g_law_deck, F_law_deck.kp, b_law_deck⟩⟩
  have O_law_draw := ok_law_draw (P := P) (w := w) (base := base) T F_law_draw
  have H_law_draw : Has P w K mg base (clG K) "_law_draw" 1 d_law_draw := ⟨⟨He.ga K "_law_draw", _, ["deck", "many"], O_law_draw, g_law_draw, F_law_draw.kp, b_law_draw⟩⟩
  have O_law_pick := ok_law_pick (P := P) (w := w) (base := base) T F_law_pick H_law_draw
  have H_law_pick : Has P w K mg base (clG K) "_law_pick" 2 d_law_pick := ⟨⟨He.ga K "_law_pick", _, ["deck", "row"], O_law_pick, g_law_pick, F_law_pick.kp, b_law_pick⟩⟩
  have H_law_any : Has P w K mg base (clG K) "_law_any" 8 (d_law_any 5) := ⟨⟨He.ga K "_law_any", _, ["deck", "deep"], ok_law_any T F_law_any g_law_any b_law_any H_law_draw H_law_pick 5 (Nat.le_refl _), g_law_any, F_law_any.kp, b_law_any⟩⟩
  have O_law_way := ok_law_way (P := P) (w := w) (base := base) T F_law_way H_law_draw H_law_pick
  have H_law_way : Has P w K mg base (clG K) "_law_way" 3 d_law_way := ⟨⟨He.ga K "_law_way", _, ["deck", "modes", "most", "is_trying"], O_law_way, g_law_way, F_law_way.kp, b_law_way⟩⟩
  have O_law_beyond := ok_law_beyond (P := P) (w := w) (base := base) T F_law_beyond
  have H_law_beyond : Has P w K mg base (clG K) "_law_beyond" 1 d_law_beyond := ⟨⟨He.ga K "_law_beyond", _, ["way", "place"], O_law_beyond, g_law_beyond, F_law_beyond.kp, b_law_beyond⟩⟩
  have O_law_plan := ok_law_plan (P := P) (w := w) (base := base) T F_law_plan H_law_beyond
  have H_law_plan : Has P w K mg base (clG K) "_law_plan" 2 d_law_plan := ⟨⟨He.ga K "_law_plan", _, ["house"], O_law_plan, g_law_plan, F_law_plan.kp, b_law_plan⟩⟩
  have O_law_meets := ok_law_meets (P := P) (w := w) (base := base) T F_law_meets
  have H_law_meets : Has P w K mg base (clG K) "_law_meets" 1 d_law_meets := ⟨⟨He.ga K "_law_meets", _, ["house", "thing", "held_v"], O_law_meets, g_law_meets, F_law_meets.kp, b_law_meets⟩⟩
  have O_law_calm := ok_law_calm (P := P) (w := w) (base := base) T F_law_calm H_law_pick H_law_way
  have H_law_calm : Has P w K mg base (clG K) "_law_calm" 4 d_law_calm := ⟨⟨He.ga K "_law_calm", _, ["deck", "hands", "rooms", "most"], O_law_calm, g_law_calm, F_law_calm.kp, b_law_calm⟩⟩
  have O_law_ranked := ok_law_ranked (P := P) (w := w) (base := base) T F_law_ranked H_law_draw
  have H_law_ranked : Has P w K mg base (clG K) "_law_ranked" 2 d_law_ranked := ⟨⟨He.ga K "_law_ranked", _, ["deck", "hands"], O_law_ranked, g_law_ranked, F_law_ranked.kp, b_law_ranked⟩⟩
  have O_law_no_calm := ok_law_no_calm (P := P) (w := w) (base := base) T F_law_no_calm H_law_draw
  have H_law_no_calm : Has P w K mg base (clG K) "_law_no_calm" 2 d_law_no_calm := ⟨⟨He.ga K "_law_no_calm", _, ["deck", "house"], O_law_no_calm, g_law_no_calm, F_law_no_calm.kp, b_law_no_calm⟩⟩
  have O_law_told_by := ok_law_told_by (P := P) (w := w) (base := base) T F_law_told_by
  have H_law_told_by : Has P w K mg base (clG K) "_law_told_by" 1 d_law_told_by := ⟨⟨He.ga K "_law_told_by", _, ["raised", "thing"], O_law_told_by, g_law_told_by, F_law_told_by.kp, b_law_told_by⟩⟩
  have O_law_rank_at := ok_law_rank_at (P := P) (w := w) (base := base) T F_law_rank_at H_law_told_by
  have H_law_rank_at : Has P w K mg base (clG K) "_law_rank_at" 2 d_law_rank_at := ⟨⟨He.ga K "_law_rank_at", _, ["plan", "ranks", "raised", "hand", "place"], O_law_rank_at, g_law_rank_at, F_law_rank_at.kp, b_law_rank_at⟩⟩
  have O_law_entry := ok_law_entry (P := P) (w := w) (base := base) T F_law_entry H_law_meets
  have H_law_entry : Has P w K mg base (clG K) "_law_entry" 2 d_law_entry := ⟨⟨He.ga K "_law_entry", _, ["house", "plan", "high", "things"], O_law_entry, g_law_entry, F_law_entry.kp, b_law_entry⟩⟩
  have O_law_breaches := ok_law_breaches (P := P) (w := w) (base := base) T F_law_breaches H_law_entry H_law_rank_at
  have H_law_breaches : Has P w K mg base (clG K) "_law_breaches" 3 d_law_breaches := ⟨⟨He.ga K "_law_breaches", _, ["house", "plan", "ranks", "raised"], O_law_breaches, g_law_breaches, F_law_breaches.kp, b_law_breaches⟩⟩
  have O_law_ceilings := ok_law_ceilings (P := P) (w := w) (base := base) T F_law_ceilings H_law_entry
  have H_law_ceilings : Has P w K mg base (clG K) "_law_ceilings" 3 d_law_ceilings := ⟨⟨He.ga K "_law_ceilings", _, ["house", "plan", "ranks"], O_law_ceilings, g_law_ceilings, F_law_ceilings.kp, b_law_ceilings⟩⟩
  have O_law_drawn_raised := ok_law_drawn_raised (P := P) (w := w) (base := base) T F_law_drawn_raised H_law_ceilings H_law_draw H_law_pick
  have H_law_drawn_raised : Has P w K mg base (clG K) "_law_drawn_raised" 4 d_law_drawn_raised := ⟨⟨He.ga K "_law_drawn_raised", _, ["deck", "house", "plan", "ranks"], O_law_drawn_raised, g_law_drawn_raised, F_law_drawn_raised.kp, b_law_drawn_raised⟩⟩
  have O_law_is_whole := ok_law_is_whole (P := P) (w := w) (base := base) T F_law_is_whole
  have H_law_is_whole : Has P w K mg base (clG K) "_law_is_whole" 1 d_law_is_whole := ⟨⟨He.ga K "_law_is_whole", _, ["value", "many"], O_law_is_whole, g_law_is_whole, F_law_is_whole.kp, b_law_is_whole⟩⟩
  have O_law_is_raised := ok_law_is_raised (P := P) (w := w) (base := base) T F_law_is_raised
  have H_law_is_raised : Has P w K mg base (clG K) "_law_is_raised" 1 d_law_is_raised := ⟨⟨He.ga K "_law_is_raised", _, ["house", "value"], O_law_is_raised, g_law_is_raised, F_law_is_raised.kp, b_law_is_raised⟩⟩
  have O_law_error := ok_law_error (P := P) (w := w) (base := base) T F_law_error H_law_entry H_law_is_whole H_law_rank_at
  have H_law_error : Has P w K mg base (clG K) "_law_error" 3 d_law_error := ⟨⟨He.ga K "_law_error", _, ["house", "plan", "ranks", "raised", "value"], O_law_error, g_law_error, F_law_error.kp, b_law_error⟩⟩
  have O_law_longest := ok_law_longest (P := P) (w := w) (base := base) T F_law_longest H_law_rank_at
  have H_law_longest : Has P w K mg base (clG K) "_law_longest" 3 d_law_longest := ⟨⟨He.ga K "_law_longest", _, ["plan", "ranks", "raised", "hand"], O_law_longest, g_law_longest, F_law_longest.kp, b_law_longest⟩⟩
  have O_law_odd_raised := ok_law_odd_raised (P := P) (w := w) (base := base) T F_law_odd_raised H_law_draw H_law_pick
  have H_law_odd_raised : Has P w K mg base (clG K) "_law_odd_raised" 3 d_law_odd_raised := ⟨⟨He.ga K "_law_odd_raised", _, ["deck", "raised"], O_law_odd_raised, g_law_odd_raised, F_law_odd_raised.kp, b_law_odd_raised⟩⟩
  have O_law_near := ok_law_near (P := P) (w := w) (base := base) T F_law_near H_law_draw H_law_pick
  have H_law_near : Has P w K mg base (clG K) "_law_near" 3 d_law_near := ⟨⟨He.ga K "_law_near", _, ["deck", "breach"], O_law_near, g_law_near, F_law_near.kp, b_law_near⟩⟩
  have O_law_is_refused := ok_law_is_refused (P := P) (w := w) (base := base) T F_law_is_refused H_barred_error H_raised_error H_raised_wait
  have H_law_is_refused : Has P w K mg base (clG K) "_law_is_refused" 7 d_law_is_refused := ⟨⟨He.ga K "_law_is_refused", _, ["house", "ranks", "raised", "way", "hand"], O_law_is_refused, g_law_is_refused, F_law_is_refused.kp, b_law_is_refused⟩⟩
  exact ok_law T F_law H_law_any H_law_breaches H_law_calm H_law_deck H_law_draw H_law_drawn_raised H_law_entry H_law_error H_law_is_raised H_law_is_refused H_law_longest H_law_near H_law_no_calm H_law_odd_raised H_law_pick H_law_plan H_law_ranked H_barred_error H_raised_error H_raised_wait HK_raised_error HK_barred_error HK_raised_wait
end Dn
set_option Elab.async false
set_option linter.all false
set_option maxRecDepth 100000
set_option maxHeartbeats 1000000
/-! Lk0: plain readings of the denotations: results that end well. -/
noncomputable section
namespace Dn
open PySem L2

def Ok {α : Type} (r : Res α) (P : α → Sto → Prop) : Prop := match r with
  | .ok a S => P a S
  | _ => False
section
variable {α β : Type} {r : Res α} {P Q : α → Sto → Prop}
@[simp] theorem Ok_ok {a : α} {S : Sto} : Ok (.ok a S) P = P a S := rfl
@[simp] theorem Ok_bad : Ok (.bad : Res α) P = False := rfl
@[simp] theorem Ok_exc {c : Str} {S : Sto} : Ok (.exc c S : Res α) P = False := rfl
@[simp] theorem Ok_bnd {f : α → Sto → Res β} {P : β → Sto → Prop} : Ok (r.bnd f) P = Ok r fun a S => Ok (f a S) P := by cases r <;> rfl
theorem Ok.imp (h : Ok r P) (i : ∀ a S, P a S → Q a S) : Ok r Q := by
  cases r with
  | ok a S => exact i a S h
  | exc c S => exact h
  | bad => exact h
theorem Ok.ex (h : Ok r P) : ∃ a S, r = .ok a S ∧ P a S := by
  cases r with
  | ok a S => exact ⟨a, S, rfl, h⟩
  | exc c S => exact h.elim
  | bad => exact h.elim
end
structure Po where
  nx : En → Sto → Prop
  rt : D → Sto → Prop
  bk : En → Sto → Prop
  ct : En → Sto → Prop
def OkS (o : Out) (Q : Po) : Prop := match o with
  | .nx δ S => Q.nx δ S
  | .rt d S => Q.rt d S
  | .bk δ S => Q.bk δ S
  | .ct δ S => Q.ct δ S
  | _ => False
def noE : En → Sto → Prop := fun _ _ => False
section
variable {δ : En} {S : Sto} {P : D → Sto → Prop} {Q : Po} {a b c : DE} {ta tb : DT} {as : DA}
theorem OkS.imp {o : Out} {Q' : Po} (h : OkS o Q) (h1 : ∀ δ S, Q.nx δ S → Q'.nx δ S) (h2 : ∀ d S, Q.rt d S → Q'.rt d S) (h3 : ∀ δ S, Q.bk δ S → Q'.bk δ S) (h4 : ∀ δ S, Q.ct δ S → Q'.ct δ S) : OkS o Q' := by
  cases o with
  | nx δ S => exact h1 δ S h
  | rt δ S => exact h2 δ S h
  | bk δ S => exact h3 δ S h
  | ct δ S => exact h4 δ S h
  | exc c S => exact h
  | bad => exact h
@[simp] theorem OkS_then {α : Type} {r : Res α} {k : α → Sto → Out} : OkS (thenS r k) Q = Ok r fun a S => OkS (k a S) Q := by cases r <;> rfl
@[simp] theorem OkS_andThen {o : Out} {k : DS} : OkS (andThen o k) Q = OkS o ⟨fun δ S => OkS (k δ S) Q, Q.rt, Q.bk, Q.ct⟩ := by cases o <;> rfl
@[simp] theorem Ok_endF {o : Out} : Ok (endF o) P = OkS o ⟨fun _ S => P .non S, P, noE, noE⟩ := by cases o <;> rfl
@[simp] theorem OkS_nx : OkS (.nx δ S) Q = Q.nx δ S := rfl
@[simp] theorem OkS_rt {d : D} : OkS (.rt d S) Q = Q.rt d S := rfl
@[simp] theorem OkS_bk : OkS (.bk δ S) Q = Q.bk δ S := rfl
@[simp] theorem OkS_ct : OkS (.ct δ S) Q = Q.ct δ S := rfl
@[simp] theorem OkS_bad : OkS .bad Q = False := rfl
@[simp] theorem o_fn {n N : Nat} {body : DS} {ds : List D} : Ok (dFn n N body ds S) P = (ds.length = n ∧ OkS (body (startD N ds) S) ⟨fun _ S => P .non S, P, noE, noE⟩) := by
  unfold dFn
  split
  · rename_i h
    simp [h]
  · rename_i h
    simp [h]
@[simp] theorem o_seq {x y : DS} : OkS (dSeq x y δ S) Q = OkS (x δ S) ⟨fun δ S => OkS (y δ S) Q, Q.rt, Q.bk, Q.ct⟩ := OkS_andThen
@[simp] theorem o_skip : OkS (dSkip δ S) Q = Q.nx δ S := rfl
@[simp] theorem o_brk : OkS (dBrk δ S) Q = Q.bk δ S := rfl
@[simp] theorem o_cont : OkS (dCont δ S) Q = Q.ct δ S := rfl
@[simp] theorem o_retN : OkS (dRetN δ S) Q = Q.rt .non S := rfl
@[simp] theorem o_ret : OkS (dRet a δ S) Q = Ok (a δ S) fun d S => Q.rt d S := OkS_then
@[simp] theorem o_drop : OkS (dDrop a δ S) Q = Ok (a δ S) fun _ S => Q.nx δ S := OkS_then
@[simp] theorem o_set {i : Nat} : OkS (dSet i a δ S) Q = Ok (a δ S) fun d S => Q.nx (δ.set i (some d)) S := OkS_then
@[simp] theorem o_ifS {x y : DS} : OkS (dIfS ta x y δ S) Q = Ok (ta δ S) fun k S1 => if k = true then OkS (x δ S1) Q else OkS (y δ S1) Q := by
  unfold dIfS
  rw [OkS_then]
  congr
  funext k S1
  cases k <;> rfl
@[simp] theorem o_asg {g : Tg} : OkS (dAsg g a δ S) Q = Ok (a δ S) fun d S => ∃ δ', g.set d δ = some δ' ∧ Q.nx δ' S := by
  unfold dAsg
  rw [OkS_then]
  congr
  funext d S
  cases g.set d δ <;> simp
@[simp] theorem o_par {is : List Nat} : OkS (dPar is as δ S) Q = Ok (as δ S) fun ds S => ∃ δ', Tg.setAll (is.map .nm) ds δ = some δ' ∧ Q.nx δ' S := by
  unfold dPar
  rw [OkS_then]
  congr
  funext d S
  cases Tg.setAll (is.map .nm) d δ <;> simp
@[simp] theorem o_var {i : Nat} : Ok (dVar i δ S) P = ∃ d, δ[i]? = some (some d) ∧ P d S := by
  unfold dVar
  cases δ[i]? with
  | none => simp
  | some o => cases o <;> simp
@[simp] theorem o_c {d : D} : Ok (dC d δ S) P = P d S := rfl
@[simp] theorem o_bin {op : D → D → Sto → Res D} : Ok (dBin op a b δ S) P = Ok (a δ S) fun x S => Ok (b δ S) fun y S => Ok (op x y S) P := by
  unfold dBin
  rw [Ok_bnd]
  congr
  funext x S
  rw [Ok_bnd]
theorem o_asB {r : Res D} {P : Bool → Sto → Prop} : Ok (asB r) P = Ok r fun d S => ∃ k, d = .bl k ∧ P k S := by
  unfold asB
  rw [Ok_bnd]
  congr
  funext d S
  cases d <;> simp
@[simp] theorem o_B {P : Bool → Sto → Prop} : Ok (dB a δ S) P = Ok (a δ S) fun d S => ∃ k, d = .bl k ∧ P k S := o_asB
@[simp] theorem o_and {P : Bool → Sto → Prop} : Ok (dAnd ta tb δ S) P = Ok (ta δ S) fun x S1 => if x = true then Ok (tb δ S1) P else P false S1 := by
  unfold dAnd
  rw [Ok_bnd]
  congr
  funext x S
  cases x <;> rfl
@[simp] theorem o_or {P : Bool → Sto → Prop} : Ok (dOr ta tb δ S) P = Ok (ta δ S) fun x S1 => if x = true then P true S1 else Ok (tb δ S1) P := by
  unfold dOr
  rw [Ok_bnd]
  congr
  funext x S
  cases x <;> rfl
@[simp] theorem o_not {P : Bool → Sto → Prop} : Ok (dNot ta δ S) P = Ok (ta δ S) fun x S1 => P (!x) S1 := by
  unfold dNot
  rw [Ok_bnd]
  rfl
@[simp] theorem o_andV : Ok (dAndV a b δ S) P = Ok (a δ S) fun d S1 => ∃ x, d = .bl x ∧ if x = true then Ok (b δ S1) P else P (.bl false) S1 := by
  unfold dAndV
  rw [Ok_bnd, o_asB]
  congr
  funext d S
  congr
  funext x
  cases x <;> simp
@[simp] theorem o_orV : Ok (dOrV a b δ S) P = Ok (a δ S) fun d S1 => ∃ x, d = .bl x ∧ if x = true then P (.bl true) S1 else Ok (b δ S1) P := by
  unfold dOrV
  rw [Ok_bnd, o_asB]
  congr
  funext d S
  congr
  funext x
  cases x <;> simp
@[simp] theorem o_notV : Ok (dNotV a δ S) P = Ok (a δ S) fun d S1 => ∃ x, d = .bl x ∧ P (.bl (!x)) S1 := by
  unfold dNotV
  rw [Ok_bnd, o_asB]
  rfl
@[simp] theorem o_if : Ok (dIf ta a b δ S) P = Ok (ta δ S) fun x S1 => if x = true then Ok (a δ S1) P else Ok (b δ S1) P := by
  unfold dIf
  rw [Ok_bnd]
  congr
  funext x S
  cases x <;> rfl
@[simp] theorem o_chain {op op' : D → D → Sto → Res D} : Ok (dChain op op' a b c δ S) P = Ok (a δ S) fun x S1 => Ok (b δ S1) fun y S2 => Ok (op x y S2) fun d S3 => ∃ k, d = .bl k ∧ if k = true then Ok (c δ S3) fun z S4 => Ok (op' y z S4) P else P (.bl false) S3 := by
  unfold dChain
  rw [Ok_bnd]
  congr
  funext x S
  rw [Ok_bnd]
  congr
  funext y S
  rw [Ok_bnd, o_asB]
  congr
  funext d S
  congr
  funext k
  cases k <;> simp
@[simp] theorem o_nil {P : List D → Sto → Prop} : Ok (dNil δ S) P = P [] S := rfl
@[simp] theorem o_cons {P : List D → Sto → Prop} : Ok (dCons a as δ S) P = Ok (a δ S) fun x S1 => Ok (as δ S1) fun xs S2 => P (x :: xs) S2 := by
  unfold dCons
  rw [Ok_bnd]
  congr
  funext x S
  rw [Ok_bnd]
  rfl
@[simp] theorem o_mkT {xs : List D} : Ok (mkTup xs S) P = (xs.length ≤ lim ∧ P (.tup xs) S) := by
  unfold mkTup
  split <;> simp [*]
@[simp] theorem o_mkL {xs : List D} : Ok (mkLst xs S) P = (xs.length ≤ lim ∧ P (.cell S.length) (S ++ [.lst xs])) := by
  unfold mkLst
  split <;> simp [*]
@[simp] theorem o_tup : Ok (dTup as δ S) P = Ok (as δ S) fun xs S => xs.length ≤ lim ∧ P (.tup xs) S := by
  unfold dTup
  rw [Ok_bnd]
  congr
  funext xs S
  exact o_mkT
@[simp] theorem o_lst : Ok (dLst as δ S) P = Ok (as δ S) fun xs S => xs.length ≤ lim ∧ P (.cell S.length) (S ++ [.lst xs]) := by
  unfold dLst
  rw [Ok_bnd]
  congr
  funext xs S
  exact o_mkL
@[simp] theorem o_call {f : DF} : Ok (dCall f as δ S) P = Ok (as δ S) fun ds S => Ok (f ds S) P := Ok_bnd
@[simp] theorem o_callK {f : DF} {is : List Nat} : Ok (dCallK f is as δ S) P = Ok (as δ S) fun ds S => ds.length = is.length ∧ Ok (f (permD is ds) S) P := by
  unfold dCallK
  rw [Ok_bnd]
  congr
  funext xs S
  split <;> simp [*]
@[simp] theorem o_noPart {P : Option Int → Sto → Prop} : Ok (dNoPart δ S) P = P none S := rfl
@[simp] theorem o_part {P : Option Int → Sto → Prop} : Ok (dPart a δ S) P = Ok (a δ S) fun d S => ∃ i, d = .int i ∧ P (some i) S := by
  unfold dPart
  rw [Ok_bnd]
  congr
  funext d S
  cases d <;> simp
@[simp] theorem o_sl {lo hi : DO} : Ok (dSl a lo hi δ S) P = Ok (a δ S) fun x S1 => Ok (lo δ S1) fun l S2 => Ok (hi δ S2) fun h S3 => Ok (opSl x l h S3) P := by
  unfold dSl
  rw [Ok_bnd]
  congr
  funext x S
  rw [Ok_bnd]
  congr
  funext l S
  rw [Ok_bnd]
@[simp] theorem o_slT {xs : List D} {lo hi : Option Int} : Ok (opSl (.tup xs) lo hi S) P = P (.tup (cutD xs lo hi)) S := rfl
@[simp] theorem o_neg : Ok (dNeg a δ S) P = Ok (a δ S) fun d S => ∃ i, d = .int i ∧ P (.int (-i)) S := by
  unfold dNeg
  rw [Ok_bnd]
  congr
  funext d S
  cases d <;> simp
@[simp] theorem o_dic0 : Ok (dDic0 δ S) P = P (.cell S.length) (S ++ [.dic []]) := rfl
@[simp] theorem o_ixC {ys : List Str} : Ok (dIxC ys a δ S) P = Ok (a δ S) fun d S => ∃ z j, d = .str z ∧ ixStr ys z = some j ∧ P (.int (j : Nat)) S := by
  unfold dIxC
  rw [Ok_bnd]
  congr
  funext d S
  cases d with
  | str z => cases h : ixStr ys z <;> simp [h]
  | _ => simp
@[simp] theorem o_mth {f : D → List D → Sto → Res D} : Ok (dMth f a as δ S) P = Ok (a δ S) fun x S1 => isL S1 x = true ∧ Ok (as δ S1) fun xs S2 => Ok (f x xs S2) P := by
  unfold dMth
  rw [Ok_bnd]
  congr
  funext x S
  split <;> simp [*]
@[simp] theorem o_yes {P : Bool → Sto → Prop} : Ok (dYes δ S) P = P true S := rfl
@[simp] theorem o_srcT {P : Src → Sto → Prop} : Ok (srcT a δ S) P = Ok (a δ S) fun d S => isT d = true ∧ P (.seq d) S := by
  unfold srcT
  rw [Ok_bnd]
  congr
  funext d S
  split <;> simp [*]
@[simp] theorem o_srcL {P : Src → Sto → Prop} : Ok (srcL a δ S) P = Ok (a δ S) fun d S => isL S d = true ∧ P (.seq d) S := by
  unfold srcL
  rw [Ok_bnd]
  congr
  funext d S
  split <;> simp [*]
@[simp] theorem o_enT {P : Src → Sto → Prop} : Ok (enT as δ S) P = Ok (as δ S) fun ds S => ∃ d, ds = [d] ∧ isT d = true ∧ P (.en d) S := by
  unfold enT
  rw [Ok_bnd]
  congr
  funext d S
  rcases d with _ | ⟨d, _ | ⟨e, r⟩⟩
  · simp
  · simp only []
    split <;> simp [*]
  · simp
@[simp] theorem o_enL {P : Src → Sto → Prop} : Ok (enL as δ S) P = Ok (as δ S) fun ds S => ∃ d, ds = [d] ∧ isL S d = true ∧ P (.en d) S := by
  unfold enL
  rw [Ok_bnd]
  congr
  funext d S
  rcases d with _ | ⟨d, _ | ⟨e, r⟩⟩
  · simp
  · simp only []
    split <;> simp [*]
  · simp
@[simp] theorem o_rng1 {P : Src → Sto → Prop} : Ok (rng1 as δ S) P = Ok (as δ S) fun ds S => ∃ j, ds = [.int j] ∧ inRng j = true ∧ P (.rng 0 j) S := by
  unfold rng1
  rw [Ok_bnd]
  congr
  funext d S
  split
  · rename_i j
    split <;> simp [*]
  · rename_i h
    simp
    intro j e
    exact absurd e (h j)
@[simp] theorem o_rng2 {P : Src → Sto → Prop} : Ok (rng2 as δ S) P = Ok (as δ S) fun ds S => ∃ i j, ds = [.int i, .int j] ∧ inRng i = true ∧ inRng j = true ∧ P (.rng i j) S := by
  unfold rng2
  rw [Ok_bnd]
  congr
  funext d S
  apply propext
  constructor
  · intro h
    split at h
    · rename_i i j
      split at h
      · rename_i h2
        rw [Bool.and_eq_true] at h2
        exact ⟨i, j, rfl, h2.1, h2.2, h⟩
      · exact h.elim
    · exact h.elim
  · rintro ⟨i, j, rfl, h1, h2, h⟩
    simp only [h1, h2, Bool.and_self, if_true]
    exact h
/-! ### operators on known values -/
@[simp] theorem p_add {i j : Int} : opAdd (.int i) (.int j) S = .ok (.int (i + j)) S := rfl
@[simp] theorem p_addT {xs ys : List D} : opAdd (.tup xs) (.tup ys) S = mkTup (xs ++ ys) S := rfl
theorem p_addL {m n : Nat} {xs ys : List D} (h1 : S[m]? = some (.lst xs)) (h2 : S[n]? = some (.lst ys)) : opAdd (.cell m) (.cell n) S = mkLst (xs ++ ys) S := by
  unfold opAdd
  simp only [h1, h2]
@[simp] theorem p_sub {i j : Int} : opSub (.int i) (.int j) S = .ok (.int (i - j)) S := rfl
@[simp] theorem p_lt {i j : Int} : opLt (.int i) (.int j) S = .ok (.bl (decide (i < j))) S := rfl
@[simp] theorem p_le {i j : Int} : opLe (.int i) (.int j) S = .ok (.bl (decide (i ≤ j))) S := rfl
@[simp] theorem p_gt {i j : Int} : opGt (.int i) (.int j) S = .ok (.bl (decide (j < i))) S := rfl
@[simp] theorem p_ge {i j : Int} : opGe (.int i) (.int j) S = .ok (.bl (decide (j ≤ i))) S := rfl
@[simp] theorem p_isN {x : D} : opIsN false x .non S = .ok (.bl (isNon x)) S := rfl
@[simp] theorem p_notN {x : D} : opIsN true x .non S = .ok (.bl (!isNon x)) S := rfl
@[simp] theorem isNon_non : isNon .non = true := rfl
@[simp] theorem isNon_int {i : Int} : isNon (.int i) = false := rfl
@[simp] theorem isNon_str {i : Str} : isNon (.str i) = false := rfl
@[simp] theorem isNon_tup {i : List D} : isNon (.tup i) = false := rfl
@[simp] theorem p_eqI {i j : Int} : opEq (.int i) (.int j) S = .ok (.bl (decide (i = j))) S := rfl
@[simp] theorem p_neI {i j : Int} : opNe (.int i) (.int j) S = .ok (.bl (!decide (i = j))) S := rfl
@[simp] theorem p_eqS {i j : Str} : opEq (.str i) (.str j) S = .ok (.bl (decide (i = j))) S := rfl
@[simp] theorem p_neS {i j : Str} : opNe (.str i) (.str j) S = .ok (.bl (!decide (i = j))) S := rfl
theorem p_mod {i j : Int} (h : j ≠ 0) : opMod (.int i) (.int j) S = .ok (.int (i.fmod j)) S := by
  unfold opMod opI
  simp [h]
theorem p_fdiv {i j : Int} (h : j ≠ 0) (h2 : j.natAbs < 1073741824) : opFdiv (.int i) (.int j) S = .ok (.int (i.fdiv j)) S := by
  unfold opFdiv opI
  have h3 : decide (j ≠ 0 ∧ j.natAbs < N30) = true := decide_eq_true (by rw [N30_eq]; exact ⟨h, h2⟩)
  simp only [h3, if_true]
theorem p_mul {i j : Int} (h : (-(2 ^ 64) < i ∧ i < 2 ^ 64) ∨ (-(2 ^ 64) < j ∧ j < 2 ^ 64)) : opMul (.int i) (.int j) S = .ok (.int (i * j)) S := by
  unfold opMul
  have h3 : decide ((-M64 < i ∧ i < M64) ∨ (-M64 < j ∧ j < M64)) = true := decide_eq_true (by rw [M64_eq]; exact h)
  simp only [h3, if_true]
theorem p_pow {i j : Int} (h : 0 ≤ j ∧ j ≤ 1000000 ∧ i.natAbs < 2 ^ 64) : opPow (.int i) (.int j) S = .ok (.int (i ^ j.toNat)) S := by
  unfold opPow opI
  have h3 : decide (0 ≤ j ∧ j ≤ M6 ∧ i.natAbs < N64) = true := decide_eq_true (by rw [M6_eq, N64_eq]; exact h)
  simp only [h3, if_true]
/-- subscripts -/
theorem p_ix {x d : D} {xs : List D} {n : Nat} {i : Int} (h : items S x = some xs) (h2 : xs[n]? = some d) (hi : i = (n : Nat)) : opIx x (.int i) S = .ok d S := by
  subst hi
  unfold opIx
  have hn : n < xs.length := (List.getElem?_eq_some_iff.mp h2).1
  have e : atI xs (n : Int) = some d := by
    unfold atI ixN
    rw [if_pos (by omega), if_pos (by omega)]
    simpa using h2
  simp only [h, e]
@[simp] theorem p_ixT0 {a : D} {r : List D} : opIx (.tup (a :: r)) (.int 0) S = .ok a S := p_ix (n := 0) rfl rfl rfl
@[simp] theorem p_ixT1 {a b : D} {r : List D} : opIx (.tup (a :: b :: r)) (.int 1) S = .ok b S := p_ix (n := 1) rfl rfl rfl
@[simp] theorem p_ixT2 {a b c : D} {r : List D} : opIx (.tup (a :: b :: c :: r)) (.int 2) S = .ok c S := p_ix (n := 2) rfl rfl rfl
@[simp] theorem p_ixT3 {a b c d : D} {r : List D} : opIx (.tup (a :: b :: c :: d :: r)) (.int 3) S = .ok d S := p_ix (n := 3) rfl rfl rfl
theorem p_ixT {xs : List D} {d : D} {n : Nat} (h2 : xs[n]? = some d) : opIx (.tup xs) (.int (n : Nat)) S = .ok d S := p_ix rfl h2 rfl
theorem p_ixL {c : Nat} {xs : List D} {d : D} {n : Nat} (h : S[c]? = some (.lst xs)) (h2 : xs[n]? = some d) : opIx (.cell c) (.int (n : Nat)) S = .ok d S := p_ix (by simp only [items, h]) h2 rfl
theorem p_ixLast {c : Nat} {xs : List D} {d : D} (h : S[c]? = some (.lst (xs ++ [d]))) : opIx (.cell c) (.int (-1)) S = .ok d S := by
  unfold opIx
  have e : atI (xs ++ [d]) (-1) = some d := by
    unfold atI ixN
    rw [if_neg (by omega), if_pos (by simp; omega)]
    have e2 : (-1 + ((xs ++ [d]).length : Int)).toNat = xs.length := by simp; omega
    simp only [Option.bind_some, e2]
    simp
  simp only [items, h, e]
/-! ### built-ins on known values -/
@[simp] theorem b_lenT {xs : List D} : bLen [.tup xs] S = .ok (.int xs.length) S := rfl
theorem b_lenL {c : Nat} {xs : List D} (h : S[c]? = some (.lst xs)) : bLen [.cell c] S = .ok (.int xs.length) S := by
  unfold bLen
  simp only [items, h]
@[simp] theorem b_lenRo {xs : List D} : bLen [.ro xs] S = .ok (.int xs.length) S := rfl
@[simp] theorem b_tupT {xs : List D} : bTuple [.tup xs] S = .ok (.tup xs) S := rfl
theorem b_tupL {c : Nat} {xs : List D} (h : S[c]? = some (.lst xs)) : bTuple [.cell c] S = .ok (.tup xs) S := by
  unfold bTuple
  simp only [items, h]
@[simp] theorem b_lstT {xs : List D} : bList [.tup xs] S = .ok (.cell S.length) (S ++ [.lst xs]) := rfl
theorem b_lstL {c : Nat} {xs : List D} (h : S[c]? = some (.lst xs)) : bList [.cell c] S = .ok (.cell S.length) (S ++ [.lst xs]) := by
  unfold bList
  simp only [items, h]
@[simp] theorem b_intI {i : Int} : bInt [.int i] S = .ok (.int i) S := rfl
@[simp] theorem b_intB {k : Bool} : bInt [.bl k] S = .ok (.int (if k then 1 else 0)) S := rfl
@[simp] theorem b_absI {i : Int} : bAbs [.int i] S = .ok (.int (if i < 0 then -i else i)) S := rfl
@[simp] theorem b_max2 {i j : Int} : bMax [.int i, .int j] S = .ok (.int (if j > i then j else i)) S := rfl
theorem intsOf_map : ∀ l : List Int, intsOf (l.map D.int) = some l
  | [] => rfl
  | i :: l => by simp [intsOf, intsOf_map l]
theorem blsOf_map : ∀ l : List Bool, blsOf (l.map D.bl) = some l
  | [] => rfl
  | i :: l => by simp [blsOf, blsOf_map l]
theorem b_maxL {c : Nat} {n : Int} {l : List Int} (h : S[c]? = some (.lst ((n :: l).map D.int))) : bMax [.cell c] S = .ok (.int (maxI (n :: l))) S := by
  unfold bMax
  simp only [isL, items, h, if_true, Option.bind_some, intsOf_map]
theorem b_allL {c : Nat} {l : List Bool} (h : S[c]? = some (.lst (l.map D.bl))) : bAll [.cell c] S = .ok (.bl (l.all id)) S := by
  unfold bAll
  simp only [isL, items, h, if_true, Option.bind_some, blsOf_map]
@[simp] theorem isT_tup {xs : List D} : isT (.tup xs) = true := rfl
theorem isL_cell {c : Nat} {xs : List D} (h : S[c]? = some (.lst xs)) : isL S (.cell c) = true := by
  simp only [isL, h]
@[simp] theorem it_tup {xs : List D} : items S (.tup xs) = some xs := rfl
@[simp] theorem it_ro {xs : List D} : items S (.ro xs) = some xs := rfl
theorem it_cell {c : Nat} {xs : List D} (h : S[c]? = some (.lst xs)) : items S (.cell c) = some xs := by
  simp only [items, h]
theorem m_app {c : Nat} {xs : List D} {d : D} (h : S[c]? = some (.lst xs)) (hl : xs.length < lim) : mAppend (.cell c) [d] S = .ok .non (S.set c (.lst (xs ++ [d]))) := by
  unfold mAppend
  simp only [h, hl, if_true]
theorem m_pop {c : Nat} {xs : List D} {d : D} (h : S[c]? = some (.lst (xs ++ [d]))) : mPop (.cell c) [] S = .ok d (S.set c (.lst xs)) := by
  unfold mPop
  simp [h]
/-! ### isinstance -/
def isI : D → Bool
  | .int _ => true
  | _ => false
def isB : D → Bool
  | .bl _ => true
  | _ => false
theorem ty_cell (S : Sto) (n : Nat) : tyD S (.cell n) = "dict" ∨ tyD S (.cell n) = "list" := by
  cases h : S[n]? with
  | none => exact .inr (by simp only [tyD, h])
  | some c => cases c with
    | dic kvs => exact .inl (by simp only [tyD, h])
    | lst kvs => exact .inr (by simp only [tyD, h])
theorem k_int {d : D} : kitB (tyD S d) "int" = some (isI d || isB d) := by
  cases d with
  | cell n => rcases ty_cell S n with e | e <;> rw [e] <;> rfl
  | _ => rfl
theorem k_bool {d : D} : kitB (tyD S d) "bool" = some (isB d) := by
  cases d with
  | cell n => rcases ty_cell S n with e | e <;> rw [e] <;> rfl
  | _ => rfl
theorem k_tuple {d : D} : kitB (tyD S d) "tuple" = some (isT d) := by
  cases d with
  | cell n => rcases ty_cell S n with e | e <;> rw [e] <;> rfl
  | _ => rfl
@[simp] theorem o_isiI : Ok (dIsI "int" a δ S) P = Ok (a δ S) fun d S => P (.bl (isI d || isB d)) S := by
  unfold dIsI
  rw [Ok_bnd]
  congr
  funext d S
  rw [k_int]
  rfl
@[simp] theorem o_isiB : Ok (dIsI "bool" a δ S) P = Ok (a δ S) fun d S => P (.bl (isB d)) S := by
  unfold dIsI
  rw [Ok_bnd]
  congr
  funext d S
  rw [k_bool]
  rfl
@[simp] theorem o_isiT : Ok (dIsI "tuple" a δ S) P = Ok (a δ S) fun d S => P (.bl (isT d)) S := by
  unfold dIsI
  rw [Ok_bnd]
  congr
  funext d S
  rw [k_tuple]
  rfl
end
/-! ### what stays -/
/-- all cells but those of K stay -/
structure Kp (K : List Nat) (S S' : Sto) : Prop where
  le : S.length ≤ S'.length
  get : ∀ n c, n ∉ K → S[n]? = some c → S'[n]? = some c
theorem Kp.refl (K : List Nat) (S : Sto) : Kp K S S := ⟨Nat.le_refl _, fun _ _ _ h => h⟩
theorem Kp.trans {K : List Nat} {S S1 S2 : Sto} (a : Kp K S S1) (b : Kp K S1 S2) : Kp K S S2 := ⟨Nat.le_trans a.le b.le, fun n c hn h => b.get n c hn (a.get n c hn h)⟩
theorem Kp.of {K : List Nat} {S S1 : Sto} (a : Kp [] S S1) : Kp K S S1 := ⟨a.le, fun n c _ h => a.get n c (by simp) h⟩
theorem Kp.app (K : List Nat) (S T : Sto) : Kp K S (S ++ T) := ⟨by simp, fun n c _ h => by
  rw [List.getElem?_append_left (List.getElem?_eq_some_iff.mp h).1]
  exact h⟩
theorem Kp.push {K : List Nat} {S S1 : Sto} (a : Kp K S S1) (T : Sto) : Kp K S (S1 ++ T) := a.trans (Kp.app K S1 T)
/-- a fresh cell, one of K, is changed -/
theorem Kp.set {K : List Nat} {S S1 : Sto} (a : Kp K S S1) {n : Nat} (hn : S.length ≤ n ∨ n ∈ K) (c : C) : Kp K S (S1.set n c) := ⟨by simpa using a.le, fun m c' hm h => by
  have hl := (List.getElem?_eq_some_iff.mp h).1
  have hne : n ≠ m := by
    rcases hn with hn | hn
    · omega
    · exact fun z => hm (z ▸ hn)
  rw [List.getElem?_set_ne hne]
  exact a.get m c' hm h⟩
theorem get_push (S : Sto) (c : C) : (S ++ [c])[S.length]? = some c := by simp
theorem get_set {S : Sto} {n : Nat} {c c' : C} (h : S[n]? = some c) : (S.set n c')[n]? = some c' := List.getElem?_set_self (List.getElem?_eq_some_iff.mp h).1
theorem lt_of_get {S : Sto} {n : Nat} {c : C} (h : S[n]? = some c) : n < S.length := (List.getElem?_eq_some_iff.mp h).1
/-! ### loops -/
section
variable {δ : En} {S : Sto} {Q : Po} {src : DSrc} {g : Tg} {body : DS}
theorem okl {s : Src} {N : Nat} {item : Nat → D} (I : Nat → En → Sto → Prop) (hlen : ∀ i δ S, I i δ S → s.len S = some N) (hit : ∀ i δ S, i < N → I i δ S → s.item S i = some (item i))
    (step : ∀ i δ S, i < N → I i δ S → ∃ δ', g.set (item i) δ = some δ' ∧ OkS (body δ' S) ⟨I (i + 1), Q.rt, Q.nx, I (i + 1)⟩) (done : ∀ δ S, I N δ S → Q.nx δ S) :
    ∀ (f i : Nat) (δ : En) (S : Sto), N ≤ i + f → i ≤ N → I i δ S → OkS (dLoop g body s f i δ S) Q
  | 0, i, δ, S, h1, h2, h => by
    have e : i = N := by omega
    subst e
    unfold dLoop
    simp only [hlen _ _ _ h, Nat.le_refl, if_true]
    exact done δ S h
  | f + 1, i, δ, S, h1, h2, h => by
    unfold dLoop
    simp only [hlen _ _ _ h]
    by_cases hi : N ≤ i
    · have e : i = N := by omega
      subst e
      simp only [Nat.le_refl, if_true]
      exact done δ S h
    · simp only [hi, if_false]
      have hlt : i < N := by omega
      obtain ⟨δ', h3, h4⟩ := step i δ S hlt h
      simp only [hit i δ S hlt h, h3]
      have ih := okl I hlen hit step done f (i + 1)
      cases q : body δ' S with
      | nx δ1 S1 =>
        rw [q] at h4
        exact ih δ1 S1 (by omega) hlt h4
      | ct δ1 S1 =>
        rw [q] at h4
        exact ih δ1 S1 (by omega) hlt h4
      | bk δ1 S1 =>
        rw [q] at h4
        exact h4
      | rt d S1 =>
        rw [q] at h4
        exact h4
      | exc c S1 =>
        rw [q] at h4
        exact h4.elim
      | bad =>
        rw [q] at h4
        exact h4.elim
theorem ok_for {s0 : Src} {N : Nat} {item : Nat → D} (I : Nat → En → Sto → Prop) (hs : Ok (src δ S) fun s S1 => s = s0 ∧ I 0 δ S1) (hlen : ∀ i δ S, I i δ S → s0.len S = some N) (hit : ∀ i δ S, i < N → I i δ S → s0.item S i = some (item i))
    (step : ∀ i δ S, i < N → I i δ S → ∃ δ', g.set (item i) δ = some δ' ∧ OkS (body δ' S) ⟨I (i + 1), Q.rt, Q.nx, I (i + 1)⟩) (done : ∀ δ S, I N δ S → Q.nx δ S) : OkS (dFor src g body δ S) Q := by
  unfold dFor
  rw [OkS_then]
  refine Ok.imp hs fun s S1 ⟨e, h⟩ => ?_
  subst e
  simp only [hlen _ _ _ h]
  exact okl I hlen hit step done N 0 δ S1 (by omega) (by omega) h
/-- over a tuple's items -/
theorem ok_forT {xs : List D} (I : Nat → En → Sto → Prop) {a : DE} (hs : Ok (a δ S) fun d S1 => d = .tup xs ∧ I 0 δ S1)
    (step : ∀ i δ S x, xs[i]? = some x → I i δ S → ∃ δ', g.set x δ = some δ' ∧ OkS (body δ' S) ⟨I (i + 1), Q.rt, Q.nx, I (i + 1)⟩) (done : ∀ δ S, I xs.length δ S → Q.nx δ S) : OkS (dFor (srcT a) g body δ S) Q := by
  refine ok_for (s0 := .seq (.tup xs)) (N := xs.length) (item := fun i => xs[i]?.getD .non) I ?_ (fun _ _ _ _ => rfl) (fun i δ S hi _ => ?_) (fun i δ S hi h => ?_) done
  · rw [o_srcT]
    refine Ok.imp hs fun d S1 ⟨e, h⟩ => ?_
    subst e
    exact ⟨rfl, rfl, h⟩
  · simp [Src.item, hi]
  · have e : xs[i]? = some xs[i] := List.getElem?_eq_getElem hi
    have := step i δ S xs[i] e h
    simpa [e] using this
theorem ok_forET {xs : List D} (I : Nat → En → Sto → Prop) {a : DA} (hs : Ok (a δ S) fun d S1 => d = [.tup xs] ∧ I 0 δ S1)
    (step : ∀ i δ S x, xs[i]? = some x → I i δ S → ∃ δ', g.set (.tup [.int i, x]) δ = some δ' ∧ OkS (body δ' S) ⟨I (i + 1), Q.rt, Q.nx, I (i + 1)⟩) (done : ∀ δ S, I xs.length δ S → Q.nx δ S) : OkS (dFor (enT a) g body δ S) Q := by
  refine ok_for (s0 := .en (.tup xs)) (N := xs.length) (item := fun i => .tup [.int i, xs[i]?.getD .non]) I ?_ (fun _ _ _ _ => rfl) (fun i δ S hi _ => ?_) (fun i δ S hi h => ?_) done
  · rw [o_enT]
    refine Ok.imp hs fun d S1 ⟨e, h⟩ => ?_
    subst e
    exact ⟨_, rfl, rfl, rfl, h⟩
  · simp [Src.item, hi]
  · have e : xs[i]? = some xs[i] := List.getElem?_eq_getElem hi
    have := step i δ S xs[i] e h
    simpa [e] using this
/-- over a list's items, the list at c stays -/
theorem ok_forL {xs : List D} {c : Nat} (I : Nat → En → Sto → Prop) {a : DE} (hs : Ok (a δ S) fun d S1 => d = .cell c ∧ I 0 δ S1) (hc : ∀ i δ S, I i δ S → S[c]? = some (.lst xs))
    (step : ∀ i δ S x, xs[i]? = some x → I i δ S → ∃ δ', g.set x δ = some δ' ∧ OkS (body δ' S) ⟨I (i + 1), Q.rt, Q.nx, I (i + 1)⟩) (done : ∀ δ S, I xs.length δ S → Q.nx δ S) : OkS (dFor (srcL a) g body δ S) Q := by
  refine ok_for (s0 := .seq (.cell c)) (N := xs.length) (item := fun i => xs[i]?.getD .non) I ?_ (fun i δ S h => ?_) (fun i δ S hi h => ?_) (fun i δ S hi h => ?_) done
  · rw [o_srcL]
    refine Ok.imp hs fun d S1 ⟨e, h⟩ => ?_
    subst e
    exact ⟨isL_cell (hc _ _ _ h), rfl, h⟩
  · simp [Src.len, it_cell (hc _ _ _ h)]
  · simp [Src.item, it_cell (hc _ _ _ h), hi]
  · have e : xs[i]? = some xs[i] := List.getElem?_eq_getElem hi
    have := step i δ S xs[i] e h
    simpa [e] using this
theorem ok_forEL {xs : List D} {c : Nat} (I : Nat → En → Sto → Prop) {a : DA} (hs : Ok (a δ S) fun d S1 => d = [.cell c] ∧ I 0 δ S1) (hc : ∀ i δ S, I i δ S → S[c]? = some (.lst xs))
    (step : ∀ i δ S x, xs[i]? = some x → I i δ S → ∃ δ', g.set (.tup [.int i, x]) δ = some δ' ∧ OkS (body δ' S) ⟨I (i + 1), Q.rt, Q.nx, I (i + 1)⟩) (done : ∀ δ S, I xs.length δ S → Q.nx δ S) : OkS (dFor (enL a) g body δ S) Q := by
  refine ok_for (s0 := .en (.cell c)) (N := xs.length) (item := fun i => .tup [.int i, xs[i]?.getD .non]) I ?_ (fun i δ S h => ?_) (fun i δ S hi h => ?_) (fun i δ S hi h => ?_) done
  · rw [o_enL]
    refine Ok.imp hs fun d S1 ⟨e, h⟩ => ?_
    subst e
    exact ⟨_, rfl, isL_cell (hc _ _ _ h), rfl, h⟩
  · simp [Src.len, it_cell (hc _ _ _ h)]
  · simp [Src.item, it_cell (hc _ _ _ h), hi]
  · have e : xs[i]? = some xs[i] := List.getElem?_eq_getElem hi
    have := step i δ S xs[i] e h
    simpa [e] using this
/-- over range(n) -/
theorem inRng_of {i : Int} (h1 : -1000000 ≤ i) (h2 : i ≤ 1000000) : inRng i = true := by
  unfold inRng
  rw [decide_eq_true_eq, M62_eq]
  omega
theorem ok_forR {n : Nat} (hn : n ≤ 1000000) (I : Nat → En → Sto → Prop) {a : DA} (hs : Ok (a δ S) fun d S1 => d = [.int (n : Nat)] ∧ I 0 δ S1)
    (step : ∀ i δ S, i < n → I i δ S → ∃ δ', g.set (.int (i : Nat)) δ = some δ' ∧ OkS (body δ' S) ⟨I (i + 1), Q.rt, Q.nx, I (i + 1)⟩) (done : ∀ δ S, I n δ S → Q.nx δ S) : OkS (dFor (rng1 a) g body δ S) Q := by
  refine ok_for (s0 := .rng 0 (n : Nat)) (N := n) (item := fun i => .int (i : Nat)) I ?_ (fun i δ S h => ?_) (fun i δ S hi h => ?_) (fun i δ S hi h => step i δ S hi h) done
  · rw [o_rng1]
    refine Ok.imp hs fun d S1 ⟨e, h⟩ => ?_
    subst e
    exact ⟨_, rfl, inRng_of (by omega) (by omega), rfl, h⟩
  · simp [Src.len]
  · simp [Src.item, hi]
end
/-! ### comprehensions -/
section
variable {δ : En} {S : Sto} {P : D → Sto → Prop} {src : DSrc} {g : Tg} {t : DT} {elt : DE} {own : List Nat}
theorem Ok_nox {α : Type} {r : Res α} {P : α → Sto → Prop} : Ok (nox r) P = Ok r P := by cases r <;> rfl
theorem okc {s : Src} {N c : Nat} {item : Nat → D} {δ0 : En} (J : Nat → Sto → List D → Prop) (hlen : ∀ i S acc, J i S acc → s.len S = some N) (hit : ∀ i S acc, i < N → J i S acc → s.item S i = some (item i))
    (step : ∀ i S acc, i < N → J i S acc → ∃ δ', g.set (item i) δ0 = some δ' ∧ Ok (t δ' S) fun b S2 => if b = true then Ok (elt δ' S2) fun y S3 => S3[c]? = some (.lst acc) ∧ acc.length < lim ∧ J (i + 1) (S3.set c (.lst (acc ++ [y]))) (acc ++ [y]) else J (i + 1) S2 acc)
    (done : ∀ S acc, J N S acc → P (.cell c) S) : ∀ (f i : Nat) (S : Sto) (acc : List D), N ≤ i + f → i ≤ N → J i S acc → Ok (dLcGo g t elt s c δ0 f i S) P
  | 0, i, S, acc, h1, h2, h => by
    have e : i = N := by omega
    subst e
    unfold dLcGo
    simp only [hlen _ _ _ h, Nat.le_refl, if_true]
    exact done S acc h
  | f + 1, i, S, acc, h1, h2, h => by
    unfold dLcGo
    simp only [hlen _ _ _ h]
    by_cases hi : N ≤ i
    · have e : i = N := by omega
      subst e
      simp only [Nat.le_refl, if_true]
      exact done S acc h
    · simp only [hi, if_false]
      have hlt : i < N := by omega
      obtain ⟨δ', h3, h4⟩ := step i S acc hlt h
      simp only [hit i S acc hlt h, h3]
      have ih := okc J hlen hit step done f (i + 1)
      rw [Ok_bnd, Ok_nox]
      refine Ok.imp h4 fun b S2 h5 => ?_
      cases b with
      | false => exact ih S2 acc (by omega) hlt h5
      | true =>
        simp only [if_true] at h5 ⊢
        rw [Ok_bnd, Ok_nox]
        refine Ok.imp h5 fun y S3 ⟨h6, h7, h8⟩ => ?_
        have e : lcPut c y S3 = some (S3.set c (.lst (acc ++ [y]))) := by
          unfold lcPut
          simp only [h6, h7, if_true]
        simp only [e]
        exact ih _ _ (by omega) hlt h8
theorem ok_lc {s0 : Src} {N c : Nat} {item : Nat → D} (J : Nat → Sto → List D → Prop) (hs : Ok (src δ S) fun s S1 => s = s0 ∧ c = S1.length ∧ J 0 (S1 ++ [.lst []]) []) (hlen : ∀ i S acc, J i S acc → s0.len S = some N)
    (hit : ∀ i S acc, i < N → J i S acc → s0.item S i = some (item i))
    (step : ∀ i S acc, i < N → J i S acc → ∃ δ', g.set (item i) (wipeD δ own) = some δ' ∧ Ok (t δ' S) fun b S2 => if b = true then Ok (elt δ' S2) fun y S3 => S3[c]? = some (.lst acc) ∧ acc.length < lim ∧ J (i + 1) (S3.set c (.lst (acc ++ [y]))) (acc ++ [y]) else J (i + 1) S2 acc)
    (done : ∀ S acc, J N S acc → P (.cell c) S) : Ok (dLc src g t elt own δ S) P := by
  unfold dLc
  rw [Ok_bnd]
  refine Ok.imp hs fun s S1 ⟨e1, e2, h⟩ => ?_
  subst e1 e2
  simp only [hlen _ _ _ h]
  exact okc J hlen hit step done N 0 _ [] (by omega) (by omega) h
/-- WHAT CHANGES NO CELL: the list of F over the items -/
theorem ok_lcP {s0 : Src} {xs : List D} (F : D → Option D) (hs : Ok (src δ S) fun s S1 => s = s0 ∧ Kp [] S S1) (hlen : ∀ S', Kp [] S S' → s0.len S' = some xs.length)
    (hit : ∀ S' i, Kp [] S S' → i < xs.length → s0.item S' i = xs[i]?) (hl : xs.length ≤ lim)
    (step : ∀ x ∈ xs, ∀ S', Kp [] S S' → ∃ δ', g.set x (wipeD δ own) = some δ' ∧ Ok (t δ' S') fun b S2 => Kp [] S' S2 ∧ if b = true then Ok (elt δ' S2) fun y S3 => Kp [] S' S3 ∧ F x = some y else F x = none)
    (done : ∀ S' c, Kp [] S S' → S.length ≤ c → S'[c]? = some (.lst (xs.filterMap F)) → P (.cell c) S') : Ok (dLc src g t elt own δ S) P := by
  obtain ⟨s, S1, hsrc, e, k0⟩ := hs.ex
  subst e
  have fm : ∀ i (h : i < xs.length), (xs.take (i + 1)).filterMap F = (xs.take i).filterMap F ++ (F xs[i]).toList := fun i h => by
    rw [List.take_succ, List.filterMap_append, List.getElem?_eq_getElem h]
    simp [List.filterMap_cons]
    cases F xs[i] <;> rfl
  refine ok_lc (s0 := s) (N := xs.length) (c := S1.length) (item := fun i => xs[i]?.getD .non) (fun i S' acc => Kp [] S S' ∧ S'[S1.length]? = some (.lst acc) ∧ acc = (xs.take i).filterMap F) ?_ (fun i S' acc h => hlen S' h.1) (fun i S' acc hi h => ?_) (fun i S' acc hi ⟨k, hc, ha⟩ => ?_) (fun S' acc ⟨k, hc, ha⟩ => ?_)
  · rw [hsrc]
    exact ⟨rfl, rfl, k0.push _, get_push _ _, rfl⟩
  · rw [hit S' i h.1 hi]
    simp [hi]
  · have e : xs[i]? = some xs[i] := List.getElem?_eq_getElem hi
    obtain ⟨δ', h1, h2⟩ := step xs[i] (List.getElem_mem hi) S' k
    refine ⟨δ', by simpa [e] using h1, Ok.imp h2 fun b S2 ⟨k2, h3⟩ => ?_⟩
    cases b with
    | false =>
      have h3' : F xs[i] = none := by simpa using h3
      refine ⟨k.trans k2, k2.get _ _ (by simp) hc, ?_⟩
      rw [fm i hi, h3', ha]
      simp
    | true =>
      simp only [if_true] at h3 ⊢
      refine Ok.imp h3 fun y S3 ⟨k3, h4⟩ => ?_
      refine ⟨k3.get _ _ (by simp) hc, ?_, (k.trans k3).set (.inl k0.le) _, get_set (k3.get _ _ (by simp) hc), ?_⟩
      · rw [ha]
        have a1 := List.length_filterMap_le F (xs.take i)
        have a2 : (xs.take i).length < xs.length := by
          rw [List.length_take]
          omega
        omega
      · rw [fm i hi, h4, ha]
        rfl
  · refine done S' _ k k0.le ?_
    rw [hc, ha, List.take_length]
theorem ok_lcT {xs : List D} {a : DE} (F : D → Option D) (hs : Ok (a δ S) fun d S1 => d = .tup xs ∧ Kp [] S S1) (hl : xs.length ≤ lim)
    (step : ∀ x ∈ xs, ∀ S', Kp [] S S' → ∃ δ', g.set x (wipeD δ own) = some δ' ∧ Ok (t δ' S') fun b S2 => Kp [] S' S2 ∧ if b = true then Ok (elt δ' S2) fun y S3 => Kp [] S' S3 ∧ F x = some y else F x = none)
    (done : ∀ S' c, Kp [] S S' → S.length ≤ c → S'[c]? = some (.lst (xs.filterMap F)) → P (.cell c) S') : Ok (dLc (srcT a) g t elt own δ S) P := by
  refine ok_lcP (s0 := .seq (.tup xs)) F ?_ (fun _ _ => rfl) (fun S' i k hi => ?_) hl step done
  · rw [o_srcT]
    refine Ok.imp hs fun d S1 ⟨e, h⟩ => ?_
    subst e
    exact ⟨rfl, rfl, h⟩
  · simp [Src.item]
theorem ok_lcL {xs : List D} {c0 : Nat} {a : DE} (F : D → Option D) (hs : Ok (a δ S) fun d S1 => d = .cell c0 ∧ Kp [] S S1) (hc : S[c0]? = some (.lst xs)) (hl : xs.length ≤ lim)
    (step : ∀ x ∈ xs, ∀ S', Kp [] S S' → ∃ δ', g.set x (wipeD δ own) = some δ' ∧ Ok (t δ' S') fun b S2 => Kp [] S' S2 ∧ if b = true then Ok (elt δ' S2) fun y S3 => Kp [] S' S3 ∧ F x = some y else F x = none)
    (done : ∀ S' c, Kp [] S S' → S.length ≤ c → S'[c]? = some (.lst (xs.filterMap F)) → P (.cell c) S') : Ok (dLc (srcL a) g t elt own δ S) P := by
  refine ok_lcP (s0 := .seq (.cell c0)) F ?_ (fun S' k => ?_) (fun S' i k hi => ?_) hl step done
  · rw [o_srcL]
    refine Ok.imp hs fun d S1 ⟨e, h⟩ => ?_
    subst e
    exact ⟨isL_cell (h.get _ _ (by simp) hc), rfl, h⟩
  · simp [Src.len, it_cell (k.get _ _ (by simp) hc)]
  · simp [Src.item, it_cell (k.get _ _ (by simp) hc)]
theorem ok_lcR {n : Nat} {a : DA} (F : D → Option D) (hn : n ≤ 100000) (hs : Ok (a δ S) fun d S1 => d = [.int (n : Nat)] ∧ Kp [] S S1)
    (step : ∀ i, i < n → ∀ S', Kp [] S S' → ∃ δ', g.set (.int (i : Nat)) (wipeD δ own) = some δ' ∧ Ok (t δ' S') fun b S2 => Kp [] S' S2 ∧ if b = true then Ok (elt δ' S2) fun y S3 => Kp [] S' S3 ∧ F (.int (i : Nat)) = some y else F (.int (i : Nat)) = none)
    (done : ∀ S' c, Kp [] S S' → S.length ≤ c → S'[c]? = some (.lst (((List.range n).map fun i => D.int (i : Nat)).filterMap F)) → P (.cell c) S') : Ok (dLc (rng1 a) g t elt own δ S) P := by
  refine ok_lcP (s0 := .rng 0 (n : Nat)) (xs := (List.range n).map fun i => D.int (i : Nat)) F ?_ (fun S' k => ?_) (fun S' i k hi => ?_) ?_ (fun x hx S' k => ?_) done
  · rw [o_rng1]
    refine Ok.imp hs fun d S1 ⟨e, h⟩ => ?_
    subst e
    exact ⟨_, rfl, inRng_of (by omega) (by omega), rfl, h⟩
  · simp [Src.len]
  · simp at hi
    simp [Src.item, hi]
  · simpa [lim_eq] using hn
  · obtain ⟨i, hi, rfl⟩ := List.mem_map.mp hx
    exact step i (List.mem_range.mp hi) S' k
theorem ok_lcET {xs : List D} {a : DA} (F : D → Option D) (hs : Ok (a δ S) fun d S1 => d = [.tup xs] ∧ Kp [] S S1) (hl : xs.length ≤ lim)
    (step : ∀ i x, xs[i]? = some x → ∀ S', Kp [] S S' → ∃ δ', g.set (.tup [.int (i : Nat), x]) (wipeD δ own) = some δ' ∧ Ok (t δ' S') fun b S2 => Kp [] S' S2 ∧ if b = true then Ok (elt δ' S2) fun y S3 => Kp [] S' S3 ∧ F (.tup [.int (i : Nat), x]) = some y else F (.tup [.int (i : Nat), x]) = none)
    (done : ∀ S' c, Kp [] S S' → S.length ≤ c → S'[c]? = some (.lst ((xs.mapIdx fun i x => D.tup [.int (i : Nat), x]).filterMap F)) → P (.cell c) S') : Ok (dLc (enT a) g t elt own δ S) P := by
  refine ok_lcP (s0 := .en (.tup xs)) (xs := xs.mapIdx fun i x => D.tup [.int (i : Nat), x]) F ?_ (fun S' k => ?_) (fun S' i k hi => ?_) ?_ (fun x hx S' k => ?_) done
  · rw [o_enT]
    refine Ok.imp hs fun d S1 ⟨e, h⟩ => ?_
    subst e
    exact ⟨_, rfl, rfl, rfl, h⟩
  · simp [Src.len]
  · simp [Src.item]
  · simpa using hl
  · obtain ⟨i, hi, rfl⟩ := List.mem_mapIdx.mp hx
    exact step i _ (List.getElem?_eq_getElem hi) S' k
end
end Dn
set_option Elab.async false
set_option linter.all false
set_option maxRecDepth 100000
set_option maxHeartbeats 1000000
/-! Lk1: values that can be read as data: ==, repr. -/
noncomputable section
namespace Dn
open PySem L2
/-- d reads as data now and later -/
def Rd (K : List Nat) (k w : Nat) (S : Sto) (d : D) : Prop := ∃ p : PyData, (∀ S', Kp K S S' → ∀ m, k < m → toPy m S' d = some p) ∧ p.canLay0 = true ∧ p.showable = true ∧ p.depth ≤ k ∧ p.weight ≤ w
section
variable {K : List Nat} {S S' : Sto} {k w : Nat}
theorem Rd.mono {d : D} (h : Rd K k w S d) (kp : Kp K S S') : Rd K k w S' d := by
  obtain ⟨p, h1, h2⟩ := h
  exact ⟨p, fun S2 k2 => h1 S2 (kp.trans k2), h2⟩
theorem Rd.le {d : D} {k' w' : Nat} (h : Rd K k w S d) (hk : k ≤ k') (hw : w ≤ w') : Rd K k' w' S d := by
  obtain ⟨p, h1, h2, h3, h4, h5⟩ := h
  exact ⟨p, fun S2 k2 m hm => h1 S2 k2 m (by omega), h2, h3, by omega, by omega⟩
theorem Rd.nil {d : D} (h : Rd K k w S d) : Rd [] k w S d := by
  obtain ⟨p, h1, h2⟩ := h
  exact ⟨p, fun S2 k2 => h1 S2 k2.of, h2⟩
theorem rd_non : Rd K k w S .non := ⟨.none, fun S2 _ m hm => by obtain ⟨m, rfl⟩ : ∃ j, m = j + 1 := ⟨m - 1, by omega⟩; rfl, rfl, rfl, Nat.zero_le _, Nat.zero_le _⟩
theorem rd_bl {b : Bool} : Rd K k w S (.bl b) := ⟨.bool b, fun S2 _ m hm => by obtain ⟨m, rfl⟩ : ∃ j, m = j + 1 := ⟨m - 1, by omega⟩; rfl, rfl, rfl, Nat.zero_le _, Nat.zero_le _⟩
theorem log2_le_of_lt {n b : Nat} (h : n < 2 ^ (b + 1)) : n.log2 ≤ b := by
  by_cases h0 : n = 0
  · subst h0
    simp
  · have := (Nat.log2_lt h0).mpr h
    omega
theorem rd_int {i : Int} {b : Nat} (h : i.natAbs < 2 ^ (b + 1)) (hb : b < 1920) (hw : b + 1 ≤ w) : Rd K k w S (.int i) := by
  have hl := log2_le_of_lt h
  refine ⟨.int i, fun S2 _ m hm => by obtain ⟨m, rfl⟩ : ∃ j, m = j + 1 := ⟨m - 1, by omega⟩; rfl, rfl, ?_, Nat.zero_le _, ?_⟩
  · simp only [PyData.showable, decide_eq_true_eq]
    omega
  · simp only [PyData.weight]
    split <;> omega
theorem rd_str {x : Str} (h : PyData.strOk x = true) (hw : x.cps.size ≤ w) : Rd K k w S (.str x) := by
  refine ⟨.str x, fun S2 _ m hm => by obtain ⟨m, rfl⟩ : ∃ j, m = j + 1 := ⟨m - 1, by omega⟩; rfl, ?_, rfl, Nat.zero_le _, hw⟩
  simpa only [PyData.canLay0] using h
theorem rd_all : ∀ {xs : List D}, (∀ x ∈ xs, Rd K k w S x) → ∃ ps : List PyData, (∀ S', Kp K S S' → ∀ m, k < m → allPy (toPy m S') xs = some ps) ∧ PyData.canLayAll0 ps = true ∧ PyData.showableAll ps = true ∧ PyData.depthAll ps ≤ k ∧ PyData.weightAll ps ≤ xs.length * (w + 1) ∧ ps.length = xs.length
  | [], _ => ⟨[], fun _ _ _ _ => rfl, rfl, rfl, Nat.zero_le _, Nat.zero_le _, rfl⟩
  | x :: xs, h => by
    obtain ⟨p, h1, h2, h3, h4, h5⟩ := h x List.mem_cons_self
    obtain ⟨ps, g1, g2, g3, g4, g5, g6⟩ := rd_all (xs := xs) fun y hy => h y (List.mem_cons_of_mem _ hy)
    refine ⟨p :: ps, fun S2 k2 m hm => ?_, ?_, ?_, ?_, ?_, by simp [g6]⟩
    · unfold allPy
      rw [h1 S2 k2 m hm, g1 S2 k2 m hm]
    · simp only [PyData.canLayAll0, h2, g2, Bool.and_self]
    · simp only [PyData.showableAll, h3, g3, Bool.and_self]
    · simp only [PyData.depthAll]
      omega
    · simp only [PyData.weightAll, List.length_cons, Nat.add_mul]
      omega
theorem rd_tup {xs : List D} (h : ∀ x ∈ xs, Rd K k w S x) {k' w' : Nat} (hk : k + 1 ≤ k') (hw : xs.length * (w + 1) ≤ w') : Rd K k' w' S (.tup xs) := by
  obtain ⟨ps, g1, g2, g3, g4, g5, g6⟩ := rd_all h
  refine Rd.le ⟨.tuple ps, fun S2 k2 m hm => ?_, ?_, ?_, ?_, ?_⟩ hk hw
  · obtain ⟨m, rfl⟩ : ∃ j, m = j + 1 := ⟨m - 1, by omega⟩
    show (allPy (toPy m S2) xs).map PyData.tuple = _
    rw [g1 S2 k2 m (by omega)]
    rfl
  · simpa only [PyData.canLay0] using g2
  · simpa only [PyData.showable] using g3
  · simp only [PyData.depth]
    omega
  · simpa only [PyData.weight] using g5
theorem rd_cell {c : Nat} {xs : List D} (hc : S[c]? = some (.lst xs)) (hn : c ∉ K) (h : ∀ x ∈ xs, Rd K k w S x) {k' w' : Nat} (hk : k + 1 ≤ k') (hw : xs.length * (w + 1) ≤ w') : Rd K k' w' S (.cell c) := by
  obtain ⟨ps, g1, g2, g3, g4, g5, g6⟩ := rd_all h
  refine Rd.le ⟨.list ps, fun S2 k2 m hm => ?_, ?_, ?_, ?_, ?_⟩ hk hw
  · obtain ⟨m, rfl⟩ : ∃ j, m = j + 1 := ⟨m - 1, by omega⟩
    unfold toPy
    simp only [k2.get _ _ hn hc, g1 S2 k2 m (by omega)]
    rfl
  · simpa only [PyData.canLay0] using g2
  · simpa only [PyData.showable] using g3
  · simp only [PyData.depth]
    omega
  · simpa only [PyData.weight] using g5
/-! ### == of lists with the empty one -/
theorem eqP_nil {neg : Bool} {c c2 : Nat} {xs : List D} (hc : S[c]? = some (.lst xs)) (h : ∀ x ∈ xs, Rd [] k w S x) (hk : k ≤ 50) (hc2 : S[c2]? = some (.lst [])) : opEqG neg (.cell c) (.cell c2) S = .ok (.bl (if neg then !xs.isEmpty else xs.isEmpty)) S := by
  obtain ⟨ps, g1, g2, g3, g4, g5, g6⟩ := rd_all h
  have e1 : toPy 60 S (.cell c) = some (.list ps) := by
    unfold toPy
    simp only [hc, g1 S (Kp.refl _ _) 59 (by omega)]
    rfl
  have e2 : toPy 60 S (.cell c2) = some (.list []) := by
    unfold toPy
    simp only [hc2]
    rfl
  show opEqP neg (.cell c) (.cell c2) S = _
  unfold opEqP
  have s1 : SeqAt.shaped (.list ps) = true := by
    have hd : PyData.depth (.list ps) ≤ 64 := by
      simp only [PyData.depth]
      omega
    have hl : PyData.canLay0 (.list ps) = true := by simpa only [PyData.canLay0] using g2
    unfold SeqAt.shaped
    rw [hl, decide_eq_true hd]
    rfl
  have s2 : SeqAt.shaped (.list []) = true := by decide
  have e3 : PyData.eqv (.list ps) (.list []) = xs.isEmpty := by
    cases xs with
    | nil =>
      cases ps with
      | nil => simp [PyData.eqv, PyData.eqvAll]
      | cons a b => simp at g6
    | cons x xs =>
      cases ps with
      | nil => simp at g6
      | cons a b => simp [PyData.eqv, PyData.eqvAll]
  simp only [e1, e2, s1, s2, e3, Bool.and_self, if_true]
theorem p_neNil {c c2 : Nat} {xs : List D} (hc : S[c]? = some (.lst xs)) (h : ∀ x ∈ xs, Rd [] k w S x) (hk : k ≤ 50) (hc2 : S[c2]? = some (.lst [])) : opNe (.cell c) (.cell c2) S = .ok (.bl (!xs.isEmpty)) S := eqP_nil (neg := true) hc h hk hc2
theorem p_eqNil {c c2 : Nat} {xs : List D} (hc : S[c]? = some (.lst xs)) (h : ∀ x ∈ xs, Rd [] k w S x) (hk : k ≤ 50) (hc2 : S[c2]? = some (.lst [])) : opEq (.cell c) (.cell c2) S = .ok (.bl xs.isEmpty) S := eqP_nil (neg := false) hc h hk hc2
/-! ### repr -/
mutual
theorem short_of : ∀ p : PyData, p.canLay0 = true → p.showable = true → p.intsShort 1921 = true
  | .none, _, _ => rfl
  | .bool _, _, _ => rfl
  | .str _, _, _ => rfl
  | .int i, _, h => by
    simp only [PyData.showable, decide_eq_true_eq] at h
    simp only [PyData.intsShort, decide_eq_true_eq]
    show (Str.ofString (toString i)).length ≤ 1921
    rw [ofString_length]
    exact int_text_length_le (k := 1920) (by decide) h
  | .list xs, h1, h2 => by
    simp only [PyData.canLay0] at h1
    simp only [PyData.showable] at h2
    simp only [PyData.intsShort]
    exact shortAll_of xs h1 h2
  | .tuple xs, h1, h2 => by
    simp only [PyData.canLay0] at h1
    simp only [PyData.showable] at h2
    simp only [PyData.intsShort]
    exact shortAll_of xs h1 h2
  | .dict _, h, _ => by simp [PyData.canLay0] at h
theorem shortAll_of : ∀ ps : List PyData, PyData.canLayAll0 ps = true → PyData.showableAll ps = true → PyData.intsShortAll 1921 ps = true
  | [], _, _ => rfl
  | p :: ps, h1, h2 => by
    simp only [PyData.canLayAll0, Bool.and_eq_true] at h1
    simp only [PyData.showableAll, Bool.and_eq_true] at h2
    simp only [PyData.intsShortAll, short_of p h1.1 h2.1, shortAll_of ps h1.2 h2.2, Bool.and_self]
end
theorem reprOk_of {p : PyData} (h1 : p.canLay0 = true) (h2 : p.showable = true) (h3 : p.depth ≤ 50) (h4 : p.weight ≤ 8000) : reprOk p = true := by
  unfold reprOk
  simp only [h2, PyData.leavesShort_of_canLay0 1921 p h1 (short_of p h1 h2), PyData.hasDict_of_canLay p h1, decide_eq_true h3, decide_eq_true h4, Bool.and_self, Bool.not_false]
theorem b_repr {d : D} (h : Rd K k w S d) (hk : k ≤ 50) (hw : w ≤ 8000) : ∃ p, (∀ S', Kp K S S' → toPy 60 S' d = some p) ∧ reprOk p = true ∧ ∀ S', Kp K S S' → bRepr [d] S' = .ok (.str p.shown) S' := by
  obtain ⟨p, h1, h2, h3, h4, h5⟩ := h
  have e := reprOk_of h2 h3 (by omega) (by omega)
  refine ⟨p, fun S' kp => h1 S' kp 60 (by omega), e, fun S' kp => ?_⟩
  unfold bRepr
  simp only [h1 S' kp 60 (by omega), e, if_true]
/-- the same reading, the same text -/
theorem toPy_succ_cell {S : Sto} {c : Nat} {xs : List D} (hc : S[c]? = some (.lst xs)) (n : Nat) : toPy (n + 1) S (.cell c) = (allPy (toPy n S) xs).map .list := by
  conv => lhs; unfold toPy
  simp only [hc]
end
end Dn
set_option Elab.async false
set_option linter.all false
set_option maxRecDepth 100000
set_option maxHeartbeats 2000000
/-! La_k84: k84's plain law, first part: the data, the small defs. -/
noncomputable section
namespace Dn
open PySem L2
/-! ### the data -/
abbrev Th := Nat × Bool
inductive Stp where
  | out (r : Nat) | inn (t : Th)
def mD (b : Bool) : D := .str (if b then "beside" else "alone")
def Th.d (t : Th) : D := .tup [.int (t.1 : Nat), mD t.2]
def thsD (l : List Th) : D := .tup (l.map Th.d)
def Stp.d : Stp → D
  | .out r => .tup [.str "out", .int (r : Nat)]
  | .inn t => .tup [.str "in", .int (t.1 : Nat), mD t.2]
def wayD (w : List Stp) : D := .tup (w.map Stp.d)
def roomD : D := .tup [.str "store", .non]
def houseD (R : Nat) (ws : List (List Stp)) : D := .tup [.tup (List.replicate R roomD), .tup (ws.map wayD)]
def pushT (l : List Th) : Stp → List Th
  | .out _ => l.dropLast
  | .inn t => l ++ [t]
def heldT (w : List Stp) (k : Nat) : List Th := (w.take k).foldl pushT []
def wishT : Stp → Option Th
  | .out _ => none
  | .inn t => some t
/-- every way out has something to leave -/
def Nest (w : List Stp) : Prop := ∀ (k r : Nat), w[k]? = some (.out r) → heldT w k ≠ []
theorem heldT_succ {w : List Stp} {k : Nat} {s : Stp} (h : w[k]? = some s) : heldT w (k + 1) = pushT (heldT w k) s := by
  unfold heldT
  rw [List.take_succ, h, Option.toList_some, List.foldl_append]
  rfl
@[simp] theorem s_out_in : decide (("out" : Str) = "in") = false := by decide +kernel
@[simp] theorem s_in_out : decide (("in" : Str) = "out") = false := by decide +kernel
@[simp] theorem s_store_door : decide (("store" : Str) = "door") = false := by decide +kernel
@[simp] theorem s_beside_alone : decide (("beside" : Str) = "alone") = false := by decide +kernel
@[simp] theorem s_alone_beside : decide (("alone" : Str) = "beside") = false := by decide +kernel
@[simp] theorem s_in_try : decide (("in" : Str) = "try") = false := by decide +kernel
@[simp] theorem s_out_try : decide (("out" : Str) = "try") = false := by decide +kernel
@[simp] theorem e_in_out : (("in" : Str) = "out") = False := eq_false (by decide +kernel)
@[simp] theorem e_store_door : (("store" : Str) = "door") = False := eq_false (by decide +kernel)
@[simp] theorem e_beside_alone : (("beside" : Str) = "alone") = False := eq_false (by decide +kernel)
@[simp] theorem e_alone_beside : (("alone" : Str) = "beside") = False := eq_false (by decide +kernel)
@[simp] theorem e_in_try : (("in" : Str) = "try") = False := eq_false (by decide +kernel)
@[simp] theorem e_out_try : (("out" : Str) = "try") = False := eq_false (by decide +kernel)
/-! ### the small defs -/
section
variable {S : Sto}
@[simp] theorem r_is_integer {d : D} : d_is_integer [d] S = .ok (.bl (isI d)) S := by
  have h : Ok (d_is_integer [d] S) fun r S' => r = .bl (isI d) ∧ S' = S := by
    cases d <;> simp [d_is_integer, b_is_integer, startD, isI, isB]
  obtain ⟨r, S', e, h1, h2⟩ := h.ex
  rw [e, h1, h2]
def whole (d : D) (n : Nat) : Bool := match d with
  | .int i => decide (0 ≤ i ∧ i < n)
  | _ => false
theorem eqOf {r : Res D} {d : D} {S : Sto} (h : Ok r fun r S' => r = d ∧ S' = S) : r = .ok d S := by
  obtain ⟨r, S', e, h1, h2⟩ := h.ex
  rw [e, h1, h2]
theorem r_is_within {d : D} {n : Nat} : d_is_within [d, .int 0, .int ((n : Int) - 1)] S = .ok (.bl (whole d n)) S := by
  refine eqOf ?_
  cases d with
  | int i =>
    simp only [d_is_within, b_is_within, startD, o_fn, o_ret, o_andV]
    simp [isI, whole]
    by_cases h : 0 ≤ i
    · have e : decide (i ≤ (n : Int) - 1) = decide (i < (n : Int)) := by
        apply decide_eq_decide.mpr
        omega
      simp [h, e]
    · simp [h]
      omega
  | _ =>
    simp [d_is_within, b_is_within, startD, isI, whole]
theorem r_law_is_whole {d : D} {n : Nat} : d_law_is_whole [d, .int (n : Nat)] S = .ok (.bl (whole d n)) S := by
  refine eqOf ?_
  cases d with
  | int i =>
    simp [d_law_is_whole, b_law_is_whole, startD, isI, isB, whole]
    by_cases h : 0 ≤ i
    · simp [h]
    · simp [h]
      omega
  | _ => simp [d_law_is_whole, b_law_is_whole, startD, isI, isB, whole]
theorem r_is_door {R r : Nat} {ws : List (List Stp)} (hr : r < R) : d_is_door [houseD R ws, .int (r : Nat)] S = .ok (.bl false) S := by
  refine eqOf ?_
  have e : (List.replicate R roomD)[r]? = some roomD := by simp [hr]
  simp [d_is_door, b_is_door, startD, houseD, p_ixT e]
  simp [roomD]
theorem mD_alone {b : Bool} : decide ((if b = true then ("beside" : Str) else "alone") = "alone") = !b := by
  cases b <;> simp
theorem r_clash {R : Nat} {ws : List (List Stp)} {t u : Th} (hr : t.1 < R) : d_clash [houseD R ws, t.d, u.d] S = .ok (.bl (decide (t.1 = u.1) && (!t.2 || !u.2))) S := by
  refine eqOf ?_
  simp [d_clash, b_clash, startD, Th.d, r_is_door hr, mD]
  rcases t with ⟨a, x⟩
  rcases u with ⟨b, y⟩
  by_cases h : a = b
  · subst h
    cases x <;> cases y <;> simp
  · have h2 : ¬ ((a : Int) = (b : Int)) := fun z => h (by omega)
    simp [h]
    exact Or.inl h2
theorem r_wish {w : List Stp} {k : Nat} {s : Stp} (h : w[k]? = some s) : d_wish [wayD w, .int (k : Nat)] S = .ok ((wishT s).elim .non Th.d) S := by
  refine eqOf ?_
  have e : (w.map Stp.d)[k]? = some s.d := by simp [h]
  simp [d_wish, b_wish, startD, wayD, p_ixT e]
  cases s with
  | out r => simp [Stp.d, wishT]
  | inn t => simp [Stp.d, wishT, Th.d, lim_eq]
end
end Dn
set_option Elab.async false
set_option linter.all false
set_option maxRecDepth 100000
set_option maxHeartbeats 2000000
/-! Lb_k84: held, entries, clashes, rank_at. -/
noncomputable section
namespace Dn
open PySem L2
section
variable {S : Sto}
@[simp] theorem set_tp {ts : List Tg} {ds : List D} {δ : En} : Tg.set (.tp ts) (.tup ds) δ = Tg.setAll ts ds δ := by simp [Tg.set]
@[simp] theorem set_nm {i : Nat} {d : D} {δ : En} : Tg.set (.nm i) d δ = some (δ.set i (some d)) := by simp [Tg.set]
@[simp] theorem setAll_nil {δ : En} : Tg.setAll [] [] δ = some δ := by simp [Tg.setAll]
@[simp] theorem setAll_cons {t : Tg} {ts : List Tg} {d : D} {ds : List D} {δ : En} : Tg.setAll (t :: ts) (d :: ds) δ = (t.set d δ).bind fun δ' => Tg.setAll ts ds δ' := by
  simp only [Tg.setAll]
  cases t.set d δ <;> rfl
theorem cut_to {xs : List D} {k : Nat} : cutD xs none (some (k : Nat)) = xs.take k := by
  unfold cutD
  rw [HT.sIx_nat, HT.sIx_none, Nat.sub_zero, List.drop_zero]
  rcases Nat.le_total k xs.length with h | h
  · rw [Nat.min_eq_left h]
  · rw [Nat.min_eq_right h, List.take_of_length_le (Nat.le_refl _), List.take_of_length_le h]
theorem heldT_len (w : List Stp) : ∀ j, (heldT w j).length ≤ j
  | 0 => by simp [heldT]
  | j + 1 => by
    have ih := heldT_len w j
    cases h : w[j]? with
    | none =>
      have e : heldT w (j + 1) = heldT w j := by
        unfold heldT
        rw [List.take_succ, h]
        simp
      rw [e]
      omega
    | some s =>
      rw [heldT_succ h]
      cases s with
      | out r =>
        simp [pushT]
        omega
      | inn t =>
        simp [pushT]
        omega
theorem r_held {w : List Stp} {k : Nat} (hn : Nest w) (hk : k ≤ w.length) (hw : w.length ≤ 1000) : Ok (d_held [wayD w, .int (k : Nat)] S) fun r S' => r = thsD (heldT w k) ∧ Kp [] S S' := by
  simp [d_held, b_held, startD, wayD, lim_eq]
  refine ok_forT (xs := (w.take k).map Stp.d) (fun i δ S' => Kp [] S S' ∧ (∃ v, δ = [some (wayD w), some (.int (k : Nat)), some (.cell S.length), v]) ∧ S'[S.length]? = some (.lst ((heldT w i).map Th.d))) ?_ ?_ ?_
  · simp [cut_to, wayD, List.map_take]
    exact ⟨Kp.app _ _ _, by simp [heldT]⟩
  · rintro i δ S' x hx ⟨kp, ⟨v, rfl⟩, hc⟩
    have hi : i < k := by
      have := (List.getElem?_eq_some_iff.mp hx).1
      simp at this
      omega
    obtain ⟨s, hs, rfl⟩ : ∃ s, w[i]? = some s ∧ x = s.d := by
      simp [List.getElem?_take, hi] at hx
      obtain ⟨s, h1, h2⟩ := hx
      exact ⟨s, h1, h2.symm⟩
    have e := heldT_succ hs
    have hl : (heldT w i).length ≤ i := heldT_len w i
    cases s with
    | out r =>
      have hne := hn i r hs
      obtain ⟨l, t, hlt⟩ : ∃ l t, heldT w i = l ++ [t] := ⟨(heldT w i).dropLast, (heldT w i).getLast hne, (List.dropLast_concat_getLast hne).symm⟩
      have hc' : S'[S.length]? = some (.lst (l.map Th.d ++ [t.d])) := by rw [hc, hlt]; simp
      simp [Stp.d, isL_cell hc', m_pop hc']
      refine ⟨kp.set (.inl (Nat.le_refl _)) _, ?_⟩
      rw [get_set hc', e, hlt]
      simp [pushT]
    | inn t =>
      simp [Stp.d, isL_cell hc, lim_eq, m_app (d := .tup [.int (t.1 : Nat), mD t.2]) hc (by simp [lim_eq]; omega)]
      refine ⟨kp.set (.inl (Nat.le_refl _)) _, ?_⟩
      rw [get_set hc, e]
      simp [pushT, Th.d]
  · rintro δ S' ⟨kp, ⟨v, rfl⟩, hc⟩
    simp [b_tupL hc, thsD, kp]
    congr 2
    omega
/-! ### entries -/
def isIn (w : List Stp) (i : Nat) : Bool := match w[i]? with
  | some (.inn _) => true
  | _ => false
def entF : D → Option D
  | .tup [i, .tup (.str x :: _)] => if x = "out" then none else some i
  | _ => none
theorem ent_list : ∀ w : List Stp, ((w.map Stp.d).mapIdx fun i x => D.tup [.int (i : Nat), x]).filterMap entF = ((List.range w.length).filter (isIn w)).map fun i => D.int (i : Nat) := by
  intro w
  have gen : ∀ (l : List Stp) (o : Nat), ((l.map Stp.d).mapIdx fun i x => D.tup [.int ((o + i : Nat) : Int), x]).filterMap entF = ((List.range l.length).filter (isIn l)).map fun i => D.int ((o + i : Nat) : Int) := by
    intro l
    induction l with
    | nil => intro o; rfl
    | cons s l ih =>
      intro o
      have e1 : (List.range (l.length + 1)).filter (isIn (s :: l)) = (if isIn (s :: l) 0 = true then [0] else []) ++ ((List.range l.length).filter (isIn l)).map (· + 1) := by
        have e3 : (isIn (s :: l) ∘ fun x => x + 1) = isIn l := by
          funext i
          simp [isIn]
        rw [List.range_succ_eq_map, List.filter_cons, List.filter_map]
        show (if isIn (s :: l) 0 = true then 0 :: _ else _) = _
        have e4 : (isIn (s :: l) ∘ Nat.succ) = isIn l := e3
        rw [e4]
        split <;> rfl
      have ih2 := ih (o + 1)
      have e2 : (fun (i : Nat) (x : D) => D.tup [.int ((o + (i + 1) : Nat) : Int), x]) = fun (i : Nat) (x : D) => D.tup [.int ((o + 1 + i : Nat) : Int), x] := by
        funext i x
        have : o + (i + 1) = o + 1 + i := by omega
        rw [this]
      have e5 : (fun (i : Nat) => D.int ((o + (i + 1) : Nat) : Int)) = fun (i : Nat) => D.int ((o + 1 + i : Nat) : Int) := by
        funext i
        have : o + (i + 1) = o + 1 + i := by omega
        rw [this]
      rw [List.map_cons, List.mapIdx_cons, List.length_cons, e1, List.map_append, List.map_map, List.filterMap_cons]
      have e6 : ((fun (i : Nat) => D.int ((o + i : Nat) : Int)) ∘ fun x => x + 1) = fun (i : Nat) => D.int ((o + 1 + i : Nat) : Int) := e5
      rw [e2, ih2, e6]
      cases s with
      | out r => simp [isIn, Stp.d, entF]
      | inn t => simp [isIn, Stp.d, entF]
  have := gen w 0
  simpa using this
theorem r_entries {w : List Stp} (hw : w.length ≤ 1000) : Ok (d_entries [wayD w] S) fun r S' => r = .tup (((List.range w.length).filter (isIn w)).map fun i => D.int (i : Nat)) ∧ Kp [] S S' := by
  simp [d_entries, b_entries, startD]
  refine ok_lcET (xs := w.map Stp.d) entF ?_ (by simp [lim_eq]; omega) ?_ ?_
  · simp [wayD, Kp.refl]
  · intro i x hx S' kp
    obtain ⟨s, hs, rfl⟩ : ∃ s, w[i]? = some s ∧ x = s.d := by
      simp at hx
      obtain ⟨s, h1, h2⟩ := hx
      exact ⟨s, h1, h2.symm⟩
    simp [wipeD]
    cases s with
    | out r => simp [Stp.d, Kp.refl, entF]
    | inn t => simp [Stp.d, Kp.refl, entF]
  · intro S' c kp hl hc
    rw [ent_list] at hc
    simp [b_tupL hc, kp]
/-! ### clashes -/
def meetsT (t : Th) (l : List Th) : Bool := l.any fun u => decide (t.1 = u.1) && (!t.2 || !u.2)
def clF (R : Nat) (t : Th) : D → Option D
  | .tup [.int a, .str m] => if decide ((t.1 : Int) = a) && (!t.2 || decide (m = "alone")) then some (.int 1) else none
  | _ => none
theorem clF_eq {R : Nat} {t u : Th} : clF R t u.d = if (decide (t.1 = u.1) && (!t.2 || !u.2)) = true then some (.int 1) else none := by
  rcases t with ⟨a, x⟩
  rcases u with ⟨b, y⟩
  have e : decide ((a : Int) = (b : Int)) = decide (a = b) := by
    apply decide_eq_decide.mpr
    omega
  cases y <;> simp [clF, Th.d, mD, e]
theorem clF_list {R : Nat} {t : Th} : ∀ l : List Th, ((l.map Th.d).filterMap (clF R t)).isEmpty = !meetsT t l
  | [] => rfl
  | u :: l => by
    have ih := clF_list (R := R) (t := t) l
    simp only [List.map_cons, List.filterMap_cons, clF_eq]
    unfold meetsT at ih ⊢
    rw [List.any_cons]
    cases h : (decide (t.1 = u.1) && (!t.2 || !u.2)) with
    | true => simp
    | false => simpa using ih
theorem clF_one {R : Nat} {t : Th} {l : List Th} : ∀ x ∈ (l.map Th.d).filterMap (clF R t), x = .int 1 := by
  intro x hx
  obtain ⟨a, h1, h2⟩ := List.mem_filterMap.mp hx
  obtain ⟨u, h3, rfl⟩ := List.mem_map.mp h1
  rw [clF_eq] at h2
  split at h2
  · exact (Option.some.inj h2).symm
  · cases h2
theorem r_does_clash {R : Nat} {ws : List (List Stp)} {t : Th} {l : List Th} (hr : t.1 < R) (hl : l.length ≤ 1000) : Ok (d_does_clash [houseD R ws, t.d, thsD l] S) fun r S' => r = .bl (meetsT t l) ∧ Kp [] S S' := by
  simp [d_does_clash, b_does_clash, startD]
  refine ok_lcT (xs := l.map Th.d) (clF R t) ?_ (by simp [lim_eq]; omega) ?_ ?_
  · simp [thsD, Kp.refl]
  · intro x hx S' kp
    obtain ⟨u, h3, rfl⟩ := List.mem_map.mp hx
    have hcl := r_clash (S := S') (ws := ws) (u := u) hr
    have hF := clF_eq (R := R) (t := t) (u := u)
    generalize (decide (t.1 = u.1) && (!t.2 || !u.2)) = b at hcl hF
    simp [wipeD, hcl, hF, Kp.refl]
  · intro S' c kp hlc hc
    have e := p_neNil (S := S' ++ [.lst []]) (k := 0) (w := 1) ((Kp.app [] S' [.lst []]).get _ _ (by simp) hc) (fun x hx => by rw [clF_one x hx]; exact rd_int (b := 0) (by decide) (by decide) (by decide)) (by decide) (get_push S' (.lst []))
    rw [clF_list] at e
    simp [e, kp.push]
def hitT (w : List Stp) (l : List Th) (k : Nat) : Bool := match w[k]? with
  | some (.inn t) => meetsT t l
  | _ => false
/-- the first place whose wish meets l -/
def entryT (w : List Stp) (l : List Th) : Option Nat := (List.range w.length).find? (hitT w l)
def natD : Option Nat → D
  | none => .non
  | some k => .int (k : Nat)
def InR (R : Nat) (w : List Stp) : Prop := ∀ t, Stp.inn t ∈ w → t.1 < R
theorem hit_isIn {w : List Stp} {l : List Th} : ∀ k, hitT w l k = (isIn w k && hitT w l k) := by
  intro k
  unfold hitT isIn
  cases h : w[k]? with
  | none => rfl
  | some s => cases s <;> rfl
theorem entry_filter {w : List Stp} {l : List Th} : ((List.range w.length).filter (isIn w)).find? (hitT w l) = entryT w l := by
  unfold entryT
  rw [List.find?_filter]
  congr
  funext k
  rw [hit_isIn k]
  cases isIn w k <;> simp
theorem r_barring {R h : Nat} {ws : List (List Stp)} {w : List Stp} {l : List Th} (hh : ws[h]? = some w) (hR : InR R w) (hw : w.length ≤ 1000) (hl : l.length ≤ 1000) :
    Ok (d_barring_place [houseD R ws, .int (h : Nat), thsD l] S) fun r S' => r = natD (entryT w l) ∧ Kp [] S S' := by
  have e1 : (ws.map wayD)[h]? = some (wayD w) := by simp [hh]
  simp [d_barring_place, b_barring_place, startD]
  simp [houseD, p_ixT e1]
  let es := (List.range w.length).filter (isIn w)
  refine ok_forT (xs := es.map fun i => D.int (i : Nat)) (fun i δ S' => Kp [] S S' ∧ (∃ v, δ = [some (houseD R ws), some (.int (h : Nat)), some (thsD l), some (wayD w), v]) ∧ (es.take i).find? (hitT w l) = none) ?_ ?_ ?_
  · simp
    exact Ok.imp (r_entries hw) fun r S' ⟨h1, h2⟩ => ⟨h1, h2, rfl⟩
  · rintro i δ S' x hx ⟨kp, ⟨v, rfl⟩, hf⟩
    obtain ⟨k, hk, rfl⟩ : ∃ k, es[i]? = some k ∧ x = .int (k : Nat) := by
      simp at hx
      obtain ⟨s, h1, h2⟩ := hx
      exact ⟨s, h1, h2.symm⟩
    have hin : isIn w k = true := (List.mem_filter.mp (List.mem_of_getElem? hk)).2
    obtain ⟨t, ht⟩ : ∃ t, w[k]? = some (.inn t) := by
      unfold isIn at hin
      cases q : w[k]? with
      | none => rw [q] at hin; cases hin
      | some s =>
        cases s with
        | out r => rw [q] at hin; cases hin
        | inn t => exact ⟨t, rfl⟩
    have hit : hitT w l k = meetsT t l := by simp [hitT, ht]
    have tk : (es.take (i + 1)).find? (hitT w l) = (if hitT w l k = true then some k else none) := by
      rw [List.take_succ, hk, List.find?_append, hf]
      simp [List.find?_cons]
      cases hitT w l k <;> rfl
    simp [r_wish ht, wishT]
    refine Ok.imp (r_does_clash (hR t (List.mem_of_getElem? ht)) hl) ?_
    rintro r S2 ⟨rfl, kp2⟩
    simp
    cases hm : meetsT t l with
    | true =>
      simp
      refine ⟨?_, kp.trans kp2⟩
      rw [← entry_filter]
      have e2 : es.find? (hitT w l) = some k := by
        have := List.take_append_drop (i + 1) es
        rw [← this, List.find?_append, tk, hit, hm]
        rfl
      show D.int _ = natD (es.find? (hitT w l))
      rw [e2]
      rfl
    | false =>
      simp
      refine ⟨kp.trans kp2, ?_⟩
      rw [hit, hm] at tk
      simpa using tk
  · rintro δ S' ⟨kp, ⟨v, rfl⟩, hf⟩
    simp
    refine ⟨?_, kp⟩
    rw [← entry_filter]
    have e2 : es.find? (hitT w l) = none := by
      have : es.take es.length = es := List.take_length
      rw [← this]
      simpa using hf
    show D.non = natD (es.find? (hitT w l))
    rw [e2]
    rfl
end
end Dn
set_option Elab.async false
set_option linter.all false
set_option maxRecDepth 100000
set_option maxHeartbeats 2000000
/-! Lc_k84: the law's own meets, entry, rank_at; the program's rank_at. -/
noncomputable section
namespace Dn
open PySem L2
structure HOk (R : Nat) (ws : List (List Stp)) : Prop where
  r1 : 1 ≤ R
  r5 : R ≤ 5
  w1 : 1 ≤ ws.length
  w5 : ws.length ≤ 5
  nest : ∀ w ∈ ws, Nest w
  inr : ∀ w ∈ ws, InR R w
  len1 : ∀ w ∈ ws, 1 ≤ w.length
  len : ∀ w ∈ ws, w.length ≤ 24
  outr : ∀ w ∈ ws, ∀ r, Stp.out r ∈ w → r < R
abbrev Cap := Option Int × Option Int
def oD : Option Int → D
  | none => .non
  | some i => .int i
def capD (p : Cap) : D := .tup [oD p.1, oD p.2]
def raisedD (l : List Cap) : D := .tup (l.map capD)
def ranksD (l : List Int) : D := .tup (l.map D.int)
def capOf (ra : List Cap) (t : Th) : Option Int := match ra[t.1]? with
  | some p => if t.2 then p.2 else p.1
  | none => none
def RowsOk (w : List Stp) (rs : List D) : Prop := rs.length = w.length ∧ ∀ (k : Nat) (s : Stp), w[k]? = some s → ∃ z : Int, rs[k]? = some (D.tup [thsD (heldT w k), (wishT s).elim .non Th.d, .bl false, .int z])
/-- the plan of the ways stands at p -/
structure PlanAt (K : List Nat) (S : Sto) (p : Nat) (ws : List (List Stp)) (cs : List Nat) : Prop where
  pn : p ∉ K
  pc : S[p]? = some (.lst (cs.map D.cell))
  len : cs.length = ws.length
  row : ∀ (i c : Nat) (w : List Stp), cs[i]? = some c → ws[i]? = some w → c ∉ K ∧ ∃ rs, S[c]? = some (C.lst rs) ∧ RowsOk w rs
theorem map_get {α β : Type} {f : α → β} {l : List α} {i : Nat} {x : β} (h : (l.map f)[i]? = some x) : ∃ a, l[i]? = some a ∧ x = f a := by
  rw [List.getElem?_map] at h
  obtain ⟨a, h1, h2⟩ := Option.map_eq_some_iff.mp h
  exact ⟨a, h1, h2.symm⟩
section
variable {S S' : Sto} {K : List Nat}
theorem PlanAt.mono {p : Nat} {ws : List (List Stp)} {cs : List Nat} (h : PlanAt K S p ws cs) (k : Kp K S S') : PlanAt K S' p ws cs :=
  ⟨h.pn, k.get _ _ h.pn h.pc, h.len, fun i c w h1 h2 => let ⟨a, rs, b, r⟩ := h.row i c w h1 h2; ⟨a, rs, k.get _ _ a b, r⟩⟩
theorem PlanAt.nil {p : Nat} {ws : List (List Stp)} {cs : List Nat} (h : PlanAt K S p ws cs) : PlanAt [] S p ws cs :=
  ⟨by simp, h.pc, h.len, fun i c w h1 h2 => let ⟨a, rs, b, r⟩ := h.row i c w h1 h2; ⟨by simp, rs, b, r⟩⟩
theorem PlanAt.get {p : Nat} {ws : List (List Stp)} {cs : List Nat} {i : Nat} {w : List Stp} (h : PlanAt K S p ws cs) (hw : ws[i]? = some w) : ∃ c rs, cs[i]? = some c ∧ c ∉ K ∧ S[c]? = some (.lst rs) ∧ RowsOk w rs := by
  have hi : i < cs.length := by
    rw [h.len]
    exact (List.getElem?_eq_some_iff.mp hw).1
  obtain ⟨a, rs, b, r⟩ := h.row i cs[i] w (List.getElem?_eq_getElem hi) hw
  exact ⟨_, rs, List.getElem?_eq_getElem hi, a, b, r⟩
theorem PlanAt.ix {p : Nat} {ws : List (List Stp)} {cs : List Nat} {i c : Nat} (h : PlanAt K S p ws cs) (hc : cs[i]? = some c) : opIx (.cell p) (.int (i : Nat)) S = .ok (.cell c) S :=
  p_ixL h.pc (by simp [hc])
theorem PlanAt.len' {p : Nat} {ws : List (List Stp)} {cs : List Nat} (h : PlanAt K S p ws cs) : bLen [.cell p] S = .ok (.int ws.length) S := by
  rw [b_lenL h.pc]
  simp [h.len]
/-! ### the law's meets -/
theorem r_law_meets {R : Nat} {ws : List (List Stp)} {t : Th} {l : List Th} (hl : ∀ u ∈ l, u.1 < R) : d_law_meets [houseD R ws, t.d, thsD l] S = .ok (.bl (meetsT t l)) S := by
  refine eqOf ?_
  simp [d_law_meets, b_law_meets, startD]
  refine ok_forT (xs := l.map Th.d) (fun i δ S' => S' = S ∧ (∃ v v', δ = [some (houseD R ws), some t.d, some (thsD l), v, v']) ∧ meetsT t (l.take i) = false) ?_ ?_ ?_
  · simp [thsD, meetsT]
  · rintro i δ S' x hx ⟨rfl, ⟨v, v', rfl⟩, hm⟩
    obtain ⟨u, hu, rfl⟩ := map_get hx
    have hr := hl u (List.mem_of_getElem? hu)
    have e : (List.replicate R roomD)[u.1]? = some roomD := by simp [hr]
    have tk : meetsT t (l.take (i + 1)) = (decide (t.1 = u.1) && (!t.2 || !u.2)) := by
      unfold meetsT at hm ⊢
      rw [List.take_succ, hu, List.any_append, hm]
      simp
    have whole : (decide (t.1 = u.1) && (!t.2 || !u.2)) = true → meetsT t l = true := fun z => by
      unfold meetsT
      rw [List.any_eq_true]
      exact ⟨u, List.mem_of_getElem? hu, z⟩
    rcases t with ⟨a, x⟩
    rcases u with ⟨b, y⟩
    simp only [Th.d, set_tp, setAll_cons, set_nm, setAll_nil]
    simp [houseD, p_ixT e]
    by_cases h : b = a
    · subst h
      simp [roomD, mD]
      cases x <;> cases y <;> simp_all
    · have h2 : ¬ ((b : Int) = (a : Int)) := fun z => h (by omega)
      have h3 : ¬ (a = b) := fun z => h z.symm
      simp [h2, h3] at tk ⊢
      exact tk
  · rintro δ S' ⟨rfl, ⟨v, v', rfl⟩, hm⟩
    simp at hm
    simp [hm]
theorem heldT_mem {w : List Stp} : ∀ (k : Nat) (t : Th), t ∈ heldT w k → Stp.inn t ∈ w
  | 0, t, h => by simp [heldT] at h
  | k + 1, t, h => by
    cases q : w[k]? with
    | none =>
      have e : heldT w (k + 1) = heldT w k := by
        unfold heldT
        rw [List.take_succ, q]
        simp
      rw [e] at h
      exact heldT_mem k t h
    | some s =>
      rw [heldT_succ q] at h
      cases s with
      | out r => exact heldT_mem k t ((List.dropLast_sublist _).subset h)
      | inn u =>
        rcases List.mem_append.mp h with h | h
        · exact heldT_mem k t h
        · rw [List.mem_singleton.mp h]
          exact List.mem_of_getElem? q
/-! ### the law's entry -/
theorem r_law_entry {R h p : Nat} {ws : List (List Stp)} {cs : List Nat} {w : List Stp} {l : List Th} (P : PlanAt K S p ws cs) (hh : ws[h]? = some w) (hl : ∀ u ∈ l, u.1 < R) :
    d_law_entry [houseD R ws, .cell p, .int (h : Nat), thsD l] S = .ok (natD (entryT w l)) S := by
  refine eqOf ?_
  obtain ⟨c, rs, h1, _, h2, h3, h4⟩ := P.get hh
  simp [d_law_entry, b_law_entry, startD]
  refine ok_forEL (xs := rs) (c := c) (fun i δ S' => S' = S ∧ (∃ v4 v5 v6 v7 v8, δ = [some (houseD R ws), some (.cell p), some (.int (h : Nat)), some (thsD l), v4, v5, v6, v7, v8]) ∧ (List.range (min i w.length)).find? (hitT w l) = none) ?_ (fun i δ S' h => by rw [h.1]; exact h2) ?_ ?_
  · simp [P.ix h1]
  · rintro i δ S' x hx ⟨rfl, ⟨v4, v5, v6, v7, v8, rfl⟩, hm⟩
    have hi : i < w.length := by
      rw [← h3]
      exact (List.getElem?_eq_some_iff.mp hx).1
    obtain ⟨s, hs⟩ : ∃ s, w[i]? = some s := ⟨_, List.getElem?_eq_getElem hi⟩
    obtain ⟨z, hz⟩ := h4 i s hs
    rw [hx] at hz
    cases hz
    have tk : (List.range (min (i + 1) w.length)).find? (hitT w l) = if hitT w l i = true then some i else none := by
      rw [Nat.min_eq_left (by omega)] at hm
      rw [Nat.min_eq_left (by omega), List.range_succ, List.find?_append, hm]
      simp [List.find?_cons]
      cases hitT w l i <;> rfl
    simp only [set_tp, setAll_cons, set_nm, setAll_nil]
    cases s with
    | out r =>
      have hf : hitT w l i = false := by simp [hitT, hs]
      rw [hf] at tk
      simp [wishT]
      simpa using tk
    | inn t =>
      have hf : hitT w l i = meetsT t l := by simp [hitT, hs]
      rw [hf] at tk
      have hne : isNon t.d = false := rfl
      simp [wishT, r_law_meets hl, hne]
      cases hm2 : meetsT t l with
      | false =>
        rw [hm2] at tk
        simpa using tk
      | true =>
        rw [hm2] at tk
        have e : entryT w l = some i := by
          unfold entryT
          have e1 : w.length = (i + 1) + (w.length - (i + 1)) := by omega
          rw [e1, List.range_add, List.find?_append]
          rw [Nat.min_eq_left (by omega)] at tk
          rw [tk]
          rfl
        simp [e, natD]
  · rintro δ S' ⟨rfl, ⟨v4, v5, v6, v7, v8, rfl⟩, hm⟩
    rw [h3, Nat.min_self] at hm
    have e : entryT w l = none := hm
    simp [e, natD]
/-! ### ranks with ceilings -/
def unF : D → Option D
  | .non => none
  | d => some d
theorem unF_list : ∀ l : List (Option Int), (l.map oD).filterMap unF = (l.filterMap id).map D.int
  | [] => rfl
  | none :: l => by
    simp only [List.map_cons, List.filterMap_cons, oD, unF, id, unF_list l]
  | some i :: l => by
    simp only [List.map_cons, List.filterMap_cons, oD, unF, id, unF_list l]
theorem r_raised_to {ra : List Cap} {l : List Th} (hl : ∀ u ∈ l, u.1 < ra.length) (hn : l.length ≤ 1000) : Ok (d_raised_to [raisedD ra, thsD l] S) fun r S' => Kp [] S S' ∧ ∃ c, r = .cell c ∧ S'[c]? = some (.lst ((l.filterMap (capOf ra)).map D.int)) := by
  have cap : ∀ u ∈ l, ∃ p, ra[u.1]? = some p := fun u hu => ⟨_, List.getElem?_eq_getElem (hl u hu)⟩
  simp [d_raised_to, b_raised_to, startD]
  refine ok_lcT (xs := l.map Th.d) (fun x => (l.find? fun _ => true).bind fun _ => match x with | .tup [.int a, .str m] => (ra[a.toNat]?).map fun p => if m = "alone" then oD p.1 else oD p.2 | _ => none) ?_ (by simp [lim_eq]; omega) ?_ ?_
  · simp [thsD, Kp.refl]
  · intro x hx S' kp
    obtain ⟨u, hu, rfl⟩ := List.mem_map.mp hx
    obtain ⟨p, hp⟩ := cap u hu
    have e1 : (ra.map capD)[u.1]? = some (capD p) := by simp [hp]
    have hne : l.find? (fun _ => true) ≠ none := fun z => by
      rw [List.find?_eq_none] at z
      exact z u hu rfl
    obtain ⟨u0, hu0⟩ := Option.ne_none_iff_exists'.mp hne
    rcases u with ⟨b, y⟩
    simp only [Th.d, set_tp, setAll_cons, set_nm, setAll_nil]
    simp [wipeD, raisedD, p_ixT e1, Kp.refl]
    cases y <;> simp [mD, ixStr, capD, hp, hu0, Kp.refl]
  · intro S' c kp hlc hc
    have e : (l.map Th.d).filterMap (fun x => (l.find? fun _ => true).bind fun _ => match x with | .tup [.int a, .str m] => (ra[a.toNat]?).map fun p => if m = "alone" then oD p.1 else oD p.2 | _ => none) = (l.map (capOf ra)).map oD := by
      cases l with
      | nil => rfl
      | cons u0 l0 =>
        have : ∀ m : List Th, (∀ u ∈ m, ∃ p, ra[u.1]? = some p) → (m.map Th.d).filterMap (fun x => ((u0 :: l0).find? fun _ => true).bind fun _ => match x with | .tup [.int a, .str m] => (ra[a.toNat]?).map fun p => if m = "alone" then oD p.1 else oD p.2 | _ => none) = (m.map (capOf ra)).map oD := by
          intro m
          induction m with
          | nil => intro _; rfl
          | cons u m ih =>
            intro h
            obtain ⟨p, hp⟩ := h u List.mem_cons_self
            have ih2 := ih fun v hv => h v (List.mem_cons_of_mem _ hv)
            rw [List.map_cons, List.filterMap_cons, ih2]
            rcases u with ⟨b, y⟩
            simp only at hp
            cases y <;> simp [Th.d, mD, hp, capOf]
        exact this _ cap
    rw [e] at hc
    refine ok_lcL (xs := (l.map (capOf ra)).map oD) (c0 := c) unF ?_ hc (by simp [lim_eq]; omega) ?_ ?_
    · simp [Kp.refl]
    · intro x hx S2 kp2
      obtain ⟨o, ho, rfl⟩ := List.mem_map.mp hx
      cases o <;> simp [wipeD, oD, unF, Kp.refl]
    · intro S2 c2 kp2 hl2 hc2
      rw [unF_list] at hc2
      refine ⟨kp.trans kp2, c2, rfl, ?_⟩
      rw [hc2]
      simp [List.filterMap_map]
/-- the rank that a hand runs at -/
def rankT (q : Int) (ra : List Cap) (l : List Th) : Int := maxI (q :: l.filterMap (capOf ra))
theorem r_rank_at {R h k : Nat} {ws : List (List Stp)} {w : List Stp} {ra : List Cap} {rk : List Int} {q : Int} (H : HOk R ws) (hra : ra.length = R) (hh : ws[h]? = some w) (hq : rk[h]? = some q) (hk : k < w.length) :
    Ok (d_rank_at [houseD R ws, ranksD rk, raisedD ra, .int (h : Nat), .int (k : Nat)] S) fun r S' => r = .int (rankT q ra (heldT w k)) ∧ Kp [] S S' := by
  have hw := List.mem_of_getElem? hh
  have e1 : (ws.map wayD)[h]? = some (wayD w) := by simp [hh]
  have e2 : (rk.map D.int)[h]? = some (.int q) := by simp [hq]
  have hlen := H.len w hw
  simp [d_rank_at, b_rank_at, startD]
  simp [houseD, p_ixT e1]
  refine Ok.imp (r_held (H.nest w hw) (by omega) (by omega)) ?_
  rintro r S1 ⟨rfl, kp1⟩
  simp [ranksD, p_ixT e2, lim_eq]
  have hin : ∀ u ∈ heldT w k, u.1 < ra.length := fun u hu => by
    rw [hra]
    exact H.inr w hw u (heldT_mem k u hu)
  have hl := heldT_len w k
  refine Ok.imp (r_raised_to hin (by omega)) ?_
  rintro r S2 ⟨kp2, c, rfl, hc⟩
  have hc0 : S2[S1.length]? = some (.lst [.int q]) := kp2.get _ _ (by simp) (get_push S1 _)
  have hfl := List.length_filterMap_le (capOf ra) (heldT w k)
  rw [p_addL hc0 hc]
  simp [lim_eq]
  refine ⟨by omega, ?_⟩
  have e3 : (S2 ++ [C.lst (.int q :: (List.filterMap (capOf ra) (heldT w k)).map D.int)])[S2.length]? = some (.lst ((q :: List.filterMap (capOf ra) (heldT w k)).map D.int)) := by simp
  rw [b_maxL e3]
  exact ⟨rfl, (kp1.trans ((Kp.app _ _ _).trans kp2)).push _⟩
theorem r_law_told {ra : List Cap} {t : Th} (ht : t.1 < ra.length) : d_law_told_by [raisedD ra, t.d] S = .ok (oD (capOf ra t)) S := by
  refine eqOf ?_
  have hp : ra[t.1]? = some ra[t.1] := List.getElem?_eq_getElem ht
  have e1 : (ra.map capD)[t.1]? = some (capD ra[t.1]) := by simp [hp]
  rcases t with ⟨b, y⟩
  simp [d_law_told_by, b_law_told_by, startD, Th.d, raisedD, p_ixT e1]
  cases y <;> simp [mD, capD, capOf, hp]
theorem r_law_rank_at {R h k p : Nat} {ws : List (List Stp)} {cs : List Nat} {w : List Stp} {ra : List Cap} {rk : List Int} {q : Int} (H : HOk R ws) (P : PlanAt K S p ws cs) (hra : ra.length = R) (hh : ws[h]? = some w) (hq : rk[h]? = some q) (hk : k < w.length) :
    Ok (d_law_rank_at [.cell p, ranksD rk, raisedD ra, .int (h : Nat), .int (k : Nat)] S) fun r S' => r = .int (rankT q ra (heldT w k)) ∧ Kp [] S S' := by
  have hw := List.mem_of_getElem? hh
  have hlen := H.len w hw
  obtain ⟨c, rs, h1, _, h2, h3, h4⟩ := P.get hh
  obtain ⟨s, hs⟩ : ∃ s, w[k]? = some s := ⟨_, List.getElem?_eq_getElem hk⟩
  obtain ⟨z, hz⟩ := h4 k s hs
  have e2 : (rk.map D.int)[h]? = some (.int q) := by simp [hq]
  have hin : ∀ u ∈ heldT w k, u.1 < ra.length := fun u hu => by
    rw [hra]
    exact H.inr w hw u (heldT_mem k u hu)
  have hl := heldT_len w k
  simp [d_law_rank_at, b_law_rank_at, startD]
  refine ok_lcT (xs := (heldT w k).map Th.d) (fun x => match x with | .tup [.int a, .str m] => some (oD (capOf ra (a.toNat, decide (m = "beside")))) | _ => none) ?_ (by simp [lim_eq]; omega) ?_ ?_
  · simp [P.ix h1, p_ixL h2 hz, thsD, Kp.refl]
  · intro x hx S' kp
    obtain ⟨u, hu, rfl⟩ := List.mem_map.mp hx
    simp [wipeD, r_law_told (hin u hu), Kp.refl]
    rcases u with ⟨b, y⟩
    cases y <;> simp [Th.d, mD]
  · intro S1 c1 kp1 hl1 hc1
    have e : ((heldT w k).map Th.d).filterMap (fun x => match x with | .tup [.int a, .str m] => some (oD (capOf ra (a.toNat, decide (m = "beside")))) | _ => none) = ((heldT w k).map (capOf ra)).map oD := by
      induction heldT w k with
      | nil => rfl
      | cons u m ih =>
        rw [List.map_cons, List.filterMap_cons, ih]
        rcases u with ⟨b, y⟩
        cases y <;> simp [Th.d, mD]
    rw [e] at hc1
    simp [ranksD, p_ixT e2, lim_eq]
    have hc1' : (S1 ++ [C.lst [.int q]])[c1]? = some (.lst (((heldT w k).map (capOf ra)).map oD)) := (Kp.app [] S1 _).get _ _ (by simp) hc1
    refine ok_lcL (xs := ((heldT w k).map (capOf ra)).map oD) (c0 := c1) unF ?_ hc1' (by simp [lim_eq]; omega) ?_ ?_
    · simp [Kp.refl]
    · intro x hx S2 kp2
      obtain ⟨o, ho, rfl⟩ := List.mem_map.mp hx
      cases o <;> simp [wipeD, oD, unF, Kp.refl]
    · intro S2 c2 kp2 hl2 hc2
      rw [unF_list] at hc2
      have hc0 : S2[S1.length]? = some (.lst [.int q]) := kp2.get _ _ (by simp) (get_push S1 _)
      have e4 : ((heldT w k).map (capOf ra)).filterMap id = (heldT w k).filterMap (capOf ra) := by simp [List.filterMap_map]
      rw [e4] at hc2
      have hfl := List.length_filterMap_le (capOf ra) (heldT w k)
      rw [p_addL hc0 hc2]
      simp [lim_eq]
      refine ⟨by omega, ?_⟩
      have e3 : (S2 ++ [C.lst (.int q :: (List.filterMap (capOf ra) (heldT w k)).map D.int)])[S2.length]? = some (.lst ((q :: List.filterMap (capOf ra) (heldT w k)).map D.int)) := by simp
      rw [b_maxL e3]
      exact ⟨rfl, (kp1.trans ((Kp.app _ _ _).trans kp2)).push _⟩
end
end Dn
set_option Elab.async false
set_option linter.all false
set_option maxRecDepth 100000
set_option maxHeartbeats 2000000
/-! Ld_k84: the breach's form, the errors, the longest wait. -/
noncomputable section
namespace Dn
open PySem L2
section
variable {S S' : Sto} {K : List Nat}
theorem ok_forT2 {δ : En} {Q : Po} {g : Tg} {body : DS} {x y : D} {a : DE}
    (hs : Ok (a δ S) fun d S1 => d = .tup [x, y] ∧ ∃ δ1, g.set x δ = some δ1 ∧ OkS (body δ1 S1) ⟨fun δ2 S2 => ∃ δ3, g.set y δ2 = some δ3 ∧ OkS (body δ3 S2) ⟨Q.nx, Q.rt, Q.nx, Q.nx⟩, Q.rt, Q.nx, fun δ2 S2 => ∃ δ3, g.set y δ2 = some δ3 ∧ OkS (body δ3 S2) ⟨Q.nx, Q.rt, Q.nx, Q.nx⟩⟩) : OkS (dFor (srcT a) g body δ S) Q := by
  obtain ⟨d, S1, e, rfl, δ1, h1, h2⟩ := hs.ex
  refine ok_forT (xs := [x, y]) (fun i δ' S' => match i with
    | 0 => δ' = δ ∧ S' = S1
    | 1 => ∃ δ3, g.set y δ' = some δ3 ∧ OkS (body δ3 S') ⟨Q.nx, Q.rt, Q.nx, Q.nx⟩
    | _ => Q.nx δ' S') ?_ ?_ ?_
  · rw [e]
    exact ⟨rfl, rfl, rfl⟩
  · intro i δ' S' z hz hI
    match i, hz, hI with
    | 0, hz, ⟨e1, e2⟩ =>
      subst e1 e2
      cases hz
      exact ⟨δ1, h1, h2⟩
    | 1, hz, ⟨δ3, h3, h4⟩ =>
      cases hz
      exact ⟨δ3, h3, h4⟩
    | i + 2, hz, _ => simp at hz
  · intro δ' S' h
    exact h
def wN (d : D) (n : Nat) : Option Nat := match d with
  | .int i => if 0 ≤ i ∧ i < n then some i.toNat else none
  | _ => none
theorem whole_wN {d : D} {n : Nat} : whole d n = (wN d n).isSome := by
  cases d with
  | int i =>
    unfold whole wN
    by_cases h : 0 ≤ i ∧ i < (n : Int)
    · simp [h]
    · simp only [h, if_false]
      simp [decide_eq_false h]
  | _ => rfl
theorem wN_some {d : D} {n k : Nat} (h : wN d n = some k) : d = .int (k : Nat) ∧ k < n := by
  unfold wN at h
  split at h
  · rename_i i
    split at h
    · rename_i hi
      cases h
      exact ⟨by rw [Int.toNat_of_nonneg hi.1], by omega⟩
    · cases h
  · cases h
def natsOf (ws : List (List Stp)) (v : D) : Option (Nat × Nat × Nat × Nat) := match v with
  | .tup [a, b, c, e] => (wN a ws.length).bind fun l => (wN c ws.length).bind fun h => if l = h then none else (ws[l]?).bind fun wl => (ws[h]?).bind fun wh => (wN b wl.length).bind fun p => (wN e wh.length).bind fun n => some (l, p, h, n)
  | _ => none
theorem natsOf_some {ws : List (List Stp)} {v : D} {l p h n : Nat} (q : natsOf ws v = some (l, p, h, n)) :
    v = .tup [.int (l : Nat), .int (p : Nat), .int (h : Nat), .int (n : Nat)] ∧ l ≠ h ∧ ∃ wl wh, ws[l]? = some wl ∧ ws[h]? = some wh ∧ p < wl.length ∧ n < wh.length := by
  unfold natsOf at q
  split at q
  · rename_i a b c e
    obtain ⟨l', e1, q⟩ := Option.bind_eq_some_iff.mp q
    obtain ⟨h', e2, q⟩ := Option.bind_eq_some_iff.mp q
    split at q
    · cases q
    · rename_i hne
      obtain ⟨wl, e3, q⟩ := Option.bind_eq_some_iff.mp q
      obtain ⟨wh, e4, q⟩ := Option.bind_eq_some_iff.mp q
      obtain ⟨p', e5, q⟩ := Option.bind_eq_some_iff.mp q
      obtain ⟨n', e6, q⟩ := Option.bind_eq_some_iff.mp q
      cases q
      obtain ⟨rfl, h1⟩ := wN_some e1
      obtain ⟨rfl, h2⟩ := wN_some e2
      obtain ⟨rfl, h3⟩ := wN_some e5
      obtain ⟨rfl, h4⟩ := wN_some e6
      exact ⟨rfl, hne, wl, wh, e3, e4, h3, h4⟩
  · cases q
theorem tup4 {v : D} (h : ∀ a b c e, v ≠ .tup [a, b, c, e]) : isT v = false ∨ ∃ xs, v = .tup xs ∧ xs.length ≠ 4 := by
  cases v with
  | tup xs =>
    refine .inr ⟨xs, rfl, fun hl => ?_⟩
    match xs, hl with
    | [a, b, c, e], _ => exact h a b c e rfl
  | _ => exact .inl rfl
theorem cut2a {a b c e : D} : cutD [a, b, c, e] none (some 2) = [a, b] := rfl
theorem cut2b {a b c e : D} : cutD [a, b, c, e] (some 2) none = [c, e] := rfl
theorem r_breach_form {R : Nat} {ws : List (List Stp)} {v : D} : d_is_breach_form [houseD R ws, v] S = .ok (.bl (natsOf ws v).isSome) S := by
  refine eqOf ?_
  by_cases h4 : ∃ a b c e, v = .tup [a, b, c, e]
  · obtain ⟨a, b, c, e, rfl⟩ := h4
    simp [d_is_breach_form, b_is_breach_form, startD]
    refine ok_forT2 (x := .tup [a, b]) (y := .tup [c, e]) ?_
    simp [cut2a, cut2b, lim_eq, houseD]
    have lenW : (List.map wayD ws).length = ws.length := List.length_map ..
    rw [r_is_within]
    rw [whole_wN]
    cases ha : wN a ws.length with
    | none => simp [natsOf, ha]
    | some l =>
      obtain ⟨rfl, hl⟩ := wN_some ha
      obtain ⟨wl, hwl⟩ : ∃ wl, ws[l]? = some wl := ⟨_, List.getElem?_eq_getElem hl⟩
      have e1 : (ws.map wayD)[l]? = some (wayD wl) := by simp [hwl]
      simp [p_ixT e1, wayD]
      rw [r_is_within]
      rw [whole_wN]
      cases hb : wN b wl.length with
      | none => simp [natsOf, ha, hwl, hb]
      | some p =>
        simp
        rw [r_is_within]
        rw [whole_wN]
        cases hc : wN c ws.length with
        | none => simp [natsOf, ha, hc]
        | some h =>
          obtain ⟨rfl, hh⟩ := wN_some hc
          obtain ⟨wh, hwh⟩ : ∃ wl, ws[h]? = some wl := ⟨_, List.getElem?_eq_getElem hh⟩
          have e2 : (ws.map wayD)[h]? = some (wayD wh) := by simp [hwh]
          simp [p_ixT e2, wayD]
          rw [r_is_within]
          rw [whole_wN]
          cases he : wN e wh.length with
          | none => simp [natsOf, ha, hc, hwl, hwh, hb, he]
          | some n =>
            by_cases hne : l = h
            · subst hne
              simp [natsOf, ha, hc]
            · have hne2 : ¬ ((l : Int) = (h : Int)) := fun z => hne (by omega)
              simp [natsOf, ha, hc, hne, hne2, hwl, hwh, hb, he]
  · have h4' : ∀ a b c e, v ≠ .tup [a, b, c, e] := fun a b c e z => h4 ⟨a, b, c, e, z⟩
    have hn : natsOf ws v = none := by
      unfold natsOf
      split
      · rename_i a b c e
        exact absurd rfl (h4' a b c e)
      · rfl
    rw [hn]
    rcases tup4 h4' with h | ⟨xs, rfl, h⟩
    · simp [d_is_breach_form, b_is_breach_form, startD, h]
    · have h2 : ¬ ((xs.length : Int) = 4) := by omega
      simp [d_is_breach_form, b_is_breach_form, startD, h2]
/-! ### the errors -/
def errN (ws : List (List Stp)) (rk : List Int) (ra : List Cap) (l p h n : Nat) : D :=
  match ws[l]?, ws[h]?, rk[l]?, rk[h]? with
  | some wl, some wh, some ql, some qh => if qh < ql then .str "rank" else if entryT wh (heldT wl p) ≠ some n then .str "entry" else if rankT ql ra (heldT wl p) < qh then .non else .str "raised"
  | _, _, _, _ => .non
def errT (ws : List (List Stp)) (rk : List Int) (ra : List Cap) (v : D) : D := match natsOf ws v with
  | some (l, p, h, n) => errN ws rk ra l p h n
  | none => .str "form"
theorem p_neN {o : Option Nat} {n : Nat} : opNe (natD o) (.int (n : Nat)) S = .ok (.bl (decide (o ≠ some n))) S := by
  cases o with
  | none => rfl
  | some k =>
    rw [natD, p_neI]
    by_cases h : k = n
    · subst h; simp
    · have h2 : ¬ ((k : Int) = (n : Int)) := fun z => h (by omega)
      simp [h, h2]
theorem r_barred_error {R : Nat} {ws : List (List Stp)} {rk : List Int} {ra : List Cap} {v : D} (H : HOk R ws) (hra : ra.length = R) (hrk : rk.length = ws.length)
    (told : Ok (d_told_right [houseD R ws, ranksD rk, raisedD ra] S) fun _ S' => Kp [] S S') : Ok (d_barred_error [houseD R ws, ranksD rk, raisedD ra, v] S) fun r S' => r = errT ws rk ra v ∧ Kp [] S S' := by
  simp [d_barred_error, b_barred_error, startD]
  refine Ok.imp told ?_
  rintro _ S1 kp1
  rw [r_breach_form]
  unfold errT
  cases hn : natsOf ws v with
  | none => simp [kp1]
  | some q =>
    obtain ⟨l, p, h, n⟩ := q
    obtain ⟨rfl, hne, wl, wh, hl, hh, hp, hn2⟩ := natsOf_some hn
    obtain ⟨ql, hql⟩ : ∃ q, rk[l]? = some q := ⟨_, List.getElem?_eq_getElem (by rw [hrk]; exact (List.getElem?_eq_some_iff.mp hl).1)⟩
    obtain ⟨qh, hqh⟩ : ∃ q, rk[h]? = some q := ⟨_, List.getElem?_eq_getElem (by rw [hrk]; exact (List.getElem?_eq_some_iff.mp hh).1)⟩
    have a1 : (rk.map D.int)[l]? = some (.int ql) := by simp [hql]
    have a2 : (rk.map D.int)[h]? = some (.int qh) := by simp [hqh]
    have a3 : (ws.map wayD)[l]? = some (wayD wl) := by simp [hl]
    have Hl := List.mem_of_getElem? hl
    have Hh := List.mem_of_getElem? hh
    have l1 := H.len wl Hl
    have l2 := H.len wh Hh
    have l3 := heldT_len wl p
    simp
    have ixr : ∀ (S : Sto) (i : Nat) (q : Int), (rk.map D.int)[i]? = some (.int q) → opIx (ranksD rk) (.int (i : Nat)) S = .ok (.int q) S := fun S i q e => p_ixT e
    have ixh : ∀ (S : Sto), opIx (houseD R ws) (.int 1) S = .ok (.tup (ws.map wayD)) S := fun S => rfl
    have er : errN ws rk ra l p h n = if qh < ql then .str "rank" else if entryT wh (heldT wl p) ≠ some n then .str "entry" else if rankT ql ra (heldT wl p) < qh then .non else .str "raised" := by
      unfold errN
      simp only [hl, hh, hql, hqh]
    generalize errN ws rk ra l p h n = T at er ⊢
    by_cases c1 : qh < ql
    · rw [if_pos c1] at er
      subst er
      simp [ixr _ _ _ a1, ixr _ _ _ a2, c1, kp1]
    · rw [if_neg c1] at er
      simp [ixr _ _ _ a1, ixr _ _ _ a2, c1, ixh, p_ixT a3]
      refine Ok.imp (r_held (k := p) (H.nest wl Hl) (by omega) (by omega)) ?_
      rintro r S2 ⟨rfl, kp2⟩
      refine Ok.imp (r_barring hh (H.inr wh Hh) (by omega) (by omega)) ?_
      rintro r S3 ⟨rfl, kp3⟩
      by_cases c2 : entryT wh (heldT wl p) = some n
      · rw [if_neg (by simp [c2])] at er
        simp [p_neN, c2]
        refine Ok.imp (r_rank_at H hra hl hql hp) ?_
        rintro r S4 ⟨rfl, kp4⟩
        have kk : Kp [] S S4 := ((kp1.trans kp2).trans kp3).trans kp4
        by_cases c3 : rankT ql ra (heldT wl p) < qh
        · rw [if_pos c3] at er
          subst er
          simp [ixr _ _ _ a2, c3, kk]
        · rw [if_neg c3] at er
          subst er
          simp [ixr _ _ _ a2, c3, kk]
      · rw [if_pos c2] at er
        subst er
        simp [p_neN, c2]
        exact (kp1.trans kp2).trans kp3
theorem r_law_error {R p0 : Nat} {ws : List (List Stp)} {cs : List Nat} {rk : List Int} {ra : List Cap} {v : D} (H : HOk R ws) (P : PlanAt K S p0 ws cs) (hra : ra.length = R) (hrk : rk.length = ws.length) :
    Ok (d_law_error [houseD R ws, .cell p0, ranksD rk, raisedD ra, v] S) fun r S' => r = errT ws rk ra v ∧ Kp [] S S' := by
  by_cases h4 : ∃ a b c e, v = .tup [a, b, c, e]
  · obtain ⟨a, b, c, e, rfl⟩ := h4
    simp [d_law_error, b_law_error, startD, P.len', r_law_is_whole, whole_wN]
    have fm : natsOf ws (.tup [a, b, c, e]) = none → errT ws rk ra (.tup [a, b, c, e]) = .str "form" := fun z => by
      unfold errT
      rw [z]
    cases ha : wN a ws.length with
    | none =>
      simp [Kp.refl]
      rw [fm (by simp [natsOf, ha])]
    | some l =>
      obtain ⟨rfl, hl⟩ := wN_some ha
      cases hc : wN c ws.length with
      | none =>
        simp [Kp.refl]
        rw [fm (by simp [natsOf, ha, hc])]
      | some h =>
        obtain ⟨rfl, hh⟩ := wN_some hc
        simp
        by_cases hne : l = h
        · subst hne
          simp [Kp.refl]
          rw [fm (by simp [natsOf, ha])]
        · have hne2 : ¬ ((l : Int) = (h : Int)) := fun z => hne (by omega)
          obtain ⟨wl, hwl⟩ : ∃ wl, ws[l]? = some wl := ⟨_, List.getElem?_eq_getElem hl⟩
          obtain ⟨wh, hwh⟩ : ∃ wl, ws[h]? = some wl := ⟨_, List.getElem?_eq_getElem hh⟩
          obtain ⟨cl, rsl, gl1, _, gl2, gl3, gl4⟩ := P.get hwl
          obtain ⟨ch, rsh, gh1, _, gh2, gh3, gh4⟩ := P.get hwh
          simp [hne, hne2, P.ix gl1, P.ix gh1, b_lenL gl2, b_lenL gh2, gl3, gh3, r_law_is_whole, whole_wN]
          cases hb : wN b wl.length with
          | none =>
            simp [Kp.refl]
            rw [fm (by simp [natsOf, ha, hc, hne, hwl, hwh, hb])]
          | some p =>
            obtain ⟨rfl, hp⟩ := wN_some hb
            cases he : wN e wh.length with
            | none =>
              simp [Kp.refl]
              rw [fm (by simp [natsOf, ha, hc, hne, hwl, hwh, hb, he])]
            | some n =>
              obtain ⟨rfl, hn⟩ := wN_some he
              have hnn : natsOf ws (.tup [.int (l : Nat), .int (p : Nat), .int (h : Nat), .int (n : Nat)]) = some (l, p, h, n) := by simp [natsOf, ha, hc, hne, hwl, hwh, hb, he]
              obtain ⟨ql, hql⟩ : ∃ q, rk[l]? = some q := ⟨_, List.getElem?_eq_getElem (by rw [hrk]; exact hl)⟩
              obtain ⟨qh, hqh⟩ : ∃ q, rk[h]? = some q := ⟨_, List.getElem?_eq_getElem (by rw [hrk]; exact hh)⟩
              have a1 : (rk.map D.int)[l]? = some (.int ql) := by simp [hql]
              have a2 : (rk.map D.int)[h]? = some (.int qh) := by simp [hqh]
              have Hl := List.mem_of_getElem? hwl
              have ixr : ∀ (S : Sto) (i : Nat) (q : Int), (rk.map D.int)[i]? = some (.int q) → opIx (ranksD rk) (.int (i : Nat)) S = .ok (.int q) S := fun S i q e => p_ixT e
              have er : errT ws rk ra (.tup [.int (l : Nat), .int (p : Nat), .int (h : Nat), .int (n : Nat)]) = if qh < ql then .str "rank" else if entryT wh (heldT wl p) ≠ some n then .str "entry" else if rankT ql ra (heldT wl p) < qh then .non else .str "raised" := by
                unfold errT
                rw [hnn]
                show errN ws rk ra l p h n = _
                unfold errN
                simp only [hwl, hwh, hql, hqh]
              generalize errT ws rk ra (.tup [.int (l : Nat), .int (p : Nat), .int (h : Nat), .int (n : Nat)]) = T at er ⊢
              by_cases c1 : qh < ql
              · rw [if_pos c1] at er
                subst er
                simp [ixr _ _ _ a1, ixr _ _ _ a2, c1, Kp.refl]
              · rw [if_neg c1] at er
                obtain ⟨s, hs⟩ : ∃ s, wl[p]? = some s := ⟨_, List.getElem?_eq_getElem hp⟩
                obtain ⟨z, hz⟩ := gl4 p s hs
                have hin : ∀ u ∈ heldT wl p, u.1 < R := fun u hu => H.inr wl Hl u (heldT_mem p u hu)
                by_cases c2 : entryT wh (heldT wl p) = some n
                · rw [if_neg (by simp [c2])] at er
                  simp [ixr _ _ _ a1, ixr _ _ _ a2, c1, P.ix gl1, p_ixL gl2 hz, r_law_entry P hwh hin, p_neN, c2]
                  refine Ok.imp (r_law_rank_at H P hra hwl hql hp) ?_
                  rintro r S4 ⟨rfl, kp4⟩
                  by_cases c3 : rankT ql ra (heldT wl p) < qh
                  · have c4 : ¬ qh ≤ rankT ql ra (heldT wl p) := by omega
                    rw [if_pos c3] at er
                    subst er
                    simp [ixr _ _ _ a2, c4, kp4]
                  · have c4 : qh ≤ rankT ql ra (heldT wl p) := by omega
                    rw [if_neg c3] at er
                    subst er
                    simp [ixr _ _ _ a2, c4, kp4]
                · rw [if_pos c2] at er
                  subst er
                  simp [ixr _ _ _ a1, ixr _ _ _ a2, c1, P.ix gl1, p_ixL gl2 hz, r_law_entry P hwh hin, p_neN, c2, Kp.refl]
  · have h4' : ∀ a b c e, v ≠ .tup [a, b, c, e] := fun a b c e z => h4 ⟨a, b, c, e, z⟩
    have hn : errT ws rk ra v = .str "form" := by
      unfold errT natsOf
      split
      · rename_i l p h n q
        split at q
        · rename_i a b c e
          exact absurd rfl (h4' a b c e)
        · cases q
      · rfl
    rw [hn]
    rcases tup4 h4' with h | ⟨xs, rfl, h⟩
    · simp [d_law_error, b_law_error, startD, h, Kp.refl]
    · have h2 : ¬ ((xs.length : Int) = 4) := by omega
      simp [d_law_error, b_law_error, startD, h2, Kp.refl]
end
end Dn
set_option Elab.async false
set_option linter.all false
set_option maxRecDepth 100000
set_option maxHeartbeats 2000000
/-! Le_k84: forms of what is told, calm houses, refusals. -/
noncomputable section
namespace Dn
open PySem L2
section
variable {S S' : Sto} {K : List Nat} {k w : Nat}
theorem allPy_get {f : D → Option PyData} : ∀ {xs : List D} {ps : List PyData}, allPy f xs = some ps → ∀ (i : Nat) (x : D), xs[i]? = some x → ∃ q, ps[i]? = some q ∧ f x = some q
  | [], ps, h, i, x, hx => by simp at hx
  | y :: ys, ps, h, i, x, hx => by
    unfold allPy at h
    split at h
    · rename_i p qs h1 h2
      cases h
      cases i with
      | zero =>
        cases hx
        exact ⟨p, rfl, h1⟩
      | succ i => exact allPy_get h2 i x (by simpa using hx)
    · cases h
theorem canLay_mem : ∀ {ps : List PyData} {q : PyData}, PyData.canLayAll0 ps = true → q ∈ ps → q.canLay0 = true
  | p :: ps, q, h, hq => by
    simp only [PyData.canLayAll0, Bool.and_eq_true] at h
    rcases List.mem_cons.mp hq with rfl | hq
    · exact h.1
    · exact canLay_mem h.2 hq
theorem showable_mem : ∀ {ps : List PyData} {q : PyData}, PyData.showableAll ps = true → q ∈ ps → q.showable = true
  | p :: ps, q, h, hq => by
    simp only [PyData.showableAll, Bool.and_eq_true] at h
    rcases List.mem_cons.mp hq with rfl | hq
    · exact h.1
    · exact showable_mem h.2 hq
theorem depth_mem : ∀ {ps : List PyData} {q : PyData}, q ∈ ps → q.depth ≤ PyData.depthAll ps
  | p :: ps, q, hq => by
    simp only [PyData.depthAll]
    rcases List.mem_cons.mp hq with rfl | hq
    · omega
    · have := depth_mem hq
      omega
theorem weight_mem : ∀ {ps : List PyData} {q : PyData}, q ∈ ps → q.weight ≤ PyData.weightAll ps
  | p :: ps, q, hq => by
    simp only [PyData.weightAll]
    rcases List.mem_cons.mp hq with rfl | hq
    · omega
    · have := weight_mem hq
      omega
theorem rd_inv {xs : List D} (h : Rd K k w S (.tup xs)) {x : D} (hx : x ∈ xs) : Rd K k w S x := by
  obtain ⟨p, h1, h2, h3, h4, h5⟩ := h
  obtain ⟨i, hi⟩ := List.getElem?_of_mem hx
  have step : ∀ S', Kp K S S' → ∀ m, k < m + 1 → (allPy (toPy m S') xs).map PyData.tuple = some p := fun S' kp m hm => h1 S' kp (m + 1) hm
  obtain ⟨ps, e1, e2⟩ := Option.map_eq_some_iff.mp (step S (Kp.refl _ _) k (by omega))
  subst e2
  have st2 : ∀ S', Kp K S S' → ∀ m, k < m → allPy (toPy m S') xs = some ps := fun S' kp m hm => by
    obtain ⟨qs, g1, g2⟩ := Option.map_eq_some_iff.mp (step S' kp m (by omega))
    cases g2
    exact g1
  obtain ⟨q, hq, _⟩ := allPy_get e1 i x hi
  have hm := List.mem_of_getElem? hq
  refine ⟨q, fun S' kp m hm2 => ?_, ?_, ?_, ?_, ?_⟩
  · obtain ⟨q', g1, g2⟩ := allPy_get (st2 S' kp m hm2) i x hi
    rw [hq] at g1
    cases g1
    exact g2
  · exact canLay_mem (by simpa only [PyData.canLay0] using h2) hm
  · exact showable_mem (by simpa only [PyData.showable] using h3) hm
  · have := depth_mem hm
    simp only [PyData.depth] at h4
    omega
  · have := weight_mem hm
    simp only [PyData.weight] at h5
    omega
/-! ### the raised form -/
def ownOk (d : D) : Bool := isNon d || isI d
def pairOk (d : D) : Bool := match d with
  | .tup ys => decide (ys.length = 2) && ys.all ownOk
  | _ => false
def raisedOk (R : Nat) (v : D) : Bool := match v with
  | .tup xs => decide (xs.length = R) && xs.all pairOk
  | _ => false
def ownF (d : D) : Option D := if ownOk d = true then none else some d
theorem ownF_list : ∀ ys : List D, (ys.filterMap ownF).isEmpty = ys.all ownOk
  | [] => rfl
  | y :: ys => by
    have ih := ownF_list ys
    rw [List.filterMap_cons, List.all_cons]
    unfold ownF at ih ⊢
    cases h : ownOk y with
    | true => simpa using ih
    | false => simp
theorem isT_cases (d : D) : (∃ xs, d = .tup xs) ∨ isT d = false := by
  cases d with
  | tup xs => exact .inl ⟨xs, rfl⟩
  | _ => exact .inr rfl
theorem pairOk_not {d : D} (h : isT d = false) : pairOk d = false := by
  cases d with
  | tup xs => cases h
  | _ => rfl
theorem raisedOk_not {R : Nat} {d : D} (h : isT d = false) : raisedOk R d = false := by
  cases d with
  | tup xs => cases h
  | _ => rfl
theorem all_take {p : D → Bool} {xs : List D} {i : Nat} {x : D} (hx : xs[i]? = some x) (h : (xs.take i).all p = true) : (xs.take (i + 1)).all p = p x := by
  rw [List.take_succ, hx, List.all_append, h]
  simp
theorem all_false {p : D → Bool} {xs : List D} {x : D} (hx : x ∈ xs) (h : p x = false) : xs.all p = false := by
  rw [List.all_eq_false]
  exact ⟨x, hx, by simp [h]⟩
theorem r_raised_form {R : Nat} {ws : List (List Stp)} {v : D} (hv : Rd [] k w S v) (hk : k ≤ 50) (hw : w ≤ 90000) : Ok (d_raised_form [houseD R ws, v] S) fun r S' => r = .bl (raisedOk R v) ∧ Kp [] S S' := by
  rcases isT_cases v with ⟨xs, rfl⟩ | hnt
  · have hl : bLen [houseD R ws] S = .ok (.int 2) S := rfl
    by_cases hR : xs.length = R
    · have hR2 : (xs.length : Int) = (R : Int) := by omega
      simp [d_raised_form, b_raised_form, startD, houseD, hR2]
      refine ok_forT (xs := xs) (fun i δ S' => Kp [] S S' ∧ (∃ v2 v3, δ = [some (houseD R ws), some (.tup xs), v2, v3]) ∧ (xs.take i).all pairOk = true) ?_ ?_ ?_
      · simp [Kp.refl, houseD]
      · rintro i δ S1 x hx ⟨kp, ⟨v2, v3, rfl⟩, ha⟩
        have hmem := List.mem_of_getElem? hx
        have tk := all_take hx ha
        have bad : pairOk x = false → raisedOk R (.tup xs) = false := fun z => by
          unfold raisedOk
          simp only [all_false hmem z, Bool.and_false]
        rcases isT_cases x with ⟨ys, rfl⟩ | hnt
        · by_cases h2 : ys.length = 2
          · have h2' : (ys.length : Int) = 2 := by omega
            simp [h2']
            have hxr := (rd_inv hv hmem).mono kp
            refine ok_lcT (xs := ys) ownF ?_ (by rw [h2, lim_eq]; decide) ?_ ?_
            · simp [Kp.refl]
            · intro y hy S2 kp2
              unfold ownF
              cases h3 : ownOk y with
              | true =>
                simp [wipeD]
                unfold ownOk at h3
                cases hn : isNon y with
                | true => simp [Kp.refl]
                | false =>
                  rw [hn] at h3
                  simp at h3
                  simp [h3, Kp.refl]
              | false =>
                unfold ownOk at h3
                rw [Bool.or_eq_false_iff] at h3
                simp [wipeD, h3.1, h3.2, Kp.refl]
            · intro S2 c kp2 hlc hc
              have e := p_neNil (S := S2 ++ [.lst []]) (k := k) (w := w) ((Kp.app [] S2 [.lst []]).get _ _ (by simp) hc) (fun z hz => by
                obtain ⟨a, h4, h5⟩ := List.mem_filterMap.mp hz
                unfold ownF at h5
                split at h5
                · cases h5
                · cases h5
                  exact ((rd_inv hxr h4).mono kp2).mono (Kp.app _ _ _)) hk (get_push S2 (.lst []))
              rw [ownF_list] at e
              have pk : pairOk (.tup ys) = ys.all ownOk := by
                unfold pairOk
                simp [h2]
              have k3 : Kp [] S (S2 ++ [C.lst []]) := (kp.trans kp2).push _
              generalize ys.all ownOk = b at e pk
              cases b with
              | true =>
                rw [pk] at tk
                simp [e]
                exact ⟨k3, by simpa using tk⟩
              | false => simp [e, bad pk, k3]
          · have h2' : ¬ (ys.length : Int) = 2 := by omega
            have pk : pairOk (.tup ys) = false := by
              unfold pairOk
              simp [h2]
            simp [h2', bad pk, kp]
        · simp [hnt, bad (pairOk_not hnt), kp]
      · rintro δ S1 ⟨kp, ⟨v2, v3, rfl⟩, ha⟩
        rw [List.take_length] at ha
        simp [raisedOk, hR, kp]
        simpa using ha
    · have hR2 : ¬ (xs.length : Int) = (R : Int) := by omega
      simp [d_raised_form, b_raised_form, startD, houseD, hR2, raisedOk, hR, Kp.refl]
  · simp [d_raised_form, b_raised_form, startD, hnt, raisedOk_not hnt, Kp.refl]
theorem isB_notI {d : D} (h : isB d = true) : isI d = false := by
  cases d with
  | bl b => rfl
  | _ => cases h
theorem r_law_is_raised {R : Nat} {ws : List (List Stp)} {v : D} : d_law_is_raised [houseD R ws, v] S = .ok (.bl (raisedOk R v)) S := by
  refine eqOf ?_
  rcases isT_cases v with ⟨xs, rfl⟩ | hnt
  · by_cases hR : xs.length = R
    · have hR2 : (xs.length : Int) = (R : Int) := by omega
      simp [d_law_is_raised, b_law_is_raised, startD, houseD, hR2]
      refine ok_forT (xs := xs) (fun i δ S' => S' = S ∧ (∃ v2 v3, δ = [some (houseD R ws), some (.tup xs), v2, v3]) ∧ (xs.take i).all pairOk = true) ?_ ?_ ?_
      · simp [houseD]
      · rintro i δ S1 x hx ⟨rfl, ⟨v2, v3, rfl⟩, ha⟩
        have hmem := List.mem_of_getElem? hx
        have tk := all_take hx ha
        have bad : pairOk x = false → raisedOk R (.tup xs) = false := fun z => by
          unfold raisedOk
          simp only [all_false hmem z, Bool.and_false]
        rcases isT_cases x with ⟨ys, rfl⟩ | hnt
        · by_cases h2 : ys.length = 2
          · have h2' : (ys.length : Int) = 2 := by omega
            have pk : pairOk (.tup ys) = ys.all ownOk := by
              unfold pairOk
              simp [h2]
            simp [h2']
            refine ok_forT (xs := ys) (fun j δ S' => S' = S1 ∧ (∃ v3, δ = [some (houseD R ws), some (.tup xs), some (.tup ys), v3]) ∧ (ys.take j).all ownOk = true) ?_ ?_ ?_
            · simp
            · rintro j δ S2 y hy ⟨rfl, ⟨v3, rfl⟩, hb⟩
              have tk2 := all_take hy hb
              have hm2 := List.mem_of_getElem? hy
              cases h3 : ownOk y with
              | true =>
                rw [h3] at tk2
                unfold ownOk at h3
                cases hn : isNon y with
                | true =>
                  simp [hn]
                  simpa using tk2
                | false =>
                  rw [hn] at h3
                  simp at h3
                  have hb2 : isB y = false := by
                    cases hq : isB y with
                    | false => rfl
                    | true =>
                      rw [isB_notI hq] at h3
                      cases h3
                  simp [hn, h3, hb2]
                  simpa using tk2
              | false =>
                have pf : pairOk (.tup ys) = false := by rw [pk]; exact all_false hm2 h3
                unfold ownOk at h3
                rw [Bool.or_eq_false_iff] at h3
                cases hq : isB y with
                | true => simp [h3.1, hq, bad pf]
                | false => simp [h3.1, h3.2, hq, bad pf]
            · rintro δ S2 ⟨rfl, ⟨v3, rfl⟩, hb⟩
              rw [List.take_length] at hb
              rw [pk, hb] at tk
              simp
              simpa using tk
          · have h2' : ¬ (ys.length : Int) = 2 := by omega
            have pk : pairOk (.tup ys) = false := by
              unfold pairOk
              simp [h2]
            simp [h2', bad pk]
        · simp [hnt, bad (pairOk_not hnt)]
      · rintro δ S1 ⟨rfl, ⟨v2, v3, rfl⟩, ha⟩
        rw [List.take_length] at ha
        simp [raisedOk, hR]
        simpa using ha
    · have hR2 : ¬ (xs.length : Int) = (R : Int) := by omega
      simp [d_law_is_raised, b_law_is_raised, startD, houseD, hR2, raisedOk, hR]
  · simp [d_law_is_raised, b_law_is_raised, startD, hnt, raisedOk_not hnt]
end
end Dn
set_option Elab.async false
set_option linter.all false
set_option maxRecDepth 100000
set_option maxHeartbeats 2000000
/-! Lf_k84: calm houses, right ranks, what is told right. -/
noncomputable section
namespace Dn
open PySem L2
section
variable {S S' : Sto} {K : List Nat} {k w : Nat}
def filt (p : D → Bool) (x : D) : Option D := if p x = true then some x else none
theorem filt_list (p : D → Bool) : ∀ xs : List D, (xs.filterMap (filt p)).isEmpty = !xs.any p
  | [] => rfl
  | x :: xs => by
    have ih := filt_list p xs
    rw [List.filterMap_cons, List.any_cons]
    unfold filt at ih ⊢
    cases h : p x with
    | true => simp
    | false => simpa using ih
theorem filt_mem {p : D → Bool} {xs : List D} {x : D} (h : x ∈ xs.filterMap (filt p)) : x ∈ xs := by
  obtain ⟨a, h1, h2⟩ := List.mem_filterMap.mp h
  unfold filt at h2
  split at h2
  · cases h2
    exact h1
  · cases h2
def hdTry (s : D) : Bool := match s with
  | .tup (.str x :: _) => x == "try"
  | _ => false
def hdF (s : D) : Option D := match s with
  | .tup (x :: _) => some x
  | _ => none
theorem hd_list : ∀ ss : List D, (∀ s ∈ ss, ∃ x r, s = D.tup (.str x :: r)) → inD (.str "try") (ss.filterMap hdF) = ss.any hdTry ∧ (ss.filterMap hdF).all flatD = true
  | [], _ => ⟨rfl, rfl⟩
  | s :: ss, h => by
    obtain ⟨x, r, rfl⟩ := h s List.mem_cons_self
    obtain ⟨h1, h2⟩ := hd_list ss fun t ht => h t (List.mem_cons_of_mem _ ht)
    have e : (D.tup (.str x :: r) :: ss).filterMap hdF = .str x :: ss.filterMap hdF := rfl
    rw [e]
    refine ⟨?_, ?_⟩
    · unfold inD at h1 ⊢
      rw [List.any_cons, List.any_cons, h1]
      rfl
    · rw [List.all_cons, h2]
      rfl
theorem r_is_calm {rooms ways : List D} (bad tr : D → Bool) (h1 : ∀ x ∈ rooms, (∀ S', opNe x (.tup [.str "store", .non]) S' = .ok (.bl (bad x)) S') ∧ ∀ S', Rd [] 20 5000 S' x)
    (h2 : ∀ w ∈ ways, (∀ S', Rd [] 20 5000 S' w) ∧ ∃ ss, w = .tup ss ∧ ss.length ≤ 1000 ∧ (∀ s ∈ ss, ∃ x r, s = D.tup (.str x :: r)) ∧ tr w = ss.any hdTry) (hl1 : rooms.length ≤ 1000) (hl2 : ways.length ≤ 1000) :
    Ok (d_is_calm [.tup [.tup rooms, .tup ways]] S) fun r S' => r = .bl (!rooms.any bad && !ways.any tr) ∧ Kp [] S S' := by
  obtain ⟨res, hres⟩ : ∃ res, res = (!rooms.any bad && !ways.any tr) := ⟨_, rfl⟩
  rw [← hres]
  simp [d_is_calm, b_is_calm, startD]
  refine ok_lcT (xs := rooms) (filt bad) ?_ (by simp [lim_eq]; omega) ?_ ?_
  · simp [Kp.refl]
  · intro x hx S1 kp
    simp [wipeD, (h1 x hx).1, lim_eq, filt, Kp.refl]
  · intro S1 c kp hlc hc
    have e := p_neNil (S := S1 ++ [.lst []]) (k := 20) (w := 5000) ((Kp.app [] S1 [.lst []]).get _ _ (by simp) hc) (fun z hz => (h1 z (filt_mem hz)).2 _) (by decide) (get_push S1 (.lst []))
    rw [filt_list] at e
    have k1 : Kp [] S (S1 ++ [C.lst []]) := kp.push _
    generalize rooms.any bad = b at e hres
    cases b with
    | true =>
      subst hres
      simp [e, k1]
    | false =>
      simp [e]
      refine ok_lcT (xs := ways) (filt tr) ?_ (by simp [lim_eq]; omega) ?_ ?_
      · simp [Kp.refl]
      · intro x hx S2 kp2
        obtain ⟨_, ss, rfl, hss, hall, htr⟩ := h2 x hx
        obtain ⟨g1, g2⟩ := hd_list ss hall
        simp [wipeD]
        refine ok_lcT (xs := ss) hdF ?_ (by simp [lim_eq]; omega) ?_ ?_
        · simp [Kp.refl]
        · intro s hs S3 kp3
          obtain ⟨x, r, rfl⟩ := hall s hs
          simp [wipeD, hdF, Kp.refl]
        · intro S3 c3 kp3 hl3 hc3
          have e3 : opIn false (.str "try") (.cell c3) S3 = .ok (.bl (ss.any hdTry)) S3 := by
            unfold opIn
            simp only [it_cell hc3]
            have : (flatD (.str "try") && (ss.filterMap hdF).all flatD) = true := by rw [g2]; rfl
            simp only [this, if_true, g1]
            rfl
          rw [← htr] at e3
          simp [e3, filt, kp3]
      · intro S2 c2 kp2 hl2 hc2
        have e2 := p_eqNil (S := S2 ++ [.lst []]) (k := 20) (w := 5000) ((Kp.app [] S2 [.lst []]).get _ _ (by simp) hc2) (fun z hz => (h2 z (filt_mem hz)).1 _) (by decide) (get_push S2 (.lst []))
        rw [filt_list] at e2
        generalize ways.any tr = b2 at e2 hres
        subst hres
        simp [e2]
        exact (k1.trans kp2).push _
/-! ### the calm house -/
theorem rd_th {t : Th} {R : Nat} (h : t.1 < R) (hR : R ≤ 5) : Rd K 1 40 S t.d := by
  refine rd_tup (k := 0) (w := 8) (fun x hx => ?_) (by decide) (by show 2 * (8 + 1) ≤ 40; decide)
  simp only [List.mem_cons, List.not_mem_nil, or_false] at hx
  rcases hx with rfl | rfl
  · exact rd_int (b := 3) (by omega) (by decide) (by decide)
  · unfold mD
    cases t.2
    · exact rd_str (by decide +kernel) (by decide +kernel)
    · exact rd_str (by decide +kernel) (by decide +kernel)
theorem rd_stp {s : Stp} {R : Nat} (h : ∀ t, s = .inn t → t.1 < R) (h' : ∀ r, s = .out r → r < R) (hR : R ≤ 5) : Rd K 1 40 S s.d := by
  cases s with
  | out r =>
    have hr := h' r rfl
    refine rd_tup (k := 0) (w := 8) (fun x hx => ?_) (by decide) (by show 2 * (8 + 1) ≤ 40; decide)
    simp only [List.mem_cons, List.not_mem_nil, or_false] at hx
    rcases hx with rfl | rfl
    · exact rd_str (by decide +kernel) (by decide +kernel)
    · exact rd_int (b := 3) (by omega) (by decide) (by decide)
  | inn t =>
    have hr := h t rfl
    refine rd_tup (k := 0) (w := 8) (fun x hx => ?_) (by decide) (by show 3 * (8 + 1) ≤ 40; decide)
    simp only [List.mem_cons, List.not_mem_nil, or_false] at hx
    rcases hx with rfl | rfl | rfl
    · exact rd_str (by decide +kernel) (by decide +kernel)
    · exact rd_int (b := 3) (by omega) (by decide) (by decide)
    · unfold mD
      cases t.2
      · exact rd_str (by decide +kernel) (by decide +kernel)
      · exact rd_str (by decide +kernel) (by decide +kernel)
theorem rd_room : Rd K 1 20 S roomD := by
  refine rd_tup (k := 0) (w := 8) (fun x hx => ?_) (by decide) (by show 2 * (8 + 1) ≤ 20; decide)
  simp only [List.mem_cons, List.not_mem_nil, or_false] at hx
  rcases hx with rfl | rfl
  · exact rd_str (by decide +kernel) (by decide +kernel)
  · exact rd_non
theorem rd_way {R : Nat} {ws : List (List Stp)} (H : HOk R ws) {x : List Stp} (hx : x ∈ ws) : Rd K 2 984 S (wayD x) := by
  refine rd_tup (k := 1) (w := 40) (fun y hy => ?_) (by decide) ?_
  · obtain ⟨s, hs, rfl⟩ := List.mem_map.mp hy
    exact rd_stp (fun t e => H.inr x hx t (e ▸ hs)) (fun r e => H.outr x hx r (e ▸ hs)) H.r5
  · have := H.len x hx
    rw [List.length_map]
    omega
theorem rd_house {R : Nat} {ws : List (List Stp)} (H : HOk R ws) : Rd K 4 5500 S (houseD R ws) := by
  have h1 : Rd K 3 5000 S (.tup (List.replicate R roomD)) := by
    refine rd_tup (k := 1) (w := 20) (fun y hy => ?_) (by decide) ?_
    · rw [(List.mem_replicate.mp hy).2]
      exact rd_room
    · have := H.r5
      rw [List.length_replicate]
      omega
  have h2 : Rd K 3 5000 S (.tup (ws.map wayD)) := by
    refine rd_tup (k := 2) (w := 984) (fun y hy => ?_) (by decide) ?_
    · obtain ⟨x, hx, rfl⟩ := List.mem_map.mp hy
      exact rd_way H hx
    · have := H.w5
      rw [List.length_map]
      omega
  obtain ⟨p, a1, a2, a3, a4, a5⟩ := h1
  obtain ⟨q, b1, b2, b3, b4, b5⟩ := h2
  -- the house weighs what its two parts weigh
  have wp : p.weight ≤ 105 := by
    obtain ⟨p', c1, c2, c3, c4, c5⟩ : Rd K 3 105 S (.tup (List.replicate R roomD)) := by
      refine rd_tup (k := 1) (w := 20) (fun y hy => ?_) (by decide) ?_
      · rw [(List.mem_replicate.mp hy).2]
        exact rd_room
      · have := H.r5
        rw [List.length_replicate]
        omega
    have e1 := a1 S (Kp.refl _ _) 4 (by decide)
    have e2 := c1 S (Kp.refl _ _) 4 (by decide)
    rw [e1] at e2
    cases e2
    exact c5
  refine ⟨.tuple [p, q], fun S2 kp m hm => ?_, ?_, ?_, ?_, ?_⟩
  · obtain ⟨m, rfl⟩ : ∃ j, m = j + 1 := ⟨m - 1, by omega⟩
    show (allPy (toPy m S2) [.tup (List.replicate R roomD), .tup (ws.map wayD)]).map PyData.tuple = _
    simp only [allPy, a1 S2 kp m (by omega), b1 S2 kp m (by omega)]
    rfl
  · simp only [PyData.canLay0, PyData.canLayAll0, a2, b2, Bool.and_self]
  · simp only [PyData.showable, PyData.showableAll, a3, b3, Bool.and_self]
  · simp only [PyData.depth, PyData.depthAll]
    omega
  · simp only [PyData.weight, PyData.weightAll]
    omega
theorem p_room : opNe roomD (.tup [.str "store", .non]) S = .ok (.bl false) S := by
  have e1 : toPy 60 S roomD = some (.tuple [.str "store", .none]) := rfl
  have e2 : toPy 60 S (.tup [.str "store", .non]) = some (.tuple [.str "store", .none]) := rfl
  have s1 : SeqAt.shaped (.tuple [.str "store", .none]) = true := by decide +kernel
  have e3 : PyData.eqv (.tuple [.str "store", .none]) (.tuple [.str "store", .none]) = true := by simp [PyData.eqv, PyData.eqvAll]
  show opEqP true roomD (.tup [.str "store", .non]) S = _
  unfold opEqP
  simp only [e1, e2, s1, e3, Bool.and_self, if_true]
  rfl
theorem stp_hd (s : Stp) : ∃ x r, s.d = D.tup (.str x :: r) := by
  cases s with
  | out r => exact ⟨_, _, rfl⟩
  | inn t => exact ⟨_, _, rfl⟩
theorem stp_try (s : Stp) : hdTry s.d = false := by
  cases s with
  | out r => exact (by decide +kernel : ((("out" : Str) == "try") = false))
  | inn t => exact (by decide +kernel : ((("in" : Str) == "try") = false))
theorem way_ok {R : Nat} {ws : List (List Stp)} (H : HOk R ws) {x : D} (hx : x ∈ ws.map wayD) : (∀ S', Rd [] 20 5000 S' x) ∧ ∃ ss, x = .tup ss ∧ ss.length ≤ 1000 ∧ (∀ s ∈ ss, ∃ x r, s = D.tup (.str x :: r)) ∧ false = ss.any hdTry := by
  obtain ⟨y, hy, rfl⟩ := List.mem_map.mp hx
  refine ⟨fun S' => (rd_way H hy).le (by decide) (by decide), y.map Stp.d, rfl, ?_, fun s hs => ?_, ?_⟩
  · have := H.len y hy
    rw [List.length_map]
    omega
  · obtain ⟨t, _, rfl⟩ := List.mem_map.mp hs
    exact stp_hd t
  · symm
    rw [List.any_eq_false]
    intro s hs
    obtain ⟨t, _, rfl⟩ := List.mem_map.mp hs
    rw [stp_try]
    decide
theorem r_calm {R : Nat} {ws : List (List Stp)} (H : HOk R ws) : Ok (d_calm [houseD R ws] S) fun r S' => Kp [] S S' := by
  simp [d_calm, b_calm, startD]
  refine Ok.imp (r_is_calm (rooms := List.replicate R roomD) (ways := ws.map wayD) (fun _ => false) (fun _ => false) (fun x hx => ?_) (fun x hx => way_ok H hx) ?_ ?_) ?_
  · rw [(List.mem_replicate.mp hx).2]
    exact ⟨fun S' => p_room, fun S' => rd_room.le (by decide) (by decide)⟩
  · have := H.r5
    simp
    omega
  · have := H.w5
    simp
    omega
  · rintro r S1 ⟨rfl, kp⟩
    have e1 : (List.replicate R roomD).any (fun _ => false) = false := by simp
    have e2 : (ws.map wayD).any (fun _ => false) = false := by simp
    rw [e1, e2]
    simp [kp]
/-! ### ranks -/
theorem blF_list (xs : List D) : xs.filterMap (fun d => some (D.bl (isI d))) = (xs.map isI).map D.bl := by
  induction xs with
  | nil => rfl
  | cons x xs ih => simp [ih]
theorem ok_forR2 {lo hi : Nat} {δ : En} {Q : Po} {g : Tg} {body : DS} (h : lo ≤ hi) (hn : hi ≤ 1000000) (I : Nat → En → Sto → Prop) {a : DA} (hs : Ok (a δ S) fun d S1 => d = [.int (lo : Nat), .int (hi : Nat)] ∧ I lo δ S1)
    (step : ∀ j δ S, lo ≤ j → j < hi → I j δ S → ∃ δ', g.set (.int (j : Nat)) δ = some δ' ∧ OkS (body δ' S) ⟨I (j + 1), Q.rt, Q.nx, I (j + 1)⟩) (done : ∀ δ S, I hi δ S → Q.nx δ S) : OkS (dFor (rng2 a) g body δ S) Q := by
  refine ok_for (s0 := .rng (lo : Nat) (hi : Nat)) (N := hi - lo) (item := fun i => .int ((lo + i : Nat) : Int)) (fun i => I (lo + i)) ?_ (fun i δ S h => ?_) (fun i δ S hi h => ?_) (fun i δ S hi h => step (lo + i) δ S (by omega) (by omega) h) (fun δ S h2 => ?_)
  · rw [o_rng2]
    refine Ok.imp hs fun d S1 ⟨e, h⟩ => ?_
    subst e
    exact ⟨_, _, rfl, inRng_of (by omega) (by omega), inRng_of (by omega) (by omega), rfl, h⟩
  · simp [Src.len]
  · simp [Src.item]
    omega
  · have e : lo + (hi - lo) = hi := by omega
    rw [e] at h2
    exact done δ S h2
theorem r_ranks_error {R : Nat} {ws : List (List Stp)} {rk : List Int} (H : HOk R ws) (hl : rk.length = ws.length) (hd : rk.Nodup) : Ok (d_ranks_error [houseD R ws, ranksD rk] S) fun r S' => r = .non ∧ Kp [] S S' := by
  simp [d_ranks_error, b_ranks_error, startD]
  refine Ok.imp (r_calm H) ?_
  rintro _ S1 kp1
  have w5 := H.w5
  have ixh : ∀ (S : Sto), opIx (houseD R ws) (.int 1) S = .ok (.tup (ws.map wayD)) S := fun S => rfl
  have hl2 : (rk.length : Int) = (ws.length : Int) := by omega
  simp [ixh, ranksD, hl]
  refine ok_lcT (xs := rk.map D.int) (fun d => some (D.bl (isI d))) ?_ (by simp [lim_eq]; omega) ?_ ?_
  · simp [Kp.refl]
  · intro x hx S2 kp2
    simp [wipeD, Kp.refl]
  · intro S2 c kp2 hlc hc
    rw [blF_list] at hc
    have e : ((rk.map D.int).map isI).all id = true := by
      rw [List.all_eq_true]
      intro b hb
      obtain ⟨y, hy, rfl⟩ := List.mem_map.mp hb
      obtain ⟨i, _, rfl⟩ := List.mem_map.mp hy
      rfl
    rw [b_allL hc, e]
    simp
    have k12 := kp1.trans kp2
    refine ok_forR (n := ws.length) (by omega) (fun i δ S' => Kp [] S S' ∧ ∃ v3 v4 v5, δ = [some (houseD R ws), some (ranksD rk), some (.int (ws.length : Nat)), v3, v4, v5]) ?_ ?_ ?_
    · simp [ranksD, k12]
    · rintro i δ S3 hi ⟨kp3, v3, v4, v5, rfl⟩
      refine ⟨_, set_nm, ?_⟩
      have t1 : i + 1 ≤ ws.length := hi
      have t2 : ws.length ≤ 1000000 := by omega
      refine ok_forR2 t1 t2 ?I ?_ ?_ ?_
      case I => exact (fun j δ S' => Kp [] S S' ∧ ∃ v4 v5, δ = [some (houseD R ws), some (ranksD rk), some (.int (ws.length : Nat)), some (.int (i : Nat)), v4, v5])
      · simp [kp3]
      · rintro j δ S4 hj1 hj ⟨kp4, v4, v5, rfl⟩
        obtain ⟨a, ha⟩ : ∃ a, rk[i]? = some a := ⟨_, List.getElem?_eq_getElem (by omega)⟩
        obtain ⟨b, hb⟩ : ∃ a, rk[j]? = some a := ⟨_, List.getElem?_eq_getElem (by omega)⟩
        have e1 : (rk.map D.int)[i]? = some (.int a) := by simp [ha]
        have e2 : (rk.map D.int)[j]? = some (.int b) := by simp [hb]
        have hab : a ≠ b := fun z => by
          subst z
          have h1 : i < rk.length := by omega
          have h2 : j < rk.length := by omega
          rw [List.getElem?_eq_getElem h1] at ha
          rw [List.getElem?_eq_getElem h2] at hb
          have h3 : rk[i] = rk[j] := (Option.some.inj ha).trans (Option.some.inj hb).symm
          exact (List.pairwise_iff_getElem.mp hd) i j h1 h2 (by omega) h3
        simp [ranksD, p_ixT e1, p_ixT e2, hab, kp4]
      · rintro δ S4 ⟨kp4, v4, v5, rfl⟩
        exact ⟨kp4, _, _, _, rfl⟩
    · rintro δ S3 ⟨kp3, v3, v4, v5, rfl⟩
      simp [kp3]
theorem r_ranked {R : Nat} {ws : List (List Stp)} {rk : List Int} (H : HOk R ws) (hl : rk.length = ws.length) (hd : rk.Nodup) : Ok (d_ranked [houseD R ws, ranksD rk] S) fun r S' => Kp [] S S' := by
  simp [d_ranked, b_ranked, startD]
  refine Ok.imp (r_ranks_error H hl hd) ?_
  rintro r S1 ⟨rfl, kp⟩
  simp [kp]
theorem oD_rd {o : Option Int} (h : ∀ i, o = some i → i.natAbs < 2 ^ 127) : Rd K 1 130 S (oD o) := by
  cases o with
  | none => exact rd_non
  | some i => exact (rd_int (k := 1) (w := 130) (b := 126) (h i rfl) (by decide) (by decide))
def Small (ra : List Cap) : Prop := ∀ p ∈ ra, (∀ i, p.1 = some i → i.natAbs < 2 ^ 127) ∧ (∀ i, p.2 = some i → i.natAbs < 2 ^ 127)
theorem rd_raised {ra : List Cap} (hs : Small ra) (hl : ra.length ≤ 5) : Rd K 3 1400 S (raisedD ra) := by
  refine rd_tup (k := 2) (w := 262) (fun y hy => ?_) (by decide) ?_
  · obtain ⟨p, hp, rfl⟩ := List.mem_map.mp hy
    refine rd_tup (k := 1) (w := 130) (fun z hz => ?_) (by decide) (by show 2 * (130 + 1) ≤ 262; decide)
    simp only [List.mem_cons, List.not_mem_nil, or_false] at hz
    rcases hz with rfl | rfl
    · exact oD_rd (hs p hp).1
    · exact oD_rd (hs p hp).2
  · rw [List.length_map]
    omega
theorem raisedOk_raised {ra : List Cap} {R : Nat} (h : ra.length = R) : raisedOk R (raisedD ra) = true := by
  have o : ∀ o, ownOk (oD o) = true := fun o => by cases o <;> rfl
  unfold raisedOk raisedD
  simp only [List.length_map, h, decide_true, Bool.true_and, List.all_map, List.all_eq_true]
  intro p hp
  show (decide (([oD p.1, oD p.2]).length = 2) && ([oD p.1, oD p.2]).all ownOk) = true
  simp [o]
theorem r_told_right {R : Nat} {ws : List (List Stp)} {rk : List Int} {ra : List Cap} (H : HOk R ws) (hl : rk.length = ws.length) (hd : rk.Nodup) (hra : ra.length = R) (hs : Small ra) : Ok (d_told_right [houseD R ws, ranksD rk, raisedD ra] S) fun r S' => Kp [] S S' := by
  have r5 := H.r5
  simp [d_told_right, b_told_right, startD]
  refine Ok.imp (r_ranked H hl hd) ?_
  rintro _ S1 kp1
  refine Ok.imp (r_raised_form (k := 3) (w := 1400) (rd_raised hs (by omega)) (by decide) (by decide)) ?_
  rintro r S2 ⟨rfl, kp2⟩
  rw [raisedOk_raised hra]
  simp
  exact kp1.trans kp2
theorem r_raised_error {R : Nat} {ws : List (List Stp)} {v : D} (H : HOk R ws) (hv : Rd [] k w S v) (hk : k ≤ 50) (hw : w ≤ 90000) : Ok (d_raised_error [houseD R ws, v] S) fun r S' => r = (if raisedOk R v = true then .non else .str "form") ∧ Kp [] S S' := by
  simp [d_raised_error, b_raised_error, startD]
  refine Ok.imp (r_calm H) ?_
  rintro _ S1 kp1
  refine Ok.imp (r_raised_form (hv.mono kp1) hk hw) ?_
  rintro r S2 ⟨rfl, kp2⟩
  cases raisedOk R v <;> simp <;> exact kp1.trans kp2
theorem r_handed_right {R : Nat} {ws : List (List Stp)} {h : Nat} (hh : h < ws.length) : d_handed_right [houseD R ws, .int (h : Nat)] S = .ok .non S := by
  refine eqOf ?_
  have ixh : ∀ (S : Sto), opIx (houseD R ws) (.int 1) S = .ok (.tup (ws.map wayD)) S := fun S => rfl
  have e : whole (.int (h : Nat)) ws.length = true := by
    unfold whole
    simp
    omega
  simp [d_handed_right, b_handed_right, startD, ixh]
  rw [r_is_within, e]
  simp
end
end Dn
set_option Elab.async false
set_option linter.all false
set_option maxRecDepth 100000
set_option maxHeartbeats 2000000
/-! Lg_k84: the longest wait. -/
noncomputable section
namespace Dn
open PySem L2
section
variable {S S' : Sto} {K : List Nat} {k w : Nat}
theorem ent_gen {α : Type} (f : α → D) (pr : α → Bool) (F : D → Option D) (hF : ∀ (i : Nat) (a : α), F (.tup [.int (i : Nat), f a]) = if pr a = true then some (.int (i : Nat)) else none) (l : List α) :
    ((l.map f).mapIdx fun i x => D.tup [.int (i : Nat), x]).filterMap F = ((List.range l.length).filter fun i => (l[i]?).any pr).map fun i => D.int (i : Nat) := by
  have gen : ∀ (l : List α) (o : Nat), ((l.map f).mapIdx fun i x => D.tup [.int ((o + i : Nat) : Int), x]).filterMap F = ((List.range l.length).filter fun i => (l[i]?).any pr).map fun i => D.int ((o + i : Nat) : Int) := by
    intro l
    induction l with
    | nil => intro o; rfl
    | cons s l ih =>
      intro o
      have e1 : ((List.range (l.length + 1)).filter fun i => ((s :: l)[i]?).any pr) = (if pr s = true then [0] else []) ++ ((List.range l.length).filter fun i => (l[i]?).any pr).map (· + 1) := by
        rw [List.range_succ_eq_map, List.filter_cons, List.filter_map]
        have e4 : ((fun i => ((s :: l)[i]?).any pr) ∘ Nat.succ) = fun i => (l[i]?).any pr := by
          funext i
          simp
        rw [e4]
        simp only [List.getElem?_cons_zero, Option.any_some]
        split <;> rfl
      have ih2 := ih (o + 1)
      have e2 : (fun (i : Nat) (x : D) => D.tup [.int ((o + (i + 1) : Nat) : Int), x]) = fun (i : Nat) (x : D) => D.tup [.int ((o + 1 + i : Nat) : Int), x] := by
        funext i x
        have : o + (i + 1) = o + 1 + i := by omega
        rw [this]
      have e6 : ((fun (i : Nat) => D.int ((o + i : Nat) : Int)) ∘ fun x => x + 1) = fun (i : Nat) => D.int ((o + 1 + i : Nat) : Int) := by
        funext i
        show D.int ((o + (i + 1) : Nat) : Int) = _
        have : o + (i + 1) = o + 1 + i := by omega
        rw [this]
      rw [List.map_cons, List.mapIdx_cons, List.length_cons, e1, List.map_append, List.map_map, List.filterMap_cons, e2, ih2, e6, hF]
      split
      · rename_i h
        split at h
        · cases h
        · rename_i hp
          simp [hp]
      · rename_i b h
        split at h
        · rename_i hp
          cases h
          simp [hp]
        · cases h
  have := gen l 0
  simpa using this
theorem maxI_cons (x y : Int) (r : List Int) : maxI (x :: y :: r) = max x (maxI (y :: r)) := by
  show (if maxI (y :: r) > x then maxI (y :: r) else x) = _
  split <;> omega
theorem maxI_snoc : ∀ (l : List Int) (a x : Int), maxI (a :: (l ++ [x])) = max (maxI (a :: l)) x
  | [], a, x => by
    rw [List.nil_append, maxI_cons]
    rfl
  | y :: l, a, x => by
    rw [List.cons_append, maxI_cons, maxI_snoc l y x, maxI_cons]
    omega
theorem maxI_ge0 : ∀ (l : List Int), 0 ≤ maxI (0 :: l)
  | [] => by decide
  | y :: l => by
    rw [maxI_cons]
    omega
def stepR (p : Int × Int) (b : Bool) : Int × Int := (max p.1 (if b = true then p.2 + 1 else 0), if b = true then p.2 + 1 else 0)
theorem stepR_max : ∀ (bs : List Bool) (f m : Int), 0 ≤ f → (bs.foldl stepR (f, m)).1 = max f (bs.foldl stepR (0, m)).1
  | [], f, m, h => by
    show f = max f 0
    omega
  | b :: bs, f, m, h => by
    simp only [List.foldl_cons, stepR]
    generalize (if b = true then m + 1 else 0) = m'
    rw [stepR_max bs (max f m') m' (by omega), stepR_max bs (max 0 m') m' (by omega)]
    omega
theorem stepR_ge : ∀ (bs : List Bool) (p : Int × Int), p.1 ≤ (bs.foldl stepR p).1
  | [], p => Int.le_refl _
  | b :: bs, p => by
    have h := stepR_ge bs (stepR p b)
    have h2 : p.1 ≤ (stepR p b).1 := by
      unfold stepR
      show p.1 ≤ max p.1 _
      omega
    rw [List.foldl_cons]
    omega
theorem stepR_le : ∀ (bs : List Bool) (f m : Int), 0 ≤ m → 0 ≤ f → (bs.foldl stepR (f, m)).1 ≤ max f (m + bs.length) ∧ True
  | [], f, m, h, h2 => ⟨by show f ≤ max f (m + 0); omega, trivial⟩
  | b :: bs, f, m, h, h2 => by
    refine ⟨?_, trivial⟩
    simp only [List.foldl_cons, stepR]
    have e : (0 : Int) ≤ (if b = true then m + 1 else 0) ∧ (if b = true then m + 1 else 0) ≤ m + 1 := by
      cases b <;> simp <;> omega
    generalize (if b = true then m + 1 else 0) = m' at e
    have ih := (stepR_le bs (max f m') m' e.1 (by omega)).1
    rw [List.length_cons]
    omega
def bsT (w : List Stp) (x : Int) (ra : List Cap) (q : Int) (i : Nat) : List Bool := (List.range i).map fun k => decide (q ≤ rankT x ra (heldT w k))
theorem bsT_succ (w : List Stp) (x : Int) (ra : List Cap) (q : Int) (i : Nat) (p : Int × Int) : (bsT w x ra q (i + 1)).foldl stepR p = stepR ((bsT w x ra q i).foldl stepR p) (decide (q ≤ rankT x ra (heldT w i))) := by
  unfold bsT
  rw [List.range_succ, List.map_append, List.foldl_append]
  rfl
def lonT (w : List Stp) (x : Int) (ra : List Cap) (q : Int) : Int := ((bsT w x ra q w.length).foldl stepR (0, 0)).1
theorem max_if {a b : Int} : (if b > a then b else a) = max a b := by split <;> omega
theorem r_longest {R h : Nat} {ws : List (List Stp)} {w : List Stp} {ra : List Cap} {rk : List Int} {x q : Int} (H : HOk R ws) (hra : ra.length = R) (hh : ws[h]? = some w) (hx : rk[h]? = some x) :
    Ok (d_longest_raised [houseD R ws, ranksD rk, raisedD ra, .int (h : Nat), .int q] S) fun r S' => r = .int (lonT w x ra q) ∧ Kp [] S S' := by
  have e1 : (ws.map wayD)[h]? = some (wayD w) := by simp [hh]
  have hl := H.len w (List.mem_of_getElem? hh)
  have ixh : ∀ (S : Sto), opIx (houseD R ws) (.int 1) S = .ok (.tup (ws.map wayD)) S := fun S => rfl
  simp [d_longest_raised, b_longest_raised, startD, lim_eq]
  refine ok_forR (n := w.length) (by omega) (fun i δ S' => Kp [] S S' ∧ ∃ v7, δ = [some (houseD R ws), some (ranksD rk), some (raisedD ra), some (.int (h : Nat)), some (.int q), some (.int ((bsT w x ra q i).foldl stepR (0, 0)).1), some (.int ((bsT w x ra q i).foldl stepR (0, 0)).2), v7]) ?_ ?_ ?_
  · simp [ixh, p_ixT e1, wayD, Kp.refl, bsT]
  · rintro i δ S1 hi ⟨kp, v7, rfl⟩
    simp
    refine Ok.imp (r_rank_at H hra hh hx hi) ?_
    rintro r S2 ⟨rfl, kp2⟩
    simp [bsT_succ]
    generalize (bsT w x ra q i).foldl stepR (0, 0) = p
    by_cases c : q ≤ rankT x ra (heldT w i)
    · simp [c, stepR, max_if, kp.trans kp2]
    · simp [c, stepR, max_if, kp.trans kp2]
      omega
  · rintro δ S1 ⟨kp, v7, rfl⟩
    simp [lonT, kp]
def lowB (rk : List Int) (q : Int) (i : Nat) : Bool := (rk[i]?).any fun x => decide (x < q)
def lonA (ws : List (List Stp)) (rk : List Int) (ra : List Cap) (q : Int) (i : Nat) : Int := lonT (ws[i]?.getD []) (rk[i]?.getD 0) ra q
/-- after i hands -/
def waitT (ws : List (List Stp)) (rk : List Int) (ra : List Cap) (q : Int) (i : Nat) : Int := maxI (0 :: ((List.range i).filter (lowB rk q)).map (lonA ws rk ra q))
theorem waitT_succ (ws : List (List Stp)) (rk : List Int) (ra : List Cap) (q : Int) (i : Nat) : waitT ws rk ra q (i + 1) = if lowB rk q i = true then max (waitT ws rk ra q i) (lonA ws rk ra q i) else waitT ws rk ra q i := by
  unfold waitT
  rw [List.range_succ, List.filter_append, List.map_append]
  cases h : lowB rk q i with
  | true =>
    have e : [i].filter (lowB rk q) = [i] := by simp [h]
    rw [e, List.map_singleton, maxI_snoc]
    rfl
  | false =>
    have e : [i].filter (lowB rk q) = [] := by simp [h]
    rw [e, List.map_nil, List.append_nil]
    rfl
theorem r_law_longest {R h p0 : Nat} {ws : List (List Stp)} {cs : List Nat} {ra : List Cap} {rk : List Int} {q : Int} (H : HOk R ws) (P : PlanAt K S p0 ws cs) (hra : ra.length = R) (hrk : rk.length = ws.length) (hq : rk[h]? = some q) :
    Ok (d_law_longest [.cell p0, ranksD rk, raisedD ra, .int (h : Nat)] S) fun r S' => r = .int (waitT ws rk ra q ws.length) ∧ Kp [] S S' := by
  have P0 := P.nil
  have eq : (rk.map D.int)[h]? = some (.int q) := by simp [hq]
  simp [d_law_longest, b_law_longest, startD]
  refine ok_forEL (xs := cs.map D.cell) (c := p0) (fun i δ S' => Kp [] S S' ∧ ∃ v5 v6 v7 v8, δ = [some (.cell p0), some (ranksD rk), some (raisedD ra), some (.int (h : Nat)), some (.int (waitT ws rk ra q i)), v5, v6, v7, v8]) ?_ ?_ ?_ ?_
  · simp [Kp.refl]
    rfl
  · rintro i δ S1 ⟨kp, _⟩
    exact kp.get _ _ (by simp) P.pc
  · rintro i δ S1 x hx ⟨kp, v5, v6, v7, v8, rfl⟩
    obtain ⟨c, hc, rfl⟩ := map_get hx
    have hi : i < ws.length := by
      rw [← P.len]
      exact (List.getElem?_eq_some_iff.mp hc).1
    obtain ⟨w, hw⟩ : ∃ w, ws[i]? = some w := ⟨_, List.getElem?_eq_getElem hi⟩
    obtain ⟨x, hx2⟩ : ∃ x, rk[i]? = some x := ⟨_, List.getElem?_eq_getElem (by omega)⟩
    have ex : (rk.map D.int)[i]? = some (.int x) := by simp [hx2]
    have hl := H.len w (List.mem_of_getElem? hw)
    obtain ⟨_, rs, hrs, hrl, hro⟩ := P0.row i c w hc hw
    have hrs1 := kp.get _ _ (by simp) hrs
    have ixr : ∀ (S : Sto) (i : Nat) (q : Int), (rk.map D.int)[i]? = some (.int q) → opIx (ranksD rk) (.int (i : Nat)) S = .ok (.int q) S := fun S i q e => p_ixT e
    simp only [set_tp, setAll_cons, set_nm, setAll_nil, Option.bind_some]
    refine ⟨_, rfl, ?_⟩
    simp
    by_cases cl : x < q
    · have hlow : lowB rk q i = true := by simp [lowB, hx2, cl]
      have elon : lonA ws rk ra q i = lonT w x ra q := by simp [lonA, hw, hx2]
      have base0 : 0 ≤ waitT ws rk ra q i := maxI_ge0 _
      have fin : waitT ws rk ra q (i + 1) = ((bsT w x ra q w.length).foldl stepR (waitT ws rk ra q i, 0)).1 := by
        rw [waitT_succ, if_pos hlow, elon, stepR_max _ _ _ base0]
        rfl
      refine ok_forL (xs := (List.range w.length).map fun i => D.int (i : Nat)) (c := S1.length) (fun j δ S' => Kp [] S S' ∧ S'[S1.length]? = some (.lst ((List.range w.length).map fun i => D.int (i : Nat))) ∧ ∃ v8, δ = [some (.cell p0), some (ranksD rk), some (raisedD ra), some (.int (h : Nat)), some (.int ((bsT w x ra q j).foldl stepR (waitT ws rk ra q i, 0)).1), some (.int (i : Nat)), some (.cell c), some (.int ((bsT w x ra q j).foldl stepR (waitT ws rk ra q i, 0)).2), v8]) ?_ (fun j δ S' h => h.2.1) ?_ ?_
      · simp [ixr _ _ _ ex, ixr _ _ _ eq, cl]
        unfold dListRg
        simp [b_lenL hrs1, hrl]
        rw [if_pos (by omega)]
        simp [bsT]
        exact kp.push _
      · rintro j δ S2 y hy ⟨kp2, hc2, v8, rfl⟩
        obtain ⟨j', hj', rfl⟩ := map_get hy
        have hjj : j' = j ∧ j < w.length := by
          have h1 := (List.getElem?_eq_some_iff.mp hj').1
          have h2 := (List.getElem?_eq_some_iff.mp hj').2
          simp at h1 h2
          exact ⟨h2.symm, h1⟩
        obtain ⟨rfl, hj⟩ := hjj
        simp
        refine Ok.imp (r_law_rank_at H (P0.mono kp2) hra hw hx2 hj) ?_
        rintro r S3 ⟨rfl, kp3⟩
        simp [ixr _ _ _ eq, bsT_succ]
        have hc3 := kp3.get _ _ (by simp) hc2
        generalize (bsT w x ra q j').foldl stepR (waitT ws rk ra q i, 0) = p
        by_cases c4 : q ≤ rankT x ra (heldT w j')
        · simp [c4, stepR, max_if, kp2.trans kp3, hc3]
        · simp [c4, stepR, max_if, kp2.trans kp3, hc3]
          omega
      · rintro δ S2 ⟨kp2, hc2, v8, rfl⟩
        simp at kp2 ⊢
        simp [kp2, fin]
    · have hlow : lowB rk q i = false := by simp [lowB, hx2]; omega
      have fin : waitT ws rk ra q (i + 1) = waitT ws rk ra q i := by
        rw [waitT_succ, hlow]
        rfl
      refine ok_forL (xs := []) (c := S1.length) (fun j δ S' => Kp [] S S' ∧ S'[S1.length]? = some (.lst []) ∧ δ = [some (.cell p0), some (ranksD rk), some (raisedD ra), some (.int (h : Nat)), some (.int (waitT ws rk ra q i)), some (.int (i : Nat)), some (.cell c), some (.int 0), v8]) ?_ (fun j δ S' h => h.2.1) ?_ ?_
      · simp [ixr _ _ _ ex, ixr _ _ _ eq, cl, lim_eq]
        exact kp.push _
      · intro j δ S2 y hy
        simp at hy
      · rintro δ S2 ⟨kp2, hc2, rfl⟩
        simp [kp2, fin]
  · rintro δ S1 ⟨kp, v5, v6, v7, v8, rfl⟩
    rw [List.length_map, P.len]
    simp [kp]
theorem lonF_list (g : Nat → Int) : ∀ l : List Nat, (l.map fun i => D.int (i : Nat)).filterMap (fun d => match d with | .int i => some (D.int (g i.toNat)) | _ => none) = (l.map g).map D.int
  | [] => rfl
  | i :: l => by
    have ih := lonF_list g l
    rw [List.map_cons, List.filterMap_cons, ih]
    simp
theorem r_raised_wait {R h : Nat} {ws : List (List Stp)} {ra : List Cap} {rk : List Int} {q : Int} (H : HOk R ws) (hra : ra.length = R) (hrk : rk.length = ws.length) (hq : rk[h]? = some q)
    (told : Ok (d_told_right [houseD R ws, ranksD rk, raisedD ra] S) fun _ S' => Kp [] S S') : Ok (d_raised_wait [houseD R ws, ranksD rk, raisedD ra, .int (h : Nat)] S) fun r S' => r = .int (waitT ws rk ra q ws.length) ∧ Kp [] S S' := by
  have hh : h < ws.length := by
    rw [← hrk]
    exact (List.getElem?_eq_some_iff.mp hq).1
  have w5 := H.w5
  have eq : (rk.map D.int)[h]? = some (.int q) := by simp [hq]
  have ixr : ∀ (S : Sto) (i : Nat) (q : Int), (rk.map D.int)[i]? = some (.int q) → opIx (ranksD rk) (.int (i : Nat)) S = .ok (.int q) S := fun S i q e => p_ixT e
  simp [d_raised_wait, b_raised_wait, startD]
  refine Ok.imp told ?_
  rintro _ S1 kp1
  simp [r_handed_right hh]
  let F : D → Option D := fun d => match d with | .tup [.int i, .int x] => if x < q then some (.int i) else none | _ => none
  have hF : ∀ (i : Nat) (a : Int), F (.tup [.int (i : Nat), .int a]) = if decide (a < q) = true then some (.int (i : Nat)) else none := fun i a => by simp [F]
  refine ok_lcET (xs := rk.map D.int) F ?_ (by simp [lim_eq]; omega) ?_ ?_
  · simp [ranksD, Kp.refl]
  · intro i x hx S2 kp2
    obtain ⟨a, ha, rfl⟩ := map_get hx
    rw [hF]
    by_cases c : a < q
    · simp [wipeD, ixr _ _ _ eq, Kp.refl, c]
    · simp [wipeD, ixr _ _ _ eq, Kp.refl, c]
  · intro S2 c kp2 hlc hc
    rw [ent_gen D.int (fun a => decide (a < q)) F hF rk] at hc
    have hc' : S2[c]? = some (.lst (((List.range rk.length).filter (lowB rk q)).map fun i => D.int (i : Nat))) := hc
    have hlen : ((List.range rk.length).filter (lowB rk q)).length ≤ 5 := by
      have := List.length_filter_le (lowB rk q) (List.range rk.length)
      rw [List.length_range] at this
      omega
    simp [lim_eq]
    have hc2 : (S2 ++ [C.lst [D.int 0]])[c]? = some (.lst (((List.range rk.length).filter (lowB rk q)).map fun i => D.int (i : Nat))) := (Kp.app [] S2 _).get _ _ (by simp) hc'
    refine ok_lcL (xs := ((List.range rk.length).filter (lowB rk q)).map fun i => D.int (i : Nat)) (c0 := c) (fun d => match d with | .int i => some (D.int (lonA ws rk ra q i.toNat)) | _ => none) ?_ hc2 (by rw [List.length_map]; simp [lim_eq]; omega) ?_ ?_
    · simp [Kp.refl]
    · intro x hx S3 kp3
      obtain ⟨i, hi, rfl⟩ := List.mem_map.mp hx
      have hi2 : i < ws.length := by
        have := (List.mem_filter.mp hi).1
        rw [← hrk]
        exact List.mem_range.mp this
      obtain ⟨w, hw⟩ : ∃ w, ws[i]? = some w := ⟨_, List.getElem?_eq_getElem hi2⟩
      obtain ⟨x, hx2⟩ : ∃ x, rk[i]? = some x := ⟨_, List.getElem?_eq_getElem (by omega)⟩
      simp [wipeD, Kp.refl, ixr _ _ _ eq]
      refine Ok.imp (r_longest H hra hw hx2) ?_
      rintro r S4 ⟨rfl, kp4⟩
      exact ⟨kp4, by simp [lonA, hw, hx2]⟩
    · intro S3 c3 kp3 hl3 hc3
      rw [lonF_list] at hc3
      have hc0 : S3[S2.length]? = some (.lst [.int 0]) := kp3.get _ _ (by simp) (get_push S2 _)
      rw [p_addL hc0 hc3]
      simp [lim_eq]
      refine ⟨by omega, ?_⟩
      have e3 : (S3 ++ [C.lst (.int 0 :: (((List.range rk.length).filter (lowB rk q)).map (lonA ws rk ra q)).map D.int)])[S3.length]? = some (.lst ((0 :: ((List.range rk.length).filter (lowB rk q)).map (lonA ws rk ra q)).map D.int)) := by simp
      rw [List.map_map] at e3
      have e5 := b_maxL e3
      rw [e5]
      refine ⟨?_, (kp1.trans (kp2.trans ((Kp.app _ _ _).trans kp3))).push _⟩
      rw [hrk]
      rfl
end
end Dn
set_option Elab.async false
set_option linter.all false
set_option maxRecDepth 100000
set_option maxHeartbeats 2000000
/-! Lh_k84: the deck. -/
noncomputable section
namespace Dn
open PySem L2
section
variable {δ : En} {S : Sto} {Q : Po} {P : D → Sto → Prop} {o i v : DE}
@[simp] theorem o_dput {k : Str} : OkS (dDPut o k v δ S) Q = Ok (v δ S) fun d S1 => Ok (o δ S1) fun x S2 => ∃ S4, putAt x (.str k) d S2 = some S4 ∧ Q.nx δ S4 := by
  unfold dDPut
  rw [OkS_then]
  congr
  funext d S1
  rw [OkS_then]
  congr
  funext x S2
  cases putAt x (.str k) d S2 <;> simp
@[simp] theorem o_iput : OkS (dIPut o i v δ S) Q = Ok (v δ S) fun d S1 => Ok (o δ S1) fun x S2 => Ok (i δ S2) fun y S3 => ∃ j S4, y = .int j ∧ putAt x (.int j) d S3 = some S4 ∧ Q.nx δ S4 := by
  unfold dIPut
  rw [OkS_then]
  congr
  funext d S1
  rw [OkS_then]
  congr
  funext x S2
  rw [OkS_then]
  congr
  funext y S3
  cases y with
  | int j => cases h : putAt x (.int j) d S3 <;> simp [h]
  | _ => simp
theorem allPy_ints {n : Nat} : ∀ l : List Int, allPy (toPy (n + 1) S) (l.map D.int) = some (l.map PyData.int)
  | [] => rfl
  | i :: l => by
    have ih := allPy_ints (n := n) l
    rw [List.map_cons, List.map_cons]
    unfold allPy
    rw [ih]
    rfl
theorem ints_lay : ∀ l : List Int, PyData.canLayAll0 (l.map PyData.int) = true ∧ PyData.depthAll (l.map PyData.int) = 0
  | [] => ⟨rfl, rfl⟩
  | i :: l => by
    obtain ⟨h1, h2⟩ := ints_lay l
    rw [List.map_cons]
    refine ⟨?_, ?_⟩
    · simp only [PyData.canLayAll0, PyData.canLay0, h1, Bool.and_self]
    · simp only [PyData.depthAll, PyData.depth, h2]
      rfl
/-- a list of any ints and the empty one -/
theorem eqI_nil {neg : Bool} {c c2 : Nat} {l : List Int} (hc : S[c]? = some (.lst (l.map D.int))) (hc2 : S[c2]? = some (.lst [])) : opEqG neg (.cell c) (.cell c2) S = .ok (.bl (if neg then !l.isEmpty else l.isEmpty)) S := by
  have e1 : toPy 60 S (.cell c) = some (.list (l.map PyData.int)) := by
    unfold toPy
    simp only [hc, allPy_ints (n := 58) l]
    rfl
  have e2 : toPy 60 S (.cell c2) = some (.list []) := by
    unfold toPy
    simp only [hc2]
    rfl
  obtain ⟨l1, l2⟩ := ints_lay l
  show opEqP neg (.cell c) (.cell c2) S = _
  unfold opEqP
  have s1 : SeqAt.shaped (.list (l.map PyData.int)) = true := by
    have hd : PyData.depth (.list (l.map PyData.int)) ≤ 64 := by
      simp only [PyData.depth]
      omega
    have hl : PyData.canLay0 (.list (l.map PyData.int)) = true := by simpa only [PyData.canLay0] using l1
    unfold SeqAt.shaped
    rw [hl, decide_eq_true hd]
    rfl
  have s2 : SeqAt.shaped (.list []) = true := by decide
  have e3 : PyData.eqv (.list (l.map PyData.int)) (.list []) = l.isEmpty := by
    cases l with
    | nil => simp [PyData.eqv, PyData.eqvAll]
    | cons x xs => simp [PyData.eqv, PyData.eqvAll]
  simp only [e1, e2, s1, s2, e3, Bool.and_self, if_true]
theorem p_neI0 {c c2 : Nat} {l : List Int} (hc : S[c]? = some (.lst (l.map D.int))) (hc2 : S[c2]? = some (.lst [])) : opNe (.cell c) (.cell c2) S = .ok (.bl (!l.isEmpty)) S := eqI_nil (neg := true) hc hc2
theorem p_eqI0 {c c2 : Nat} {l : List Int} (hc : S[c]? = some (.lst (l.map D.int))) (hc2 : S[c2]? = some (.lst [])) : opEq (.cell c) (.cell c2) S = .ok (.bl l.isEmpty) S := eqI_nil (neg := false) hc hc2
end
/-! ### the deck -/
def dk (kg : Nat) (m t : Int) : List (Key × D) := [(.inr "great", .cell kg), (.inr "mixed", .int m), (.inr "turns", .int t)]
theorem n_gm : ¬ (("great" : Str) = "mixed") := by decide +kernel
theorem n_gt : ¬ (("great" : Str) = "turns") := by decide +kernel
theorem n_mt : ¬ (("mixed" : Str) = "turns") := by decide +kernel
theorem n_mg : ¬ (("mixed" : Str) = "great") := by decide +kernel
theorem n_tg : ¬ (("turns" : Str) = "great") := by decide +kernel
theorem n_tm : ¬ (("turns" : Str) = "mixed") := by decide +kernel
theorem dk_g {kg : Nat} {m t : Int} : valD (dk kg m t) (.inr "great") = some (.cell kg) := by simp [valD, dk]
theorem dk_m {kg : Nat} {m t : Int} : valD (dk kg m t) (.inr "mixed") = some (.int m) := by simp [valD, dk, List.find?_cons, n_gm]
theorem dk_t {kg : Nat} {m t : Int} : valD (dk kg m t) (.inr "turns") = some (.int t) := by simp [valD, dk, List.find?_cons, n_gt, n_mt]
theorem dk_pm {kg : Nat} {m t x : Int} : putD (dk kg m t) (.inr "mixed") (.int x) = dk kg x t := by simp [putD, dk, n_gm, n_tm]
theorem dk_pt {kg : Nat} {m t x : Int} : putD (dk kg m t) (.inr "turns") (.int x) = dk kg m x := by simp [putD, dk, n_gt, n_mt]
structure Deck (kd kg : Nat) (S : Sto) : Prop where
  ne : kd ≠ kg
  ex : ∃ (m t : Int) (gs : List Int), S[kd]? = some (.dic (dk kg m t)) ∧ S[kg]? = some (.lst (gs.map D.int)) ∧ gs.length ≤ 100 ∧ ∀ g ∈ gs, 0 ≤ g
section
variable {S S' : Sto} {kd kg : Nat}
theorem Deck.keep (h : Deck kd kg S) (k : ∀ n c, (n = kd ∨ n = kg) → S[n]? = some c → S'[n]? = some c) : Deck kd kg S' := by
  obtain ⟨ne, m, t, gs, h1, h2, h3, h4⟩ := h
  exact ⟨ne, m, t, gs, k _ _ (.inl rfl) h1, k _ _ (.inr rfl) h2, h3, h4⟩
theorem Deck.kp (h : Deck kd kg S) (k : Kp [] S S') : Deck kd kg S' := h.keep fun n c _ e => k.get n c (by simp) e
theorem Deck.push (h : Deck kd kg S) (T : Sto) : Deck kd kg (S ++ T) := h.kp (Kp.app _ _ _)
theorem Deck.set (h : Deck kd kg S) {c : Nat} (hc : c ∉ [kd, kg]) (x : C) : Deck kd kg (S.set c x) := h.keep fun n c' hn e => by
  have : c ≠ n := fun z => hc (by rcases hn with rfl | rfl <;> simp [z])
  rw [List.getElem?_set_ne this]
  exact e
theorem Deck.lt (h : Deck kd kg S) : kd < S.length ∧ kg < S.length := by
  obtain ⟨ne, m, t, gs, h1, h2, _⟩ := h
  exact ⟨lt_of_get h1, lt_of_get h2⟩
theorem Deck.fresh (h : Deck kd kg S) {c : Nat} (hc : S.length ≤ c) : c ∉ [kd, kg] := by
  have := h.lt
  simp
  omega
theorem opDG {n : Nat} {kvs : List (Key × D)} {k : Str} {d : D} (h : S[n]? = some (.dic kvs)) (hv : valD kvs (.inr k) = some d) : opDGet (.cell n) (.str k) S = .ok d S := by
  unfold opDGet
  simp only [h, hv]
theorem putA {n : Nat} {kvs : List (Key × D)} {k : Str} {d : D} (h : S[n]? = some (.dic kvs)) (hl : kvs.length < lim) : putAt (.cell n) (.str k) d S = some (S.set n (.dic (putD kvs (.inr k) d))) := by
  unfold putAt
  simp only [h, hl, if_true]
theorem fmod_nat {x : Int} {n : Nat} (hn : 0 < n) : ∃ i : Nat, x.fmod (n : Int) = (i : Int) ∧ i < n := by
  have h1 : 0 ≤ x.fmod (n : Int) := Int.fmod_nonneg_of_pos x (by omega)
  have h2 : x.fmod (n : Int) < n := Int.fmod_lt_of_pos x (by omega)
  exact ⟨(x.fmod n).toNat, by omega, by omega⟩
theorem fmodI {x m : Int} (hm : 0 < m) : ∃ i : Nat, x.fmod m = (i : Int) ∧ (i : Int) < m := by
  have h1 : 0 ≤ x.fmod m := Int.fmod_nonneg_of_pos x hm
  have h2 : x.fmod m < m := Int.fmod_lt_of_pos x hm
  exact ⟨(x.fmod m).toNat, by omega, by omega⟩
theorem mb1 : (-(2 ^ 64) : Int) < 2654435761 ∧ (2654435761 : Int) < 2 ^ 64 := ⟨by omega, by omega⟩
theorem mb2 : (-(2 ^ 64) : Int) < 40692 ∧ (40692 : Int) < 2 ^ 64 := ⟨by omega, by omega⟩
theorem mb3 : (-(2 ^ 64) : Int) < 11 ∧ (11 : Int) < 2 ^ 64 := ⟨by omega, by omega⟩
theorem mz1 : (4294967279 : Int) ≠ 0 := by omega
theorem mz2 : (4294967231 : Int) ≠ 0 := by omega
theorem mz3 : (4294967197 : Int) ≠ 0 := by omega
theorem mp1 : (0 : Int) < 4294967279 := by omega
theorem mp2 : (0 : Int) < 4294967231 := by omega
theorem mp3 : (0 : Int) < 4294967197 := by omega
theorem ml1 {i : Nat} (h : (i : Int) < 4294967279) : (-(2 ^ 64) : Int) < i ∧ (i : Int) < 2 ^ 64 := ⟨by omega, by omega⟩
theorem ml2 {i : Nat} (h : (i : Int) < 4294967231) : (-(2 ^ 64) : Int) < i ∧ (i : Int) < 2 ^ 64 := ⟨by omega, by omega⟩
theorem mz64 : (64 : Int) ≠ 0 ∧ (64 : Int).natAbs < 1073741824 := ⟨by omega, by omega⟩
abbrev Dw (kd kg : Nat) (S S' : Sto) : Prop := Deck kd kg S' ∧ Kp [kd, kg] S S'
theorem r_draw (Dk : Deck kd kg S) {n : Nat} (hn : n ≤ 1000000) : Ok (d_law_draw [.cell kd, .int (n : Nat)] S) fun r S' => ∃ i : Nat, r = .int (i : Nat) ∧ (1 ≤ n → i < n) ∧ (i < n ∨ i = 0) ∧ Dw kd kg S S' := by
  by_cases h2 : n < 2
  · have h2' : (n : Int) < 2 := by omega
    simp [d_law_draw, b_law_draw, startD, h2']
    refine ⟨0, rfl, by omega, .inr rfl, Dk, Kp.refl _ _⟩
  · have h2' : ¬ (n : Int) < 2 := by omega
    obtain ⟨ne, m, t, gs, e1, e2, hl, hg⟩ := id Dk
    have hn0 : ((n : Int)) ≠ 0 := by omega
    simp [d_law_draw, b_law_draw, startD, h2', lim_eq]
    rw [opDG e1 dk_g]
    have e1' : (S ++ [C.lst []])[kd]? = some (.dic (dk kg m t)) := (Kp.app [] S _).get _ _ (by simp) e1
    have e2' : (S ++ [C.lst []])[kg]? = some (.lst (gs.map D.int)) := (Kp.app [] S _).get _ _ (by simp) e2
    have k0 : Kp [kd, kg] S (S ++ [C.lst []]) := Kp.app _ _ _
    simp [p_neI0 e2' (get_push S _)]
    by_cases hgs : gs = []
    · subst hgs
      simp
      have hA := mb1
      have hB := mb2
      have hC := mb3
      have hM1 := mz1
      have hM2 := mz2
      have hM3 := mz3
      have hP1 := mp1
      have hP2 := mp2
      have hL1 := @ml1
      have hL2 := @ml2
      have hZ := mz64
      generalize (2654435761 : Int) = A at *
      generalize (40692 : Int) = B at *
      generalize (11 : Int) = CC at *
      generalize (4294967279 : Int) = M1 at *
      generalize (4294967231 : Int) = M2 at *
      generalize (4294967197 : Int) = M3 at *
      generalize (64 : Int) = Z at *
      generalize S ++ [C.lst []] = S1 at *
      simp [opDG e1' dk_t]
      have pt := putA (k := "turns") (d := .int (t + 1)) e1' (by simp [dk, lim_eq])
      rw [dk_pt] at pt
      refine ⟨_, pt, ?_⟩
      have e3 : (S1.set kd (.dic (dk kg m (t + 1))))[kd]? = some (.dic (dk kg m (t + 1))) := get_set e1'
      have e4 : (S1.set kd (.dic (dk kg m (t + 1))))[kg]? = some (.lst (([] : List Int).map D.int)) := by
        rw [List.getElem?_set_ne ne]
        exact e2'
      have k1 : Kp [kd, kg] S (S1.set kd (.dic (dk kg m (t + 1)))) := k0.set (.inr (by simp)) _
      have D1 : Deck kd kg (S1.set kd (.dic (dk kg m (t + 1)))) := ⟨ne, m, t + 1, [], e3, e4, by simp, by simp⟩
      generalize S1.set kd (.dic (dk kg m (t + 1))) = S2 at *
      rw [opDG e3 dk_m, Ok_ok, opDG e3 dk_t, Ok_ok, p_mul (.inl hA), Ok_ok, p_add, Ok_ok, b_intI, Ok_ok, p_mod hM1, Ok_ok]
      obtain ⟨n1, g1, g2⟩ := fmodI (x := m + A * (t + 1)) hP1
      rw [g1, p_mul (.inl (hL1 g2)), Ok_ok, opDG e3 dk_t, Ok_ok, p_mul (.inl hB), Ok_ok, p_add, Ok_ok, p_add, Ok_ok, b_intI, Ok_ok, p_mod hM2, Ok_ok]
      obtain ⟨n2, g3, g4⟩ := fmodI (x := (n1 : Int) * n1 + B * (t + 1) + 23) hP2
      rw [g3, p_mul (.inl (hL2 g4)), Ok_ok, opDG e3 dk_m, Ok_ok, p_mul (.inr hC), Ok_ok, p_add, Ok_ok, b_intI, Ok_ok, p_mod hM3, Ok_ok, p_fdiv hZ.1 hZ.2, Ok_ok, b_intI, Ok_ok, p_mod hn0, Ok_ok]
      obtain ⟨i, h5, h6⟩ := fmod_nat (x := ((((n2 : Int) * n2 + m * CC).fmod M3).fdiv Z)) (n := n) (by omega)
      exact ⟨i, by rw [h5], fun _ => h6, .inl h6, D1, k1⟩
    · obtain ⟨l, g, hlg⟩ : ∃ l g, gs = l ++ [g] := ⟨gs.dropLast, gs.getLast hgs, (List.dropLast_concat_getLast hgs).symm⟩
      subst hlg
      have g0 : 0 ≤ g := hg g (by simp)
      have hll : l.length < 100 := by simp at hl; omega
      have hg' : ∀ x ∈ l, 0 ≤ x := fun x hx => hg x (by simp [hx])
      simp
      generalize S ++ [C.lst []] = S1 at *
      have e2'' : S1[kg]? = some (.lst (l.map D.int ++ [.int g])) := by rw [e2']; simp
      simp [opDG e1' dk_g, isL_cell e2'', m_pop e2'']
      have e3 : (S1.set kg (.lst (l.map D.int)))[kg]? = some (.lst (l.map D.int)) := get_set e2''
      have e4 : (S1.set kg (.lst (l.map D.int)))[kd]? = some (.dic (dk kg m t)) := by
        rw [List.getElem?_set_ne (Ne.symm ne)]
        exact e1'
      have k1 : Kp [kd, kg] S (S1.set kg (.lst (l.map D.int))) := k0.set (.inr (by simp)) _
      generalize S1.set kg (.lst (l.map D.int)) = S2 at *
      obtain ⟨i, h5, h6⟩ := fmod_nat (x := g) (n := n) (by omega)
      by_cases hgn : (n : Int) ≤ g
      · have hgn2 : ¬ g < (n : Int) := by omega
        simp [hgn, hgn2, opDG e4 dk_g, isL_cell e3, p_fdiv hn0 (by omega : (n : Int).natAbs < 1073741824)]
        rw [m_app e3 (by simp [lim_eq]; omega)]
        simp [p_mod hn0]
        have e5 : (S2.set kg (.lst (l.map D.int ++ [.int (g.fdiv n)])))[kg]? = some (.lst ((l ++ [g.fdiv n]).map D.int)) := by
          rw [get_set e3]
          simp
        have e6 : (S2.set kg (.lst (l.map D.int ++ [.int (g.fdiv n)])))[kd]? = some (.dic (dk kg m t)) := by
          rw [List.getElem?_set_ne (Ne.symm ne)]
          exact e4
        refine ⟨i, h5, fun _ => h6, .inl h6, ⟨ne, m, t, _, e6, e5, by simp; omega, fun x hx => ?_⟩, k1.set (.inr (by simp)) _⟩
        rcases List.mem_append.mp hx with hx | hx
        · exact hg' x hx
        · rw [List.mem_singleton.mp hx]
          exact Int.fdiv_nonneg g0 (by omega)
      · have hgn2 : g < (n : Int) := by omega
        simp [hgn, hgn2, p_mod hn0]
        exact ⟨i, h5, fun _ => h6, .inl h6, ⟨ne, m, t, l, e4, e3, by omega, hg'⟩, k1⟩
theorem r_pick (Dk : Deck kd kg S) {c : Nat} {xs : List D} (hc : S[c]? = some (.lst xs)) (hn : c ∉ [kd, kg]) (hne : xs ≠ []) (hl : xs.length ≤ 1000) : Ok (d_law_pick [.cell kd, .cell c] S) fun r S' => r ∈ xs ∧ Dw kd kg S S' := by
  have hpos : 1 ≤ xs.length := List.length_pos_iff.mpr hne
  simp [d_law_pick, b_law_pick, startD, b_lenL hc]
  refine Ok.imp (r_draw Dk (n := xs.length) (by omega)) ?_
  rintro r S1 ⟨i, rfl, hi, _, D1, k1⟩
  have hi' := hi hpos
  rw [p_ixL (k1.get _ _ hn hc) (List.getElem?_eq_getElem hi')]
  simp
  exact ⟨D1, k1⟩
end
end Dn
set_option Elab.async false
set_option linter.all false
set_option maxRecDepth 100000
set_option maxHeartbeats 2000000
/-! Li_k84: the deck laid, any value. -/
noncomputable section
namespace Dn
open PySem L2
section
variable {δ : En} {S : Sto} {P : D → Sto → Prop}
theorem o_disp {l : List (Str × DE)} : Ok (dDisp l δ S) P = Ok (dPairs l δ (S ++ [.dic []])) fun kvs S1 => S1[S.length]? = some (.dic []) ∧ kvs.length ≤ 15 ∧ P (.cell S.length) (S1.set S.length (.dic (mergeD [] kvs))) := by
  unfold dDisp
  rw [Ok_bnd]
  congr
  funext kvs S1
  apply propext
  constructor
  · intro h
    split at h
    · rename_i e
      split at h
      · rename_i hl
        exact ⟨e, hl, h⟩
      · exact h.elim
    · exact h.elim
  · rintro ⟨e, hl, h⟩
    simp only [e, hl, if_true]
    exact h
theorem o_pnil {P : List (Key × D) → Sto → Prop} : Ok (dPairs [] δ S) P = P [] S := rfl
theorem o_pcons {k : Str} {e : DE} {r : List (Str × DE)} {P : List (Key × D) → Sto → Prop} : Ok (dPairs ((k, e) :: r) δ S) P = Ok (e δ S) fun d S1 => Ok (dPairs r δ S1) fun ds S2 => P ((.inr k, d) :: ds) S2 := by
  show Ok ((e δ S).bnd _) P = _
  rw [Ok_bnd]
  congr
  funext d S1
  rw [Ok_bnd]
  rfl
theorem o_slRo {xs : List D} {lo hi : Option Int} : Ok (opSl (.ro xs) lo hi S) P = P (.cell S.length) (S ++ [.lst (cutD xs lo hi)]) := rfl
end
theorem merge3 {g m t : D} : mergeD [] [((Sum.inr ("great" : Str) : Key), g), ((Sum.inr ("mixed" : Str) : Key), m), ((Sum.inr ("turns" : Str) : Key), t)] = [((Sum.inr ("great" : Str) : Key), g), ((Sum.inr ("mixed" : Str) : Key), m), ((Sum.inr ("turns" : Str) : Key), t)] := by
  simp [mergeD, putD, n_gm, n_gt, n_mt]
theorem mb4 : (-(2 ^ 64) : Int) < 2 ∧ (2 : Int) < 2 ^ 64 := ⟨by omega, by omega⟩
theorem mb5 : (-(2 ^ 64) : Int) < 69621 ∧ (69621 : Int) < 2 ^ 64 := ⟨by omega, by omega⟩
theorem mz4 : (4294967291 : Int) ≠ 0 := by omega
theorem mpw : (0 : Int) ≤ 16 ∧ (16 : Int) ≤ 1000000 ∧ (10 : Int).natAbs < 2 ^ 64 := ⟨by omega, by omega, by decide⟩
theorem r_law_deck {ns : List Int} : Ok (d_law_deck [.ro (ns.map D.int)] []) fun r S' => r = .cell 0 ∧ Deck 0 1 S' := by
  have e63 : cutD (ns.map D.int) none (some 63) = (ns.take 63).map D.int := by
    have := cut_to (xs := ns.map D.int) (k := 63)
    rw [List.map_take]
    exact this
  simp only [d_law_deck, b_law_deck, startD, o_fn, o_seq, o_set, o_disp, o_pcons, o_pnil]
  simp [o_slRo, e63, lim_eq]
  have hb : bLen [.cell 2] [C.dic [], C.lst [], C.lst (List.take 63 (List.map D.int ns))] = .ok (.int (List.take 63 (List.map D.int ns)).length) [C.dic [], C.lst [], C.lst (List.take 63 (List.map D.int ns))] := b_lenL rfl
  rw [hb, Ok_ok, p_add, Ok_ok]
  generalize (1591384 : Int) + _ = m0
  rw [merge3]
  refine ⟨rfl, ?_⟩
  refine ok_forL (xs := (ns.take 63).map D.int) (c := 3) (fun i δ S' => S'[3]? = some (.lst ((ns.take 63).map D.int)) ∧ (∃ v2 v3, δ = [some (.ro (ns.map D.int)), some (.cell 0), v2, v3]) ∧ ∃ (m : Int) (gs : List Int), S'[0]? = some (.dic (dk 1 m 0)) ∧ S'[1]? = some (.lst (gs.map D.int)) ∧ gs.length ≤ i ∧ ∀ g ∈ gs, 0 ≤ g) ?_ (fun i δ S' h => h.1) ?_ ?_
  · simp [o_slRo, e63]
    exact ⟨m0, rfl⟩
  · rintro i δ S1 x hx ⟨h3, ⟨v2, v3, rfl⟩, m, gs, h0, h1, hl, hg⟩
    obtain ⟨z, hz, rfl⟩ := map_get hx
    have hi : i < 63 := by
      have := (List.getElem?_eq_some_iff.mp hz).1
      simp at this
      omega
    refine ⟨_, set_nm, ?_⟩
    simp
    generalize hA : (if z < 0 then -z else z) = az
    have haz : 0 ≤ az := by
      rw [← hA]
      split <;> omega
    generalize hB : (if z < 0 then (1 : Int) else 0) = bz
    have hbz : 0 ≤ bz := by
      rw [← hB]
      split <;> omega
    rw [p_mul (.inl mb4), Ok_ok, p_add, Ok_ok]
    generalize hO : 2 * az + bz = own
    have hown : 0 ≤ own := by omega
    simp only [p_pow mpw, Ok_ok, p_ge]
    generalize (10 : Int) ^ ((16 : Int).toNat) = big
    -- the rest, from either side
    have tail : ∀ (S2 : Sto) (gs2 : List Int), S2[3]? = some (.lst ((ns.take 63).map D.int)) → S2[0]? = some (.dic (dk 1 m 0)) → S2[1]? = some (.lst (gs2.map D.int)) → gs2.length ≤ i + 1 → (∀ g ∈ gs2, 0 ≤ g) →
        Ok (opDGet (.cell 0) (.str "mixed") S2) fun x S2 => Ok (opMul x (.int 69621) S2) fun x S1 => Ok (opAdd x (.int own) S1) fun x S1 => Ok (opAdd x (.int 29) S1) fun x S1 => Ok (bInt [x] S1) fun x S1 => Ok (opMod x (.int 4294967291) S1) fun d S1 => ∃ S4, putAt (.cell 0) (.str "mixed") d S1 = some S4 ∧
          S4[3]? = some (.lst (List.take 63 (List.map D.int ns))) ∧ (∃ (m : Int), S4[0]? = some (.dic (dk 1 m 0))) ∧ ∃ gs : List Int, S4[1]? = some (.lst (gs.map D.int)) ∧ gs.length ≤ i + 1 ∧ ∀ g ∈ gs, 0 ≤ g := by
      intro S2 gs2 g3 g0 g1 gl gg
      rw [opDG g0 dk_m, Ok_ok, p_mul (.inr mb5), Ok_ok, p_add, Ok_ok, p_add, Ok_ok, b_intI, Ok_ok, p_mod mz4, Ok_ok]
      have pt := putA (k := "mixed") (d := .int ((m * 69621 + own + 29).fmod 4294967291)) g0 (by simp [dk, lim_eq])
      rw [dk_pm] at pt
      refine ⟨_, pt, ?_, ⟨_, get_set g0⟩, gs2, ?_, gl, gg⟩
      · rw [List.getElem?_set_ne (by decide), ← List.map_take]
        exact g3
      · rw [List.getElem?_set_ne (by decide)]
        exact g1
    by_cases hb : big ≤ own
    · simp [hb, opDG h0 dk_g, isL_cell h1]
      rw [m_app h1 (by simp [lim_eq]; omega)]
      simp
      refine tail _ (gs ++ [own]) ?_ ?_ ?_ (by simp; omega) ?_
      · rw [List.getElem?_set_ne (by decide)]
        exact h3
      · rw [List.getElem?_set_ne (by decide)]
        exact h0
      · rw [get_set h1]
        simp
      · intro g hg2
        rcases List.mem_append.mp hg2 with hg2 | hg2
        · exact hg g hg2
        · rw [List.mem_singleton.mp hg2]
          exact hown
    · simp [hb]
      exact tail S1 gs h3 h0 h1 (by omega) hg
  · rintro δ S1 ⟨h3, ⟨v2, v3, rfl⟩, m, gs, h0, h1, hl, hg⟩
    simp
    refine ⟨by decide, m, 0, gs, h0, h1, ?_, hg⟩
    simp at hl
    omega
end Dn
set_option Elab.async false
set_option linter.all false
set_option maxRecDepth 100000
set_option maxHeartbeats 2000000
/-! Lj_k84: any value. -/
noncomputable section
namespace Dn
open PySem L2
def wAny : Nat → Nat
  | 0 => 61
  | n + 1 => 3 * (wAny n + 1)
theorem wAny_ge : ∀ n, 61 ≤ wAny n
  | 0 => Nat.le_refl _
  | n + 1 => by
    have := wAny_ge n
    show 61 ≤ 3 * (wAny n + 1)
    omega
theorem mpw18 : (0 : Int) ≤ 18 ∧ (18 : Int) ≤ 1000000 ∧ (10 : Int).natAbs < 2 ^ 64 := ⟨by omega, by omega, by decide⟩
theorem big18 : ((10 : Int) ^ ((18 : Int).toNat)).natAbs < 2 ^ 61 := by decide +kernel
theorem Kp.sub {K K0 : List Nat} {S S' : Sto} (h : Kp K S S') (hs : ∀ c ∈ K, c ∈ K0) : Kp K0 S S' := ⟨h.le, fun n c hn e => h.get n c (fun z => hn (hs n z)) e⟩
theorem Rd.anti {K K0 : List Nat} {k w : Nat} {S : Sto} {d : D} (h : Rd K0 k w S d) (hs : ∀ c ∈ K, c ∈ K0) : Rd K k w S d := by
  obtain ⟨p, h1, h2⟩ := h
  exact ⟨p, fun S' kp m hm => h1 S' (kp.sub hs) m hm, h2⟩
section
variable {kd kg : Nat}
theorem r_any : ∀ (j n : Nat), n < j → ∀ (S : Sto), Deck kd kg S → Ok (d_law_any j [.cell kd, .int (n : Nat)] S) fun r S' => Dw kd kg S S' ∧ Rd (List.range S.length) (n + 1) (wAny n) S' r
  | 0, n, h, S, Dk => absurd h (Nat.not_lt_zero _)
  | j + 1, n, hn, S, Dk => by
    have hw := wAny_ge n
    unfold d_law_any
    simp only [b_law_any, startD, o_fn, o_seq, o_set, o_call, o_cons, o_var, o_nil, o_if, o_B, o_bin, o_c]
    simp
    have leaf : ∀ (S2 : Sto) (i : Nat), i < 6 → Dw kd kg S S2 → Ok (opPow (D.int 10) (D.int 18) S2) fun x S1 => 6 ≤ lim ∧ Ok (d_law_pick [D.cell kd, D.cell (List.length S1)] (S1 ++ [C.lst [D.int 0, D.int 1, D.int 2, D.int 3, D.int (-1), x]])) fun x S1 =>
        6 ≤ lim ∧ Ok (opIx (D.cell (List.length S1)) (.int (i : Nat)) (S1 ++ [C.lst [D.non, D.bl true, x, D.str (Str.ofString ""), D.str (Str.ofString "on"), D.str (Str.ofString "in")]])) fun r S' => Dw kd kg S S' ∧ Rd (List.range S.length) (n + 1) (wAny n) S' r := by
      intro S2 i hi ⟨D2, k2⟩
      rw [p_pow mpw18, Ok_ok]
      have hb := big18
      generalize (10 : Int) ^ ((18 : Int).toNat) = big at hb
      refine ⟨by simp [lim_eq], ?_⟩
      refine Ok.imp (r_pick (D2.push _) (get_push _ _) (D2.fresh (Nat.le_refl _)) (by simp) (by simp)) ?_
      rintro x S3 ⟨hx, D3, k3⟩
      have k3' : Kp [kd, kg] S S3 := (k2.push _).trans k3
      refine ⟨by simp [lim_eq], ?_⟩
      have hl : i < [D.non, D.bl true, x, D.str (Str.ofString ""), D.str (Str.ofString "on"), D.str (Str.ofString "in")].length := by simpa using hi
      rw [p_ixL (get_push _ _) (List.getElem?_eq_getElem hl)]
      refine ⟨⟨D3.push _, k3'.push _⟩, ?_⟩
      have all : ∀ (K : List Nat) (S : Sto), ∀ y ∈ [D.non, D.bl true, x, D.str (Str.ofString ""), D.str (Str.ofString "on"), D.str (Str.ofString "in")], Rd K (n + 1) (wAny n) S y := by
        intro K S y hy
        simp only [List.mem_cons, List.not_mem_nil, or_false] at hy
        rcases hy with rfl | rfl | rfl | rfl | rfl | rfl
        · exact rd_non
        · exact rd_bl
        · simp only [List.mem_cons, List.not_mem_nil, or_false] at hx
          rcases hx with rfl | rfl | rfl | rfl | rfl | rfl
          · exact rd_int (b := 3) (by decide) (by decide) (by omega)
          · exact rd_int (b := 3) (by decide) (by decide) (by omega)
          · exact rd_int (b := 3) (by decide) (by decide) (by omega)
          · exact rd_int (b := 3) (by decide) (by decide) (by omega)
          · exact rd_int (b := 3) (by decide) (by decide) (by omega)
          · exact rd_int (b := 60) hb (by decide) (by omega)
        · exact (rd_str (w := 9) (by decide +kernel) (by decide +kernel)).le (Nat.le_refl _) (by omega)
        · exact (rd_str (w := 9) (by decide +kernel) (by decide +kernel)).le (Nat.le_refl _) (by omega)
        · exact (rd_str (w := 9) (by decide +kernel) (by decide +kernel)).le (Nat.le_refl _) (by omega)
      exact all _ _ _ (List.getElem_mem hl)
    by_cases h0 : n = 0
    · refine Or.inl ⟨h0, ?_⟩
      refine Ok.imp (r_draw Dk (n := 6) (by omega)) ?_
      rintro r S1 ⟨i, rfl, hi, _, D1, k1⟩
      have hi6 := hi (by omega)
      rw [p_lt, Ok_ok]
      refine Or.inr ⟨?_, leaf S1 i hi6 ⟨D1, k1⟩⟩
      have : (i : Int) < 6 := by omega
      rw [decide_eq_true this]
    · refine Or.inr ⟨Nat.pos_of_ne_zero h0, ?_⟩
      refine Ok.imp (r_draw Dk (n := 9) (by omega)) ?_
      rintro r S1 ⟨i, rfl, hi, _, D1, k1⟩
      have hi9 := hi (by omega)
      rw [p_lt, Ok_ok]
      by_cases h6 : i < 6
      · refine Or.inr ⟨?_, leaf S1 i h6 ⟨D1, k1⟩⟩
        have : (i : Int) < 6 := by omega
        rw [decide_eq_true this]
      · refine Or.inl ⟨?_, ?_⟩
        · have : ¬ (i : Int) < 6 := by omega
          rw [decide_eq_false this]
        · obtain ⟨n', rfl⟩ : ∃ n', n = n' + 1 := ⟨n - 1, by omega⟩
          have ih := r_any j n' (by omega)
          have dr : Ok (d_law_draw [.cell kd, .int 4] S1) fun r S' => ∃ i : Nat, r = .int (i : Nat) ∧ (1 ≤ 4 → i < 4) ∧ (i < 4 ∨ i = 0) ∧ Dw kd kg S1 S' := r_draw D1 (n := 4) (by omega)
          obtain ⟨r, S2, e, m, rfl, hm, _, D2, k2⟩ := dr.ex
          have hm4 := hm (by omega)
          refine ok_lc (s0 := .rng 0 (m : Nat)) (N := m) (c := S2.length) (item := fun i => .int (i : Nat)) (fun i S' acc => Deck kd kg S' ∧ Kp [kd, kg] S2 S' ∧ S'[S2.length]? = some (.lst acc) ∧ acc.length = i ∧ ∀ x ∈ acc, Rd (List.range (S2.length + 1)) (n' + 1) (wAny n') S' x) ?_ ?_ ?_ ?_ ?_
          · simp
            rw [e]
            simp [D2.push, Kp.app]
            exact inRng_of (by omega) (by omega)
          · intro i S' acc h
            simp [Src.len]
          · intro i S' acc hi h
            simp [Src.item, hi]
          · rintro i' S3 acc hi' ⟨D3, k3, hc, hal, hall⟩
            refine ⟨_, set_nm, ?_⟩
            simp [wipeD]
            refine Ok.imp (ih S3 D3) ?_
            rintro r S4 ⟨⟨D4, k4⟩, hr⟩
            have hc4 := k4.get _ _ (D2.fresh (Nat.le_refl _)) hc
            refine ⟨hc4, by simp [lim_eq]; omega, D4.set (D2.fresh (Nat.le_refl _)) _, (k3.trans k4).set (.inl (Nat.le_refl _)) _, get_set hc4, by simp [hal], fun x hx => ?_⟩
            have l2 := D2.lt
            have k5 : Kp (List.range (S2.length + 1)) S4 (S4.set S2.length (.lst (acc ++ [r]))) := (Kp.refl _ _).set (.inr (by simp)) _
            have k4' : Kp (List.range (S2.length + 1)) S3 S4 := k4.sub fun c hc => by
              simp at hc
              rw [List.mem_range]
              omega
            have hlt : S2.length < S3.length := lt_of_get hc
            rcases hx with hx | hx
            · exact ((hall x hx).mono k4').mono k5
            · rw [hx]
              refine (hr.anti fun c hc => ?_).mono k5
              rw [List.mem_range] at hc ⊢
              omega
          · rintro S3 acc ⟨D3, k3, hc, hal, hall⟩
            have kk : Kp [kd, kg] S S3 := (k1.trans k2).trans k3
            have le : S.length ≤ S2.length := (k1.trans k2).le
            have hall' : ∀ x ∈ acc, Rd (List.range S.length) (n' + 1) (wAny n') S3 x := fun x hx => (hall x hx).anti fun c hc => by
              rw [List.mem_range] at hc ⊢
              omega
            rw [p_lt, Ok_ok]
            by_cases h8 : (i : Int) < 8
            · refine Or.inr ⟨by rw [decide_eq_true h8], ?_⟩
              rw [b_tupL hc]
              refine ⟨⟨D3, kk⟩, rd_tup (k := n' + 1) (w := wAny n') hall' (by omega) ?_⟩
              rw [hal]
              exact Nat.mul_le_mul_right _ (by omega)
            · refine Or.inl ⟨by rw [decide_eq_false h8], ⟨D3, kk⟩, rd_cell (k := n' + 1) (w := wAny n') hc (by rw [List.mem_range]; omega) hall' (by omega) ?_⟩
              rw [hal]
              exact Nat.mul_le_mul_right _ (by omega)
end
end Dn
set_option Elab.async false
set_option linter.all false
set_option maxRecDepth 100000
set_option maxHeartbeats 2000000
/-! Lm_k84: ways drawn. -/
noncomputable section
namespace Dn
open PySem L2
structure ModesAt (K : List Nat) (S : Sto) (cm R : Nat) : Prop where
  ex : ∃ ms : List Nat, cm ∉ K ∧ S[cm]? = some (.lst (ms.map D.cell)) ∧ ms.length = R ∧ ∀ c ∈ ms, c ∉ K ∧ ∃ bs : List Bool, bs ≠ [] ∧ bs.length ≤ 2 ∧ S[c]? = some (.lst (bs.map mD))
theorem ModesAt.mono {K : List Nat} {S S' : Sto} {cm R : Nat} (h : ModesAt K S cm R) (k : Kp K S S') : ModesAt K S' cm R := by
  obtain ⟨ms, h1, h2, h3, h4⟩ := h
  exact ⟨ms, h1, k.get _ _ h1 h2, h3, fun c hc => let ⟨a, bs, b, l, e⟩ := h4 c hc; ⟨a, bs, b, l, k.get _ _ a e⟩⟩
structure WayOk (R : Nat) (w : List Stp) : Prop where
  nest : Nest w
  inr : InR R w
  outr : ∀ r, Stp.out r ∈ w → r < R
def insD (w : List Stp) : List D := (heldT w w.length).map fun t => D.int (t.1 : Nat)
theorem heldT_app (w : List Stp) (s : Stp) : heldT (w ++ [s]) (w.length + 1) = pushT (heldT w w.length) s := by
  unfold heldT
  rw [List.take_of_length_le (by simp), List.take_of_length_le (Nat.le_refl _), List.foldl_append]
  rfl
theorem heldT_pre (w : List Stp) (s : Stp) {k : Nat} (h : k ≤ w.length) : heldT (w ++ [s]) k = heldT w k := by
  unfold heldT
  rw [List.take_append_of_le_length h]
theorem WayOk.app {R : Nat} {w : List Stp} (h : WayOk R w) {s : Stp} (h1 : ∀ r, s = .out r → heldT w w.length ≠ [] ∧ r < R) (h2 : ∀ t, s = .inn t → t.1 < R) : WayOk R (w ++ [s]) := by
  refine ⟨fun k r e => ?_, fun t ht => ?_, fun r hr => ?_⟩
  · by_cases hk : k < w.length
    · rw [List.getElem?_append_left hk] at e
      rw [heldT_pre w s (by omega)]
      exact h.nest k r e
    · rw [List.getElem?_append_right (by omega)] at e
      have : k - w.length = 0 := by
        have := (List.getElem?_eq_some_iff.mp e).1
        simp at this
        omega
      rw [this] at e
      have hk2 : k = w.length := by omega
      rw [hk2, heldT_pre w s (Nat.le_refl _)]
      exact (h1 r (by simpa using e)).1
  · rcases List.mem_append.mp ht with ht | ht
    · exact h.inr t ht
    · exact h2 t (List.mem_singleton.mp ht).symm
  · rcases List.mem_append.mp hr with hr | hr
    · exact h.outr r hr
    · exact (h1 r (List.mem_singleton.mp hr).symm).2
def freeF (ins : List D) (d : D) : Option D := if inD d ins = true then none else some d
def freeD (R : Nat) (ins : List D) : List D := ((List.range R).map fun i => D.int (i : Nat)).filterMap (freeF ins)
theorem free_mem {R : Nat} {ins : List D} {x : D} (h : x ∈ freeD R ins) : ∃ i, i < R ∧ x = .int (i : Nat) := by
  obtain ⟨a, h1, h2⟩ := List.mem_filterMap.mp h
  obtain ⟨i, h3, rfl⟩ := List.mem_map.mp h1
  unfold freeF at h2
  split at h2
  · cases h2
  · cases h2
    exact ⟨i, List.mem_range.mp h3, rfl⟩
theorem free_nil {R : Nat} (h : 1 ≤ R) : freeD R [] ≠ [] := by
  obtain ⟨n, rfl⟩ : ∃ n, R = n + 1 := ⟨R - 1, by omega⟩
  unfold freeD
  rw [List.range_succ_eq_map]
  simp [freeF, inD]
theorem free_len {R : Nat} {ins : List D} : (freeD R ins).length ≤ R := by
  have := List.length_filterMap_le (freeF ins) ((List.range R).map fun i => D.int (i : Nat))
  rw [List.length_map, List.length_range] at this
  exact this
theorem ins_mem {R : Nat} {w : List Stp} (h : InR R w) {x : D} (hx : x ∈ insD w) : ∃ i, i < R ∧ x = .int (i : Nat) := by
  obtain ⟨t, ht, rfl⟩ := List.mem_map.mp hx
  exact ⟨t.1, h t (heldT_mem _ _ ht), rfl⟩
theorem rd_small {K : List Nat} {S : Sto} {R : Nat} (hR : R ≤ 5) {x : D} (h : ∃ i, i < R ∧ x = .int (i : Nat)) : Rd K 0 4 S x := by
  obtain ⟨i, hi, rfl⟩ := h
  exact rd_int (b := 3) (by omega) (by decide) (by decide)
section
variable {S S' : Sto} {kd kg : Nat}
theorem r_law_way (Dk : Deck kd kg S) {cm R most : Nat} (M : ModesAt [kd, kg] S cm R) (h1 : 1 ≤ R) (h5 : R ≤ 5) (hm2 : 2 ≤ most) (hm24 : most ≤ 24) :
    Ok (d_law_way [.cell kd, .cell cm, .int (most : Nat), .bl false] S) fun r S' => Dw kd kg S S' ∧ ∃ w, r = wayD w ∧ WayOk R w ∧ 1 ≤ w.length ∧ w.length ≤ 24 := by
  have hf : (most : Int).fdiv 2 = ((most / 2 : Nat) : Int) := by
    have := Int.ofNat_fdiv most 2
    exact this.symm
  have lk := Dk.lt
  simp only [d_law_way, b_law_way, startD, o_fn]
  refine ⟨rfl, ?_⟩
  rw [o_seq, o_asg]
  simp [lim_eq]
  rw [p_fdiv (by decide) (by decide), Ok_ok, hf]
  have D0 : Deck kd kg (S ++ [C.lst [], C.lst []]) := Dk.push _
  have k0 : Kp [kd, kg] S (S ++ [C.lst [], C.lst []]) := Kp.app _ _ _
  refine Ok.imp (r_draw D0 (n := most / 2) (by omega)) ?_
  intro r S1 h
  obtain ⟨i, h1, hi, _, D1, k1⟩ := h
  subst h1
  have hi2 := hi (by omega)
  rw [p_mul (.inl mb4), Ok_ok, p_add, Ok_ok]
  have em : (2 : Int) + 2 * (i : Int) = ((2 + 2 * i : Nat) : Int) := by omega
  rw [em]
  generalize hmany : 2 + 2 * i = many
  have hmany2 : 2 ≤ many ∧ many ≤ 24 := by omega
  have fw : S.length ∉ [kd, kg] := Dk.fresh (Nat.le_refl _)
  have fi : S.length + 1 ∉ [kd, kg] := Dk.fresh (by omega)
  have hw0 : S1[S.length]? = some (.lst []) := k1.get _ _ fw (by simp)
  have hi0 : S1[S.length + 1]? = some (.lst []) := k1.get _ _ fi (by rw [List.getElem?_append_right (by omega)]; simp)
  refine ok_forR (n := many) (by omega) (fun t δ S' => Deck kd kg S' ∧ Kp [kd, kg] S S' ∧ ∃ w v7 v8 v9 v10 v11, δ = [some (.cell kd), some (.cell cm), some (.int (most : Nat)), some (.bl false), some (.cell S.length), some (.cell (S.length + 1)), some (.int (many : Nat)), v7, v8, v9, v10, v11] ∧
    S'[S.length]? = some (.lst (w.map Stp.d)) ∧ S'[S.length + 1]? = some (.lst (insD w)) ∧ w.length = t ∧ WayOk R w) ?_ ?_ ?_
  · simp
    exact ⟨D1, k0.trans k1, [], hw0, hi0, rfl, ⟨fun k r h => by simp at h, fun t h => by simp at h, fun r h => by simp at h⟩⟩
  · rintro t δ S2 ht ⟨D2, k2, w, v7, v8, v9, v10, v11, rfl, hw, hin, hl, W⟩
    have M2 := M.mono k2
    obtain ⟨ms, m1, m2, m3, m4⟩ := id M2
    have lins : (insD w).length ≤ 24 := by
      have := heldT_len w w.length
      simp [insD]
      omega
    have insR := fun x (hx : x ∈ insD w) => ins_mem W.inr hx
    have flat : (insD w).all flatD = true := by
      rw [List.all_eq_true]
      intro x hx
      obtain ⟨j, _, rfl⟩ := insR x hx
      rfl
    refine ⟨_, set_nm, ?_⟩
    rw [o_seq, o_set]
    refine ok_lcR (n := R) (freeF (insD w)) (by omega) ?_ ?_ ?_
    · simp [b_lenL m2, m3, Kp.refl]
    · intro j hj S3 k3
      refine ⟨_, set_nm, ?_⟩
      have h3 := k3.get _ _ (by simp) hin
      have e : opIn true (.int (j : Nat)) (.cell (S.length + 1)) S3 = .ok (.bl (!inD (.int (j : Nat)) (insD w))) S3 := by
        unfold opIn
        simp only [it_cell h3]
        have : (flatD (.int (j : Nat)) && (insD w).all flatD) = true := by rw [flat]; rfl
        simp only [this, if_true]
      simp [wipeD, e, freeF, Kp.refl]
    · intro S3 c3 k3 hl3 hc3
      have hc3' : S3[c3]? = some (.lst (freeD R (insD w))) := hc3
      have k23 : Kp [kd, kg] S S3 := k2.trans k3.of
      have D3 := D2.kp k3
      have hc3f : c3 ∉ [kd, kg] := D2.fresh hl3
      have hw3 := k3.get _ _ (by simp) hw
      have hin3 := k3.get _ _ (by simp) hin
      show OkS _ _
      rw [o_seq, o_set]
      refine Ok.imp (P := fun d S' => Kp [] S3 S' ∧ ∃ b, d = .bl b ∧ (b = false → freeD R (insD w) ≠ [])) ?_ ?_
      · have e := p_eqNil (S := S3 ++ [.lst []]) (k := 0) (w := 4) ((Kp.app [] S3 [.lst []]).get _ _ (by simp) hc3') (fun x hx => rd_small h5 (free_mem hx)) (by decide) (get_push S3 _)
        have hin4 : (S3 ++ [C.lst []])[S.length + 1]? = some (.lst (insD w)) := (Kp.app [] S3 _).get _ _ (by simp) hin3
        simp [wipeD, lim_eq, e]
        by_cases hfr : freeD R (insD w) = []
        · rw [hfr]
          simp
          exact Kp.app _ _ _
        · simp [hfr, b_lenL hin4]
          exact ⟨Kp.app _ _ _, (Classical.em _).symm⟩
      · rintro d S4 ⟨k4, b, rfl, hb⟩
        have D4 := D3.kp k4
        have k24 : Kp [kd, kg] S S4 := k23.trans k4.of
        have hw4 := k4.get _ _ (by simp) hw3
        have hin4 := k4.get _ _ (by simp) hin3
        have hc4 := k4.get _ _ (by simp) hc3'
        have M4 := M.mono k24
        show OkS _ _
        rw [o_ifS]
        refine Ok.imp (P := fun k S' => Deck kd kg S' ∧ Kp [kd, kg] S4 S' ∧ (k = true → insD w ≠ []) ∧ (k = false → freeD R (insD w) ≠ [])) ?_ ?_
        · have e := p_neNil (S := S4 ++ [.lst []]) (k := 0) (w := 4) ((Kp.app [] S4 [.lst []]).get _ _ (by simp) hin4) (fun x hx => rd_small h5 (insR x hx)) (by decide) (get_push S4 _)
          simp [wipeD, lim_eq, e]
          by_cases hne : insD w = []
          · simp [hne]
            exact ⟨D4.push _, Kp.app _ _ _, free_nil h1⟩
          · simp [hne]
            cases b with
            | true =>
              simp
              exact ⟨D4.push _, Kp.app _ _ _⟩
            | false =>
              simp
              refine Ok.imp (r_draw (D4.push _) (n := 3) (by omega)) ?_
              rintro r S5 ⟨i5, rfl, _, _, D5, k5⟩
              simp
              have kk5 : Kp [kd, kg] S4 S5 := (Kp.app _ _ _).trans k5
              by_cases hz : i5 = 0
              · exact Or.inr ⟨hz, D5, kk5⟩
              · exact Or.inl ⟨hz, D5, kk5, hb rfl⟩
        · rintro k S5 ⟨D5, k5, hk1, hk2⟩
          have k25 := k24.trans k5
          have hw5 := k5.get _ _ fw hw4
          have hin5 := k5.get _ _ fi hin4
          have hc5 := k5.get _ _ hc3f hc4
          have M5 := M.mono k25
          cases k with
          | true =>
            rw [if_pos rfl]
            have hne := hk1 rfl
            have hne2 : heldT w w.length ≠ [] := fun z => hne (by simp [insD, z])
            obtain ⟨l, u, hlu⟩ : ∃ l u, heldT w w.length = l ++ [u] := ⟨_, _, (List.dropLast_concat_getLast hne2).symm⟩
            have hin5' : S5[S.length + 1]? = some (.lst (l.map (fun t => D.int (t.1 : Nat)) ++ [.int (u.1 : Nat)])) := by
              rw [hin5, insD, hlu]
              simp
            have huR : u.1 < R := W.inr u (heldT_mem w.length u (by rw [hlu]; simp))
            simp [wipeD, isL_cell hw5, isL_cell hin5', m_pop hin5', lim_eq]
            have hw6 : (S5.set (S.length + 1) (.lst (l.map fun t => D.int (t.1 : Nat))))[S.length]? = some (.lst (w.map Stp.d)) := by
              rw [List.getElem?_set_ne (by omega)]
              exact hw5
            rw [m_app hw6 (by simp [lim_eq]; omega)]
            simp
            refine ⟨(D5.set fi _).set fw _, (k25.set (.inl (by omega)) _).set (.inl (Nat.le_refl _)) _, w ++ [.out u.1], ?_, ?_, by simp; omega, W.app (fun r e => by cases e; exact ⟨hne2, huR⟩) fun t e => by cases e⟩
            · rw [get_set hw6]
              simp [Stp.d]
            · rw [get_set hin5']
              unfold insD
              rw [List.length_append, List.length_singleton, heldT_app, hlu]
              simp [pushT]
          | false =>
            rw [if_neg Bool.false_ne_true]
            have hfr := hk2 rfl
            simp [wipeD]
            simp [isL_cell hin5]
            refine Ok.imp (r_pick D5 hc5 hc3f hfr (by have := free_len (R := R) (ins := insD w); omega)) ?_
            rintro r S6 ⟨hr, D6, k6⟩
            obtain ⟨q, hq, rfl⟩ := free_mem hr
            have hin6 := k6.get _ _ fi hin5
            have hw6 := k6.get _ _ fw hw5
            rw [m_app hin6 (by simp [lim_eq]; omega)]
            simp
            have hin7 : (S6.set (S.length + 1) (.lst (insD w ++ [.int (q : Nat)])))[S.length + 1]? = some (.lst (insD w ++ [.int (q : Nat)])) := get_set hin6
            have hw7 : (S6.set (S.length + 1) (.lst (insD w ++ [.int (q : Nat)])))[S.length]? = some (.lst (w.map Stp.d)) := by
              rw [List.getElem?_set_ne (by omega)]
              exact hw6
            have D7 := D6.set fi (.lst (insD w ++ [.int (q : Nat)]))
            have k7 : Kp [kd, kg] S (S6.set (S.length + 1) (.lst (insD w ++ [.int (q : Nat)]))) := (k25.trans k6).set (.inl (by omega)) _
            generalize S6.set (S.length + 1) (.lst (insD w ++ [.int (q : Nat)])) = S7 at *
            obtain ⟨ms7, a1, a2, a3, a4⟩ := id (M.mono k7)
            obtain ⟨c, hcq⟩ : ∃ c, ms7[q]? = some c := ⟨_, List.getElem?_eq_getElem (by omega)⟩
            obtain ⟨b1, bs, b2, b3, b4⟩ := a4 c (List.mem_of_getElem? hcq)
            have ixm : opIx (.cell cm) (.int (q : Nat)) S7 = .ok (.cell c) S7 := p_ixL a2 (by simp [hcq])
            simp [isL_cell hw7, p_ixLast hin7, ixm]
            refine Ok.imp (r_pick D7 b4 b1 (by simpa using b2) (by simp; omega)) ?_
            rintro r S8 ⟨hr8, D8, k8⟩
            obtain ⟨bb, _, rfl⟩ := List.mem_map.mp hr8
            have hw8 := k8.get _ _ fw hw7
            have hin8 := k8.get _ _ fi hin7
            simp [lim_eq]
            rw [m_app hw8 (by simp [lim_eq]; omega)]
            simp
            refine ⟨D8.set fw _, (k7.trans k8).set (.inl (Nat.le_refl _)) _, w ++ [.inn (q, bb)], ?_, ?_, by simp; omega, W.app (fun r e => by cases e) fun t e => by cases e; exact hq⟩
            · rw [get_set hw8]
              simp [Stp.d]
            · rw [hin8]
              unfold insD
              rw [List.length_append, List.length_singleton, heldT_app]
              simp [pushT]
  · rintro δ S2 ⟨D2, k2, w, v7, v8, v9, v10, v11, rfl, hw, hin, hl, W⟩
    simp [b_tupL hw]
    exact ⟨⟨D2, k2⟩, w, rfl, W, by omega, by omega⟩
end
end Dn
set_option Elab.async false
set_option linter.all false
set_option maxRecDepth 100000
set_option maxHeartbeats 2000000
/-! Ln_k84: houses, ranks, plans. -/
noncomputable section
namespace Dn
open PySem L2
section
variable {S S' : Sto} {kd kg : Nat}
/-- a comprehension whose items are drawn -/
theorem ok_lcD {δ : En} {P : D → Sto → Prop} {src : DSrc} {g : Tg} {elt : DE} {own : List Nat} {s0 : Src} {n : Nat} {item : Nat → D} (Pp : List Nat → Sto → D → Prop) (mono : ∀ K S S' x, Kp K S S' → Pp K S x → Pp K S' x)
    (anti : ∀ K K0 S x, (∀ c ∈ K, c ∈ K0) → Pp K0 S x → Pp K S x) (hn : n ≤ 1000) (hs : Ok (src δ S) fun s S1 => s = s0 ∧ Deck kd kg S1 ∧ Kp [kd, kg] S S1) (hlen : ∀ S', s0.len S' = some n) (hit : ∀ S' i, i < n → s0.item S' i = some (item i))
    (step : ∀ i, i < n → ∀ S', Deck kd kg S' → Kp [kd, kg] S S' → ∃ δ', g.set (item i) (wipeD δ own) = some δ' ∧ Ok (elt δ' S') fun y S3 => Dw kd kg S' S3 ∧ Pp (List.range S'.length) S3 y)
    (done : ∀ S' c acc, Dw kd kg S S' → S.length ≤ c → S'[c]? = some (.lst acc) → acc.length = n → (∀ x ∈ acc, Pp (List.range S.length) S' x) → P (.cell c) S') : Ok (dLc src g dYes elt own δ S) P := by
  obtain ⟨s, S1, hsrc, e, D1, k1⟩ := hs.ex
  subst e
  have l1 := D1.lt
  have fr : S1.length ∉ [kd, kg] := D1.fresh (Nat.le_refl _)
  refine ok_lc (s0 := s) (N := n) (c := S1.length) (item := item) (fun i S' acc => Deck kd kg S' ∧ Kp [kd, kg] S S' ∧ S'[S1.length]? = some (.lst acc) ∧ acc.length = i ∧ ∀ x ∈ acc, Pp (List.range (S1.length + 1)) S' x) ?_ (fun i S' acc h => hlen S') (fun i S' acc hi h => hit S' i hi) ?_ ?_
  · rw [hsrc]
    exact ⟨rfl, rfl, D1.push _, k1.push _, get_push _ _, rfl, fun x hx => by simp at hx⟩
  · rintro i S2 acc hi ⟨D2, k2, hc, hl, hall⟩
    obtain ⟨δ', h1, h2⟩ := step i hi S2 D2 k2
    refine ⟨δ', h1, ?_⟩
    show Ok (elt δ' S2) _
    refine Ok.imp h2 ?_
    rintro y S3 ⟨⟨D3, k3⟩, hy⟩
    have hc3 := k3.get _ _ fr hc
    have hlt := lt_of_get hc
    refine ⟨hc3, by simp [lim_eq]; omega, D3.set fr _, (k2.trans k3).set (.inl k1.le) _, get_set hc3, by simp [hl], fun x hx => ?_⟩
    have k5 : Kp (List.range (S1.length + 1)) S3 (S3.set S1.length (.lst (acc ++ [y]))) := (Kp.refl _ _).set (.inr (by simp)) _
    have k4' : Kp (List.range (S1.length + 1)) S2 S3 := k3.sub fun c hc => by
      simp at hc
      rw [List.mem_range]
      omega
    rcases List.mem_append.mp hx with hx | hx
    · exact mono _ _ _ _ k5 (mono _ _ _ _ k4' (hall x hx))
    · rw [List.mem_singleton.mp hx]
      refine mono _ _ _ _ k5 (anti _ _ _ _ (fun c hc => ?_) hy)
      rw [List.mem_range] at hc ⊢
      omega
  · rintro S2 acc ⟨D2, k2, hc, hl, hall⟩
    refine done S2 _ acc ⟨D2, k2⟩ k1.le hc hl fun x hx => anti _ _ _ _ (fun c hc => ?_) (hall x hx)
    have := k1.le
    rw [List.mem_range] at hc ⊢
    omega
theorem all_ways {R : Nat} : ∀ {acc : List D}, (∀ x ∈ acc, ∃ w, x = wayD w ∧ WayOk R w ∧ 1 ≤ w.length ∧ w.length ≤ 24) → ∃ ws : List (List Stp), acc = ws.map wayD ∧ ws.length = acc.length ∧ ∀ w ∈ ws, WayOk R w ∧ 1 ≤ w.length ∧ w.length ≤ 24
  | [], _ => ⟨[], rfl, rfl, fun w h => by simp at h⟩
  | x :: acc, h => by
    obtain ⟨w, rfl, hw⟩ := h x List.mem_cons_self
    obtain ⟨ws, e, l, hall⟩ := all_ways (acc := acc) fun y hy => h y (List.mem_cons_of_mem _ hy)
    refine ⟨w :: ws, by rw [e]; rfl, by simp [l], fun v hv => ?_⟩
    rcases List.mem_cons.mp hv with rfl | hv
    · exact hw
    · exact hall v hv
theorem rep_flat {R : Nat} : (List.replicate R [roomD]).flatten = List.replicate R roomD := by
  induction R with
  | zero => rfl
  | succ n ih => rw [List.replicate_succ, List.flatten_cons, ih]; rfl
theorem r_law_calm (Dk : Deck kd kg S) {hands R most : Nat} (h1 : 1 ≤ R) (h5 : R ≤ 5) (hh1 : 1 ≤ hands) (hh5 : hands ≤ 5) (hm2 : 2 ≤ most) (hm24 : most ≤ 24) :
    ∀ dh dR dm : D, dh = .int (hands : Nat) → dR = .int (R : Nat) → dm = .int (most : Nat) → Ok (d_law_calm [.cell kd, dh, dR, dm] S) fun r S' => Dw kd kg S S' ∧ ∃ ws, r = houseD R ws ∧ HOk R ws ∧ ws.length = hands := by
  intro dh dR dm eh eR em
  simp only [d_law_calm, b_law_calm, startD, o_fn]
  refine ⟨rfl, ?_⟩
  rw [o_seq, o_set]
  refine ok_lcD (kd := kd) (kg := kg) (s0 := .rng 0 (R : Nat)) (n := R) (item := fun i => .int (i : Nat)) ?Pp ?_ ?_ (by omega) ?_ ?_ ?_ ?_ ?_
  case Pp => exact (fun K S x => ∃ cc, x = .cell cc ∧ cc ∉ K ∧ ∃ bs : List Bool, bs ≠ [] ∧ bs.length ≤ 2 ∧ S[cc]? = some (.lst (bs.map mD)))
  · rintro K S S' x k ⟨cc, rfl, a, bs, b, c, d⟩
    exact ⟨cc, rfl, a, bs, b, c, k.get _ _ a d⟩
  · rintro K K0 S x hs ⟨cc, rfl, a, r⟩
    exact ⟨cc, rfl, fun z => a (hs _ z), r⟩
  · simp [eR, Dk, Kp.refl]
    exact inRng_of (by omega) (by omega)
  · intro S'
    simp [Src.len]
  · intro S' i hi
    simp [Src.item, hi]
  · intro i hi S2 D2 k2
    refine ⟨_, set_nm, ?_⟩
    simp [wipeD, lim_eq]
    have e1 : (S2 ++ [C.lst [D.str (Str.ofString "alone")], C.lst [D.str (Str.ofString "alone"), D.str (Str.ofString "beside")], C.lst [D.cell S2.length, D.cell (S2.length + 1)]])[S2.length + 2]? = some (.lst [D.cell S2.length, D.cell (S2.length + 1)]) := by
      rw [List.getElem?_append_right (by omega)]
      simp
    have e2 : (S2 ++ [C.lst [D.str (Str.ofString "alone")], C.lst [D.str (Str.ofString "alone"), D.str (Str.ofString "beside")], C.lst [D.cell S2.length, D.cell (S2.length + 1)]])[S2.length]? = some (.lst ([false].map mD)) := by
      rw [List.getElem?_append_right (by omega)]
      simp [mD]
    have e3 : (S2 ++ [C.lst [D.str (Str.ofString "alone")], C.lst [D.str (Str.ofString "alone"), D.str (Str.ofString "beside")], C.lst [D.cell S2.length, D.cell (S2.length + 1)]])[S2.length + 1]? = some (.lst ([false, true].map mD)) := by
      rw [List.getElem?_append_right (by omega)]
      simp [mD]
    refine Ok.imp (r_pick (D2.push _) e1 (D2.fresh (by omega)) (by simp) (by simp)) ?_
    rintro r S3 ⟨hr, D3, k3⟩
    refine ⟨⟨D3, (Kp.app _ _ _).trans k3⟩, ?_⟩
    simp only [List.mem_cons, List.not_mem_nil, or_false] at hr
    rcases hr with rfl | rfl
    · exact ⟨_, rfl, by simp, [false], by simp, by simp, k3.get _ _ (D2.fresh (Nat.le_refl _)) e2⟩
    · exact ⟨_, rfl, by simp, [false, true], by simp, by simp, k3.get _ _ (D2.fresh (by omega)) e3⟩
  · rintro S1 c acc ⟨D1, k1⟩ hcl hc hlen hall
    have M : ModesAt [kd, kg] S1 c R := by
      have : ∀ acc : List D, (∀ x ∈ acc, ∃ cc, x = D.cell cc ∧ cc ∉ List.range S.length ∧ ∃ bs : List Bool, bs ≠ [] ∧ bs.length ≤ 2 ∧ S1[cc]? = some (.lst (bs.map mD))) → ∃ ms : List Nat, acc = ms.map D.cell ∧ ∀ c ∈ ms, c ∉ [kd, kg] ∧ ∃ bs : List Bool, bs ≠ [] ∧ bs.length ≤ 2 ∧ S1[c]? = some (.lst (bs.map mD)) := by
        intro acc
        induction acc with
        | nil => exact fun _ => ⟨[], rfl, fun c h => by simp at h⟩
        | cons x acc ih =>
          intro h
          obtain ⟨cc, rfl, a, r⟩ := h x List.mem_cons_self
          obtain ⟨ms, e, hm⟩ := ih fun y hy => h y (List.mem_cons_of_mem _ hy)
          refine ⟨cc :: ms, by rw [e]; rfl, fun c hc => ?_⟩
          rcases List.mem_cons.mp hc with rfl | hc
          · refine ⟨Dk.fresh ?_, r⟩
            rw [List.mem_range] at a
            omega
          · exact hm c hc
      obtain ⟨ms, e, hm⟩ := this acc hall
      refine ⟨ms, Dk.fresh hcl, by rw [hc, e], ?_, hm⟩
      rw [e, List.length_map] at hlen
      exact hlen
    show OkS _ _
    rw [o_ret, o_tup, o_cons, o_bin, o_tup, o_cons, o_tup, o_cons, o_c, o_cons, o_c, o_nil]
    refine ⟨by simp [lim_eq], ?_⟩
    rw [o_nil]
    refine ⟨by simp [lim_eq], ?_⟩
    rw [o_var]
    refine ⟨dR, rfl, ?_⟩
    rw [eR]
    have emul : opMul (.tup [roomD]) (.int (R : Nat)) S1 = .ok (.tup (List.replicate R roomD)) S1 := by
      unfold opMul
      have : decide ([roomD] ≠ [] ∧ 1 ≤ (R : Int) ∧ (R : Int) ≤ 1000 ∧ [roomD].length ≤ 100) = true := by
        apply decide_eq_true
        exact ⟨by simp, by omega, by omega, by simp⟩
      simp only [this, if_true, Int.toNat_natCast, rep_flat]
    show Ok (opMul (.tup [roomD]) (.int (R : Nat)) S1) _
    rw [emul, Ok_ok, o_cons, o_call, o_cons]
    refine ok_lcD (kd := kd) (kg := kg) (s0 := .rng 0 (hands : Nat)) (n := hands) (item := fun i => .int (i : Nat)) (fun K S x => ∃ w, x = wayD w ∧ WayOk R w ∧ 1 ≤ w.length ∧ w.length ≤ 24) (fun _ _ _ _ _ h => h) (fun _ _ _ _ _ h => h) (by omega) ?_ ?_ ?_ ?_ ?_
    · simp [eh, D1, Kp.refl]
      exact inRng_of (by omega) (by omega)
    · intro S'
      simp [Src.len]
    · intro S' i hi
      simp [Src.item, hi]
    · intro i hi S2 D2 k2
      refine ⟨_, set_nm, ?_⟩
      simp [wipeD, em]
      refine Ok.imp (r_law_way D2 (M.mono k2) h1 h5 hm2 hm24) ?_
      rintro r S3 ⟨D3, h3⟩
      exact ⟨D3, h3⟩
    · rintro S2 c2 acc2 ⟨D2, k2⟩ hcl2 hc2 hlen2 hall2
      rw [o_nil]
      rw [b_tupL hc2, Ok_ok, o_nil]
      obtain ⟨ws, e, l, hw⟩ := all_ways hall2
      refine ⟨by simp [lim_eq], ⟨D2, k1.trans k2⟩, ws, ?_, ⟨h1, h5, by omega, by omega, fun w hh => (hw w hh).1.nest, fun w hh => (hw w hh).1.inr, fun w hh => (hw w hh).2.1, fun w hh => (hw w hh).2.2, fun w hh => (hw w hh).1.outr⟩, by omega⟩
      rw [e]
      rfl
/-! ### ranks -/
theorem m_popAt {c i : Nat} {xs : List D} {d : D} (h : S[c]? = some (.lst xs)) (hd : xs[i]? = some d) (hl : xs.length ≤ lim) : mPop (.cell c) [.int (i : Nat)] S = .ok d (S.set c (.lst (xs.eraseIdx i))) := by
  have hi := (List.getElem?_eq_some_iff.mp hd).1
  unfold mPop
  have : decide (0 ≤ (i : Int) ∧ (i : Int) < xs.length ∧ xs.length ≤ lim) = true := decide_eq_true ⟨by omega, by omega, hl⟩
  simp only [h, this, if_true, Int.toNat_natCast, hd]
theorem map_erase {α β : Type} (f : α → β) : ∀ (l : List α) (i : Nat), (l.map f).eraseIdx i = (l.eraseIdx i).map f
  | [], _ => rfl
  | _ :: _, 0 => rfl
  | x :: l, i + 1 => by
    show f x :: (l.map f).eraseIdx i = _
    rw [map_erase f l i]
    rfl
theorem erase_perm {α : Type} : ∀ {l : List α} {j : Nat} {x : α}, l[j]? = some x → (x :: l.eraseIdx j).Perm l
  | [], _, _, h => by simp at h
  | y :: l, 0, x, h => by
    cases h
    exact List.Perm.refl _
  | y :: l, j + 1, x, h => (List.Perm.swap y x _).trans (List.Perm.cons y (erase_perm (l := l) (by simpa using h)))
def ranks0 : List Int := [-3, 0, 1, 2, 7, (10 : Int) ^ ((18 : Int).toNat)]
theorem ranks0_nd : ranks0.Nodup := by decide +kernel
theorem ranks0_small : ∀ x ∈ ranks0, x.natAbs < 2 ^ 61 := by decide +kernel
theorem r_law_ranked (Dk : Deck kd kg S) {hands : Nat} (hh5 : hands ≤ 5) : ∀ dh : D, dh = .int (hands : Nat) → Ok (d_law_ranked [.cell kd, dh] S) fun r S' => Dw kd kg S S' ∧ ∃ rk : List Int, r = ranksD rk ∧ rk.length = hands ∧ rk.Nodup ∧ ∀ x ∈ rk, x.natAbs < 2 ^ 61 := by
  intro dh eh
  simp only [d_law_ranked, b_law_ranked, startD, o_fn]
  refine ⟨rfl, ?_⟩
  rw [o_seq, o_set]
  simp
  rw [p_pow mpw18, Ok_ok]
  refine ⟨by simp [lim_eq], ?_⟩
  have fr : S.length ∉ [kd, kg] := Dk.fresh (Nat.le_refl _)
  have base : S ++ [C.lst [D.int (-3), D.int 0, D.int 1, D.int 2, D.int 7, D.int (10 ^ Int.toNat 18)]] = S ++ [C.lst (ranks0.map D.int)] := rfl
  rw [base]
  refine ok_lc (s0 := .rng 0 (hands : Nat)) (N := hands) (c := S.length + 1) (item := fun i => .int (i : Nat)) ?J ?_ ?_ ?_ ?_ ?_
  case J => exact (fun i S' acc => Deck kd kg S' ∧ Kp [kd, kg] S S' ∧ S'[S.length + 1]? = some (.lst acc) ∧ ∃ as ls : List Int, acc = as.map D.int ∧ S'[S.length]? = some (.lst (ls.map D.int)) ∧ (as ++ ls).Perm ranks0 ∧ as.length = i)
  · simp [eh]
    refine ⟨inRng_of (by omega) (by omega), Dk.push _, Kp.app _ _ _, ⟨ranks0, rfl, List.Perm.refl _⟩⟩
  · intro i S' acc h
    simp [Src.len]
  · intro i S' acc hi h
    simp [Src.item, hi]
  · rintro i S2 acc hi ⟨D2, k2, hc, as, ls, rfl, hL, hp, hl⟩
    have hlen : as.length + ls.length = 6 := by
      have := hp.length_eq
      simpa [ranks0] using this
    refine ⟨_, set_nm, ?_⟩
    simp [wipeD, isL_cell hL, b_lenL hL]
    refine Ok.imp (r_draw D2 (n := ls.length) (by omega)) ?_
    rintro r S3 ⟨j, rfl, hj, _, D3, k3⟩
    have hj2 := hj (by omega)
    have hL3 := k3.get _ _ fr hL
    have fr2 : S.length + 1 ∉ [kd, kg] := Dk.fresh (by omega)
    have hc3 := k3.get _ _ fr2 hc
    obtain ⟨x, hx⟩ : ∃ x, ls[j]? = some x := ⟨_, List.getElem?_eq_getElem hj2⟩
    rw [m_popAt (d := .int x) hL3 (by simp [hx]) (by simp [lim_eq]; omega)]
    have hc4 : (S3.set S.length (.lst ((ls.map D.int).eraseIdx j)))[S.length + 1]? = some (.lst (as.map D.int)) := by
      rw [List.getElem?_set_ne (by omega)]
      exact hc3
    refine ⟨hc4, by simp [lim_eq]; omega, (D3.set fr _).set fr2 _, ((k2.trans k3).set (.inl (Nat.le_refl _)) _).set (.inl (by omega)) _, get_set hc4, as ++ [x], by simp, ls.eraseIdx j, ?_, ?_, by simp [hl]⟩
    · rw [get_set hL3, map_erase]
    · refine List.Perm.trans ?_ hp
      rw [List.append_assoc]
      refine List.Perm.append_left as ?_
      exact erase_perm hx
  · rintro S2 acc ⟨D2, k2, hc, as, ls, rfl, hL, hp, hl⟩
    simp [b_tupL hc]
    have nd : (as ++ ls).Nodup := hp.symm.nodup ranks0_nd
    refine ⟨⟨D2, k2⟩, as, rfl, hl, (List.nodup_append.mp nd).1, fun x hx => ?_⟩
    exact ranks0_small x (hp.subset (List.mem_append_left _ hx))
end
end Dn
set_option Elab.async false
set_option linter.all false
set_option maxRecDepth 100000
set_option maxHeartbeats 2000000
/-! Lo_k84: the plan. -/
noncomputable section
namespace Dn
open PySem L2
section
variable {S S' : Sto} {kd kg : Nat}
theorem cut_from {xs : List D} {k : Nat} : cutD xs (some (k : Nat)) none = xs.drop k := by
  unfold cutD
  rw [HT.sIx_nat, HT.sIx_none]
  rcases Nat.le_total k xs.length with h | h
  · rw [Nat.min_eq_left h, List.take_of_length_le]
    rw [List.length_drop]
    omega
  · rw [Nat.min_eq_right h, List.drop_of_length_le (Nat.le_refl _), List.drop_of_length_le h]
    simp
theorem cut_last {xs : List D} : cutD xs none (some (-1)) = xs.dropLast := by
  unfold cutD
  rw [HT.sIx_none, List.drop_zero, Nat.sub_zero, List.dropLast_eq_take]
  congr 1
  have e : HT.sIx xs.length xs.length (some (-1)) = ((-1 : Int) + (xs.length : Int)).toNat := rfl
  rw [e]
  omega
theorem cut1 {a b c : D} : cutD [a, b, c] (some 1) none = [b, c] := rfl
theorem r_beyond {w : List Stp} {k : Nat} : ∀ dk0 : D, dk0 = .int (k : Nat) → Ok (d_law_beyond [wayD w, dk0] S) fun r S' => (∃ z : Int, r = .int z) ∧ S' = S := by
  intro dk0 ek
  simp only [d_law_beyond, b_law_beyond, startD, o_fn]
  refine ⟨rfl, ?_⟩
  rw [o_seq, o_par]
  simp
  refine ok_forT (xs := (w.map Stp.d).drop k) (fun i δ S' => S' = S ∧ ∃ (a b : Int) (v4 : Option D), δ = [some (wayD w), some dk0, some (.int a), some (.int b), v4]) ?_ ?_ ?_
  · simp [ek, wayD, cut_from]
  · rintro i δ S' x hx ⟨rfl, a, b, v4, rfl⟩
    have hx2 : x ∈ w.map Stp.d := (List.drop_sublist k _).subset (List.mem_of_getElem? hx)
    obtain ⟨s, _, rfl⟩ := List.mem_map.mp hx2
    refine ⟨_, set_nm, ?_⟩
    have fin : ∀ (z : Int), (if z = 0 then (∃ b' : Int, b + 1 = b') else ∃ a' b' : Int, z = a' ∧ b + 1 = b') := fun z => by split <;> simp
    cases s with
    | out r =>
      simp [Stp.d]
      by_cases hz : a + -1 = 0
      · simp [hz]
      · simp [hz]
    | inn t =>
      simp [Stp.d]
      by_cases hz : a + 1 = 0
      · simp [hz]
      · simp [hz]
  · rintro δ S' ⟨rfl, a, b, v4, rfl⟩
    simp
def rowD (w : List Stp) (k : Nat) (s : Stp) (z : Int) : D := .tup [thsD (heldT w k), (wishT s).elim .non Th.d, .bl false, .int z]
theorem r_law_plan {R : Nat} {ws : List (List Stp)} (H : HOk R ws) : Ok (d_law_plan [houseD R ws] S) fun r S' => Kp [] S S' ∧ ∃ (p : Nat) (cs : List Nat), r = .cell p ∧ S.length ≤ p ∧ S'[p]? = some (.lst (cs.map D.cell)) ∧ cs.length = ws.length ∧
    ∀ (j c : Nat) (w : List Stp), cs[j]? = some c → ws[j]? = some w → S.length ≤ c ∧ ∃ rs, S'[c]? = some (.lst rs) ∧ RowsOk w rs := by
  have w5 := H.w5
  simp only [d_law_plan, b_law_plan, startD, o_fn]
  refine ⟨rfl, ?_⟩
  rw [o_seq, o_set]
  simp [lim_eq]
  have ixh : ∀ (S : Sto), opIx (houseD R ws) (.int 1) S = .ok (.tup (ws.map wayD)) S := fun S => rfl
  refine ok_forT (xs := ws.map wayD) (fun i δ S' => Kp [] S S' ∧ (∃ v2 v3 v4 v5 v6, δ = [some (houseD R ws), some (.cell S.length), v2, v3, v4, v5, v6]) ∧ ∃ cs : List Nat, S'[S.length]? = some (.lst (cs.map D.cell)) ∧ cs.length = i ∧
    ∀ (j c : Nat) (w : List Stp), cs[j]? = some c → ws[j]? = some w → S.length < c ∧ ∃ rs, S'[c]? = some (.lst rs) ∧ RowsOk w rs) ?_ ?_ ?_
  · simp [ixh]
    exact Kp.app _ _ _
  · rintro i δ S1 x hx ⟨k1, ⟨v2, v3, v4, v5, v6, rfl⟩, cs, hcs, hcl, hrows⟩
    obtain ⟨w, hw, rfl⟩ := map_get hx
    have hwm := List.mem_of_getElem? hw
    have hlen := H.len w hwm
    have hi : i < ws.length := (List.getElem?_eq_some_iff.mp hw).1
    refine ⟨_, set_nm, ?_⟩
    simp [lim_eq]
    have hlt := lt_of_get hcs
    refine ok_forET (xs := w.map Stp.d) (fun k δ S' => Kp [] S1 S' ∧ (∃ v5 v6, δ = [some (houseD R ws), some (.cell S.length), some (wayD w), some (.cell S1.length), some (thsD (heldT w k)), v5, v6]) ∧ ∃ rs : List D, S'[S1.length]? = some (.lst rs) ∧ rs.length = k ∧
      ∀ (j : Nat) (s : Stp), j < k → w[j]? = some s → ∃ z : Int, rs[j]? = some (rowD w j s z)) ?_ ?_ ?_
    · simp [wayD, heldT, thsD]
      exact Kp.app _ _ _
    · rintro k δ S2 y hy ⟨k2, ⟨v5, v6, rfl⟩, rs, hrs, hrl, hro⟩
      obtain ⟨s, hs, rfl⟩ := map_get hy
      have hk : k < w.length := (List.getElem?_eq_some_iff.mp hs).1
      have hsucc := heldT_succ hs
      have hhl := heldT_len w k
      simp only [set_tp, setAll_cons, set_nm, setAll_nil, Option.bind_some]
      refine ⟨_, rfl, ?_⟩
      have ext : ∀ (z : Int) (j : Nat) (s' : Stp), j < k + 1 → w[j]? = some s' → ∃ z', (rs ++ [rowD w k s z])[j]? = some (rowD w j s' z') := by
        intro z j s' hj hsj
        by_cases h : j < k
        · obtain ⟨z', hz⟩ := hro j s' h hsj
          refine ⟨z', ?_⟩
          rw [List.getElem?_append_left (by omega)]
          exact hz
        · have : j = k := by omega
          subst this
          rw [hs] at hsj
          cases hsj
          refine ⟨z, ?_⟩
          rw [List.getElem?_append_right (by omega), hrl]
          simp
      cases s with
      | out r =>
        simp [Stp.d, isL_cell hrs, lim_eq]
        rw [m_app hrs (by simp [lim_eq]; omega)]
        simp [thsD, cut_last]
        refine ⟨k2.set (.inl (Nat.le_refl _)) _, ?_, rs ++ [rowD w k (.out r) 0], ?_, by simp [hrl], ext 0⟩
        · rw [hsucc]
          simp [pushT, List.map_dropLast]
        · rw [get_set hrs]
          rfl
      | inn t =>
        have e1 : (Stp.inn t).d = .tup [.str "in", .int (t.1 : Nat), mD t.2] := rfl
        simp [e1, isL_cell hrs, lim_eq, cut1]
        obtain ⟨r, S3, hb, ⟨z, rfl⟩, hS3⟩ := (r_beyond (S := S2) (w := w) (k := k) _ rfl).ex
        subst hS3
        rw [hb]
        simp
        rw [m_app hrs (by simp [lim_eq]; omega)]
        simp [thsD, lim_eq]
        refine ⟨by omega, k2.set (.inl (Nat.le_refl _)) _, ?_, rs ++ [rowD w k (.inn t) z], ?_, by simp [hrl], ext z⟩
        · rw [hsucc]
          simp [pushT, Th.d]
        · rw [get_set hrs]
          rfl
    · rintro δ S2 ⟨k2, ⟨v5, v6, rfl⟩, rs, hrs, hrl, hro⟩
      have hcs2 := k2.get _ _ (by simp) hcs
      simp [isL_cell hcs2]
      rw [m_app hcs2 (by simp [lim_eq]; omega)]
      simp
      have hne : S.length ≠ S1.length := by omega
      refine ⟨(k1.trans k2).set (.inl (Nat.le_refl _)) _, cs ++ [S1.length], ?_, by simp [hcl], fun j c w' hj hw' => ?_⟩
      · rw [get_set hcs2]
        simp
      · by_cases h : j < cs.length
        · rw [List.getElem?_append_left h] at hj
          obtain ⟨a, rs', b, d⟩ := hrows j c w' hj hw'
          refine ⟨a, rs', ?_, d⟩
          rw [List.getElem?_set_ne (by omega)]
          exact k2.get _ _ (by simp) b
        · rw [List.getElem?_append_right (by omega)] at hj
          have hj0 : j - cs.length = 0 := by
            have := (List.getElem?_eq_some_iff.mp hj).1
            simp at this
            omega
          rw [hj0] at hj
          simp at hj
          subst hj
          have hji : j = i := by omega
          subst hji
          rw [hw] at hw'
          cases hw'
          refine ⟨by omega, rs, ?_, ?_⟩
          · rw [List.getElem?_set_ne hne]
            exact hrs
          · refine ⟨by simpa using hrl, fun q s hs => ?_⟩
            have hq : q < w.length := (List.getElem?_eq_some_iff.mp hs).1
            exact hro q s (by simpa using hq) hs
  · rintro δ S1 ⟨k1, ⟨v2, v3, v4, v5, v6, rfl⟩, cs, hcs, hcl, hrows⟩
    simp
    refine ⟨k1, cs, hcs, by simpa using hcl, fun j c w h1 h2 => ?_⟩
    obtain ⟨a, b⟩ := hrows j c w h1 h2
    exact ⟨by omega, b⟩
end
end Dn
set_option Elab.async false
set_option linter.all false
set_option maxRecDepth 100000
set_option maxHeartbeats 2000000
/-! Lp_k84: ceilings, breaches. -/
noncomputable section
namespace Dn
open PySem L2
section
variable {S S' : Sto} {K : List Nat}
theorem isNon_nat {o : Option Nat} : isNon (natD o) = o.isNone := by cases o <;> rfl
def ceilF (ws : List (List Stp)) (t : Th) (d : D) : Option D := match d with
  | .int i => if (entryT (ws[i.toNat]?.getD []) [t]).isSome = true then some d else none
  | _ => none
theorem ceil_mem {n : Nat} {ws : List (List Stp)} {t : Th} {x : D} (h : x ∈ ((List.range n).map fun i => D.int (i : Nat)).filterMap (ceilF ws t)) : ∃ i, i < n ∧ x = .int (i : Nat) := by
  obtain ⟨a, h1, h2⟩ := List.mem_filterMap.mp h
  obtain ⟨i, h3, rfl⟩ := List.mem_map.mp h1
  simp only [ceilF] at h2
  split at h2
  · cases h2
    exact ⟨i, List.mem_range.mp h3, rfl⟩
  · cases h2
def pickF (rk : List Int) (d : D) : Option D := match d with
  | .int i => some (.int (rk[i.toNat]?.getD 0))
  | _ => none
theorem pickF_list {rk : List Int} {n : Nat} (hn : n ≤ rk.length) : ∀ (xs : List D), (∀ x ∈ xs, ∃ i, i < n ∧ x = D.int (i : Nat)) → ∃ l : List Int, xs.filterMap (pickF rk) = l.map D.int ∧ l.length = xs.length ∧ ∀ y ∈ l, y ∈ rk
  | [], _ => ⟨[], rfl, rfl, fun y h => by simp at h⟩
  | x :: xs, h => by
    obtain ⟨i, hi, rfl⟩ := h x List.mem_cons_self
    obtain ⟨l, e, hl, hm⟩ := pickF_list hn xs fun y hy => h y (List.mem_cons_of_mem _ hy)
    obtain ⟨q, hq⟩ : ∃ q, rk[i]? = some q := ⟨_, List.getElem?_eq_getElem (by omega)⟩
    refine ⟨q :: l, ?_, by simp [hl], fun y hy => ?_⟩
    · rw [List.filterMap_cons, e]
      simp [pickF, hq]
    · rcases List.mem_cons.mp hy with rfl | hy
      · exact List.mem_of_getElem? hq
      · exact hm y hy
def CapOf (rk : List Int) (o : Option Int) : Prop := ∀ i, o = some i → i ∈ rk
theorem r_ceilings {R p0 : Nat} {ws : List (List Stp)} {cs : List Nat} {rk : List Int} (H : HOk R ws) (P : PlanAt K S p0 ws cs) (hrk : rk.length = ws.length) :
    Ok (d_law_ceilings [houseD R ws, .cell p0, ranksD rk] S) fun r S' => Kp [] S S' ∧ ∃ ra : List Cap, r = raisedD ra ∧ ra.length = R ∧ ∀ p ∈ ra, CapOf rk p.1 ∧ CapOf rk p.2 := by
  have r5 := H.r5
  have w5 := H.w5
  have P0 := P.nil
  have ixh : ∀ (S : Sto), opIx (houseD R ws) (.int 0) S = .ok (.tup (List.replicate R roomD)) S := fun S => rfl
  have ixr : ∀ (S : Sto) (i : Nat) (q : Int), rk[i]? = some q → opIx (ranksD rk) (.int (i : Nat)) S = .ok (.int q) S := fun S i q e => p_ixT (by simp [e])
  simp only [d_law_ceilings, b_law_ceilings, startD, o_fn]
  refine ⟨rfl, ?_⟩
  rw [o_seq, o_set]
  simp [lim_eq]
  have hn : R ≤ 1000000 := by omega
  refine ok_forR hn ?I ?_ ?_ ?_
  case I => exact (fun i δ S' => Kp [] S S' ∧ (∃ v4 v5 v6 v7 v8, δ = [some (houseD R ws), some (.cell p0), some (ranksD rk), some (.cell S.length), v4, v5, v6, v7, v8]) ∧ ∃ ra : List Cap, S'[S.length]? = some (.lst (ra.map capD)) ∧ ra.length = i ∧ ∀ p ∈ ra, CapOf rk p.1 ∧ CapOf rk p.2)
  · simp [ixh]
    exact Kp.app _ _ _
  · rintro i δ S1 hi ⟨k1, ⟨v4, v5, v6, v7, v8, rfl⟩, ra, hra, hrl, hall⟩
    have hlt := lt_of_get hra
    refine ⟨_, set_nm, ?_⟩
    simp [lim_eq]
    refine ok_forT (xs := [false, true].map mD) (fun j δ S' => Kp [] S1 S' ∧ (∃ v6 v7 v8, δ = [some (houseD R ws), some (.cell p0), some (ranksD rk), some (.cell S.length), some (.int (i : Nat)), some (.cell S1.length), v6, v7, v8]) ∧ ∃ os : List (Option Int), S'[S1.length]? = some (.lst (os.map oD)) ∧ os.length = j ∧ ∀ o ∈ os, CapOf rk o) ?_ ?_ ?_
    · simp [mD]
      exact ⟨by simp [lim_eq], Kp.app _ _ _⟩
    · rintro j δ S2 x hx ⟨k2, ⟨v6, v7, v8, rfl⟩, os, hos, hol, hoall⟩
      obtain ⟨b, hb, rfl⟩ := map_get hx
      have hj2 : j < 2 := by
        have := (List.getElem?_eq_some_iff.mp hb).1
        simpa using this
      refine ⟨_, set_nm, ?_⟩
      rw [o_seq, o_set]
      have P2 := P0.mono (k1.trans k2)
      refine ok_lcR (n := ws.length) (ceilF ws (i, b)) (by omega) ?_ ?_ ?_
      · simp [P2.len', Kp.refl]
      · intro h hh S3 k3
        obtain ⟨w, hw⟩ : ∃ w, ws[h]? = some w := ⟨_, List.getElem?_eq_getElem hh⟩
        have P3 := P2.mono k3
        have ent := r_law_entry (S := S3) (R := R) (l := [(i, b)]) P3 hw (fun u hu => by rw [List.mem_singleton.mp hu]; exact hi)
        have e1 : thsD [(i, b)] = .tup [.tup [.int (i : Nat), mD b]] := rfl
        rw [e1] at ent
        refine ⟨_, set_nm, ?_⟩
        simp [wipeD, ent, isNon_nat, ceilF, hw, Kp.refl, lim_eq]
        cases entryT w [(i, b)] <;> simp
      · intro S3 c3 k3 hl3 hc3
        have k23 := k2.trans k3
        have hos3 := k3.get _ _ (by simp) hos
        obtain ⟨l, el, ll, lm⟩ := pickF_list (rk := rk) (n := ws.length) (by omega) _ (fun x hx => ceil_mem (n := ws.length) (ws := ws) (t := (i, b)) hx)
        have sm : ∀ x ∈ ((List.range ws.length).map fun i => D.int (i : Nat)).filterMap (ceilF ws (i, b)), ∃ i, i < ws.length ∧ x = D.int (i : Nat) := fun x hx => ceil_mem hx
        have hxl := List.length_filterMap_le (ceilF ws (i, b)) ((List.range ws.length).map fun i => D.int (i : Nat))
        rw [List.length_map, List.length_range] at hxl
        generalize ((List.range ws.length).map fun i => D.int (i : Nat)).filterMap (ceilF ws (i, b)) = xs at *
        have e := p_neNil (S := S3 ++ [.lst []]) (k := 0) (w := 4) ((Kp.app [] S3 [.lst []]).get _ _ (by simp) hc3) (fun x hx => rd_small w5 (sm x hx)) (by decide) (get_push S3 _)
        show OkS _ _
        simp [isL_cell hos3, lim_eq, e]
        have fin : ∀ (S4 : Sto) (o : Option Int), Kp [] S3 S4 → CapOf rk o → Ok (mAppend (.cell S1.length) [oD o] S4) fun _ S' => Kp [] S1 S' ∧ ∃ os : List (Option Int), S'[S1.length]? = some (.lst (os.map oD)) ∧ os.length = j + 1 ∧ ∀ o ∈ os, CapOf rk o := by
          intro S4 o k4 ho
          have hos4 := k4.get _ _ (by simp) hos3
          rw [m_app hos4 (by simp [lim_eq]; omega)]
          refine ⟨(k23.trans k4).set (.inl (Nat.le_refl _)) _, os ++ [o], ?_, by simp [hol], fun o' ho' => ?_⟩
          · rw [get_set hos4]
            simp
          · rcases List.mem_append.mp ho' with h | h
            · exact hoall o' h
            · rw [List.mem_singleton.mp h]
              exact ho
        by_cases hne : xs = []
        · simp [hne]
          have := fin (S3 ++ [.lst []]) none (Kp.app _ _ _) (fun i h => by cases h)
          exact this
        · simp [hne]
          have hc4 : (S3 ++ [C.lst []])[c3]? = some (.lst xs) := (Kp.app [] S3 _).get _ _ (by simp) hc3
          have xl : xs.length ≤ 100000 := by omega
          refine ok_lcL (xs := xs) (c0 := c3) (pickF rk) ?_ hc4 (by simpa [lim_eq] using xl) ?_ ?_
          · simp [Kp.refl]
          · intro x hx S5 k5
            obtain ⟨h, hh, rfl⟩ := sm x hx
            obtain ⟨q, hq⟩ : ∃ q, rk[h]? = some q := ⟨_, List.getElem?_eq_getElem (by omega)⟩
            refine ⟨_, set_nm, ?_⟩
            simp [wipeD, ixr _ _ _ hq, pickF, hq, Kp.refl]
          · intro S5 c5 k5 hl5 hc5
            rw [el] at hc5
            obtain ⟨z, l', rfl⟩ : ∃ z l', l = z :: l' := by
              cases l with
              | nil => exact absurd (List.length_eq_zero_iff.mp ll.symm) hne
              | cons z l' => exact ⟨z, l', rfl⟩
            rw [b_maxL hc5, Ok_ok]
            have := fin S5 (some (maxI (z :: l'))) ((Kp.app _ _ _).trans k5) (fun i h => by cases h; exact lm _ (maxI_mem z l'))
            exact this
    · rintro δ S2 ⟨k2, ⟨v6, v7, v8, rfl⟩, os, hos, hol, hoall⟩
      have hra2 := k2.get _ _ (by simp) hra
      obtain ⟨o1, o2, rfl⟩ : ∃ o1 o2, os = [o1, o2] := by
        match os, hol with
        | [o1, o2], _ => exact ⟨o1, o2, rfl⟩
      simp [isL_cell hra2, b_tupL hos]
      rw [m_app hra2 (by simp [lim_eq]; omega)]
      refine ⟨(k1.trans k2).set (.inl (Nat.le_refl _)) _, ra ++ [(o1, o2)], ?_, by simp [hrl], fun a b hp => ?_⟩
      · rw [get_set hra2]
        simp [capD]
      · rcases List.mem_append.mp hp with h | h
        · exact hall (a, b) h
        · cases List.mem_singleton.mp h
          exact ⟨hoall _ (by simp), hoall _ (by simp)⟩
  · rintro δ S1 ⟨k1, ⟨v4, v5, v6, v7, v8, rfl⟩, ra, hra, hrl, hall⟩
    simp [b_tupL hra]
    exact ⟨k1, ra, rfl, hrl, fun a b h => hall (a, b) h⟩
/-! ### breaches -/
def BrOk (x : D) : Prop := ∃ a b c d : Nat, x = .tup [.int (a : Nat), .int (b : Nat), .int (c : Nat), .int (d : Nat)] ∧ a < 100 ∧ b < 100 ∧ c < 100 ∧ d < 100
theorem entry_lt {w : List Stp} {l : List Th} {k : Nat} (h : entryT w l = some k) : k < w.length := List.mem_range.mp (List.mem_of_find?_eq_some h)
theorem r_breaches {R p0 : Nat} {ws : List (List Stp)} {cs : List Nat} {rk : List Int} {ra : List Cap} (H : HOk R ws) (P : PlanAt K S p0 ws cs) (hra : ra.length = R) (hrk : rk.length = ws.length) :
    Ok (d_law_breaches [houseD R ws, .cell p0, ranksD rk, raisedD ra] S) fun r S' => Kp [] S S' ∧ ∃ (c : Nat) (fs : List D), r = .cell c ∧ S.length ≤ c ∧ S'[c]? = some (.lst fs) ∧ fs.length ≤ 1000 ∧ ∀ x ∈ fs, BrOk x := by
  have w5 := H.w5
  have P0 := P.nil
  have ixr : ∀ (S : Sto) (i : Nat) (q : Int), rk[i]? = some q → opIx (ranksD rk) (.int (i : Nat)) S = .ok (.int q) S := fun S i q e => p_ixT (by simp [e])
  simp only [d_law_breaches, b_law_breaches, startD, o_fn]
  refine ⟨rfl, ?_⟩
  rw [o_seq, o_set]
  simp [lim_eq]
  -- the found list, from S on
  let Fd (S' : Sto) (c n : Nat) : Prop := S.length ≤ c ∧ ∃ fs : List D, S'[c]? = some (.lst fs) ∧ fs.length ≤ n ∧ ∀ x ∈ fs, BrOk x
  have Fdm : ∀ {S1 S2 : Sto} {c n : Nat}, Kp [] S1 S2 → Fd S1 c n → Fd S2 c n := fun k ⟨a, fs, b, d⟩ => ⟨a, fs, k.get _ _ (by simp) b, d⟩
  have Fdl : ∀ {S1 : Sto} {c n m : Nat}, n ≤ m → Fd S1 c n → Fd S1 c m := fun h ⟨a, fs, b, d, e⟩ => ⟨a, fs, b, Nat.le_trans d h, e⟩
  refine ok_forEL (xs := cs.map D.cell) (c := p0) ?I ?_ ?_ ?_ ?_
  case I => exact (fun i δ S' => Kp [] S S' ∧ ∃ c v5 v6 v7 v8 v9, δ = [some (houseD R ws), some (.cell p0), some (ranksD rk), some (raisedD ra), some (.cell c), v5, v6, v7, v8, v9] ∧ Fd S' c (i * 125))
  · simp
    refine ⟨Kp.app _ _ _, Nat.le_refl _, [], ?_, by simp, fun x hx => by simp at hx⟩
    simp
  · rintro i δ S1 ⟨k1, _⟩
    exact k1.get _ _ (by simp) P.pc
  · rintro i δ S1 x hx ⟨k1, c, v5, v6, v7, v8, v9, rfl, F1⟩
    obtain ⟨cc, hcc, rfl⟩ := map_get hx
    have hi : i < ws.length := by
      rw [← P.len]
      exact (List.getElem?_eq_some_iff.mp hcc).1
    obtain ⟨w, hw⟩ : ∃ w, ws[i]? = some w := ⟨_, List.getElem?_eq_getElem hi⟩
    have hwm := List.mem_of_getElem? hw
    have hlen := H.len w hwm
    obtain ⟨ql, hql⟩ : ∃ q, rk[i]? = some q := ⟨_, List.getElem?_eq_getElem (by omega)⟩
    obtain ⟨_, rs, hrs, hrl, hro⟩ := P0.row i cc w hcc hw
    simp only [set_tp, setAll_cons, set_nm, setAll_nil, Option.bind_some]
    refine ⟨_, rfl, ?_⟩
    have hn1 : w.length ≤ 1000000 := by omega
    refine ok_forR hn1 ?I ?_ ?_ ?_
    case I => exact (fun k δ S' => Kp [] S S' ∧ ∃ c v7 v8 v9, δ = [some (houseD R ws), some (.cell p0), some (ranksD rk), some (raisedD ra), some (.cell c), some (.int (i : Nat)), some (.cell cc), v7, v8, v9] ∧ Fd S' c (i * 125 + k * 5))
    · simp [b_lenL (k1.get _ _ (by simp) hrs), hrl, k1]
      exact F1
    · rintro k δ S2 hk ⟨k2, c2, v7, v8, v9, rfl, F2⟩
      refine ⟨_, set_nm, ?_⟩
      have hn2 : ws.length ≤ 1000000 := by omega
      refine ok_forR hn2 ?I ?_ ?_ ?_
      case I => exact (fun h δ S' => Kp [] S S' ∧ ∃ c v8 v9, δ = [some (houseD R ws), some (.cell p0), some (ranksD rk), some (raisedD ra), some (.cell c), some (.int (i : Nat)), some (.cell cc), some (.int (k : Nat)), v8, v9] ∧ Fd S' c (i * 125 + k * 5 + h))
      · simp [(P0.mono k2).len', k2]
        exact F2
      · rintro h δ S3 hh ⟨k3, c3, v8, v9, rfl, F3⟩
        obtain ⟨wh, hwh⟩ : ∃ w, ws[h]? = some w := ⟨_, List.getElem?_eq_getElem hh⟩
        obtain ⟨qh, hqh⟩ : ∃ q, rk[h]? = some q := ⟨_, List.getElem?_eq_getElem (by omega)⟩
        have hlh := H.len wh (List.mem_of_getElem? hwh)
        have P3 := P0.mono k3
        refine ⟨_, set_nm, ?_⟩
        rw [o_ifS]
        refine Ok.imp (P := fun b S' => Kp [] S3 S') ?_ ?_
        · by_cases c1 : ql < qh
          · have c2 : ¬ qh ≤ ql := by omega
            simp [ixr _ _ _ hqh, ixr _ _ _ hql, c1, c2]
            refine Ok.imp (r_law_rank_at H P3 hra hw hql hk) ?_
            rintro r S4 ⟨rfl, k4⟩
            simp [ixr _ _ _ hqh, k4]
            exact (Classical.em _).symm.imp (fun z => by omega) id
          · have c2 : qh ≤ ql := by omega
            simp [ixr _ _ _ hqh, ixr _ _ _ hql, c1, c2, Kp.refl]
        · rintro b S4 k4
          have k34 := k3.trans k4
          have F4 := Fdm k4 F3
          have P4 := P0.mono k34
          cases b with
          | false =>
            simp [k34]
            exact Fdl (by omega) F4
          | true =>
            have hin : ∀ u ∈ heldT w k, u.1 < R := fun u hu => H.inr w hwm u (heldT_mem k u hu)
            obtain ⟨s, hs⟩ : ∃ s, w[k]? = some s := ⟨_, List.getElem?_eq_getElem hk⟩
            obtain ⟨z, hz⟩ := hro k s hs
            have hrs4 := k34.get _ _ (by simp) hrs
            rw [if_pos rfl]
            simp [p_ixL hrs4 hz, r_law_entry P4 hwh hin, lim_eq]
            obtain ⟨hc3, fs, hfs, hfl, hfa⟩ := F4
            have hfs5 : (S4 ++ [C.lst [D.tup [D.int (i : Nat), D.int (k : Nat), D.int (h : Nat), natD (entryT wh (heldT w k))]]])[c3]? = some (.lst fs) := (Kp.app [] S4 _).get _ _ (by simp) hfs
            have hnew := get_push S4 (C.lst [D.tup [D.int (i : Nat), D.int (k : Nat), D.int (h : Nat), natD (entryT wh (heldT w k))]])
            have k5 : Kp [] S (S4 ++ [C.lst [D.tup [D.int (i : Nat), D.int (k : Nat), D.int (h : Nat), natD (entryT wh (heldT w k))]]]) := k34.push _
            generalize hS5 : S4 ++ [C.lst [D.tup [D.int (i : Nat), D.int (k : Nat), D.int (h : Nat), natD (entryT wh (heldT w k))]]] = S5 at *
            cases he : entryT wh (heldT w k) with
            | none =>
              rw [he] at hnew
              have em : opMul (.cell S4.length) (.int 0) S5 = mkLst [] S5 := by
                unfold opMul
                simp only [hnew]
                rfl
              simp [natD, em, lim_eq]
              have hfs6 : (S5 ++ [C.lst []])[c3]? = some (.lst fs) := (Kp.app [] S5 _).get _ _ (by simp) hfs5
              rw [p_addL hfs6 (get_push S5 _)]
              simp [lim_eq]
              refine ⟨by omega, (k5.push _), ?_, fs, ?_, by omega, hfa⟩
              · have := (k5.push [C.lst []]).le
                simpa using this
              · have := get_push (S5 ++ [C.lst []]) (C.lst fs)
                simpa using this
            | some n =>
              rw [he] at hnew
              have hnl := entry_lt he
              have em : opMul (.cell S4.length) (.int 1) S5 = mkLst [D.tup [D.int (i : Nat), D.int (k : Nat), D.int (h : Nat), natD (some n)]] S5 := by
                unfold opMul
                simp only [hnew]
                rfl
              simp [natD, em, lim_eq]
              have hfs6 : (S5 ++ [C.lst [D.tup [D.int (i : Nat), D.int (k : Nat), D.int (h : Nat), D.int (n : Nat)]]])[c3]? = some (.lst fs) := (Kp.app [] S5 _).get _ _ (by simp) hfs5
              rw [p_addL hfs6 (get_push S5 _)]
              simp [lim_eq]
              refine ⟨by omega, (k5.push _), ?_, fs ++ [D.tup [D.int (i : Nat), D.int (k : Nat), D.int (h : Nat), D.int (n : Nat)]], ?_, by simp; omega, fun x hx => ?_⟩
              · have := (k5.push [C.lst [D.tup [D.int (i : Nat), D.int (k : Nat), D.int (h : Nat), D.int (n : Nat)]]]).le
                simpa using this
              · have := get_push (S5 ++ [C.lst [D.tup [D.int (i : Nat), D.int (k : Nat), D.int (h : Nat), D.int (n : Nat)]]]) (C.lst (fs ++ [D.tup [D.int (i : Nat), D.int (k : Nat), D.int (h : Nat), D.int (n : Nat)]]))
                simpa using this
              · rcases List.mem_append.mp hx with hx | hx
                · exact hfa x hx
                · rw [List.mem_singleton.mp hx]
                  exact ⟨i, k, h, n, rfl, by omega, by omega, by omega, by omega⟩
      · rintro δ S3 ⟨k3, c3, v8, v9, rfl, F3⟩
        exact ⟨k3, c3, _, _, _, rfl, Fdl (by omega) F3⟩
    · rintro δ S2 ⟨k2, c2, v7, v8, v9, rfl, F2⟩
      exact ⟨k2, c2, _, _, _, _, _, rfl, Fdl (by omega) F2⟩
  · rintro δ S1 ⟨k1, c, v5, v6, v7, v8, v9, rfl, hc, fs, hfs, hfl, hfa⟩
    simp
    rw [List.length_map, P.len] at hfl
    exact ⟨k1, hc, fs, hfs, by omega, hfa⟩
end
end Dn
set_option Elab.async false
set_option linter.all false
set_option maxRecDepth 100000
set_option maxHeartbeats 2000000
/-! Lq_k84: what is drawn to be raised. -/
noncomputable section
namespace Dn
open PySem L2
theorem lt127 {n : Nat} (h : n < 2 ^ 61) : n < 2 ^ 127 := Nat.lt_of_lt_of_le h (Nat.pow_le_pow_right (by decide) (by decide))
def SmO (o : Option Int) : Prop := ∀ i, o = some i → i.natAbs < 2 ^ 127
structure Rz (S0 S : Sto) (cr n : Nat) : Prop where
  ex : ∃ cs : List Nat, S0.length ≤ cr ∧ S[cr]? = some (.lst (cs.map D.cell)) ∧ cs.length = n ∧ ∀ c ∈ cs, S0.length ≤ c ∧ ∃ a b, S[c]? = some (.lst [oD a, oD b]) ∧ SmO a ∧ SmO b
theorem all_cells {Q : Nat → Prop} : ∀ {acc : List D}, (∀ x ∈ acc, ∃ c, x = D.cell c ∧ Q c) → ∃ cs : List Nat, acc = cs.map D.cell ∧ cs.length = acc.length ∧ ∀ c ∈ cs, Q c
  | [], _ => ⟨[], rfl, rfl, fun c h => by simp at h⟩
  | x :: acc, h => by
    obtain ⟨c, rfl, hc⟩ := h x List.mem_cons_self
    obtain ⟨cs, e, l, hall⟩ := all_cells (acc := acc) fun y hy => h y (List.mem_cons_of_mem _ hy)
    refine ⟨c :: cs, by rw [e]; rfl, by simp [l], fun d hd => ?_⟩
    rcases List.mem_cons.mp hd with rfl | hd
    · exact hc
    · exact hall d hd
def tupF (S : Sto) (d : D) : Option D := match d with
  | .cell c => match S[c]? with
    | some (.lst xs) => some (.tup xs)
    | _ => none
  | _ => none
theorem tupF_list {S : Sto} : ∀ {cs : List Nat}, (∀ c ∈ cs, ∃ a b, S[c]? = some (.lst [oD a, oD b]) ∧ SmO a ∧ SmO b) → ∃ ra : List Cap, (cs.map D.cell).filterMap (tupF S) = ra.map capD ∧ ra.length = cs.length ∧ Small ra
  | [], _ => ⟨[], rfl, rfl, fun p h => by simp at h⟩
  | c :: cs, h => by
    obtain ⟨a, b, e, sa, sb⟩ := h c List.mem_cons_self
    obtain ⟨ra, e2, l, sm⟩ := tupF_list (cs := cs) fun d hd => h d (List.mem_cons_of_mem _ hd)
    refine ⟨(a, b) :: ra, ?_, by simp [l], fun p hp => ?_⟩
    · rw [List.map_cons, List.filterMap_cons, e2]
      simp [tupF, e, capD]
    · rcases List.mem_cons.mp hp with rfl | hp
      · exact ⟨sa, sb⟩
      · exact sm p hp
theorem mpw19 : (0 : Int) ≤ 19 ∧ (19 : Int) ≤ 1000000 ∧ (10 : Int).natAbs < 2 ^ 64 := ⟨by omega, by omega, by decide⟩
theorem big19 : ((10 : Int) ^ ((19 : Int).toNat)).natAbs < 2 ^ 127 := by decide +kernel
theorem putL {S : Sto} {c j : Nat} {xs : List D} {d : D} (h : S[c]? = some (.lst xs)) (hj : j < xs.length) : putAt (.cell c) (.int (j : Nat)) d S = some (S.set c (.lst (xs.set j d))) := by
  unfold putAt
  have e : ixN xs.length (j : Int) = some j := by
    unfold ixN
    rw [if_pos (by omega), if_pos (by omega)]
    simp
  simp only [h, e]
section
variable {S S' : Sto} {kd kg : Nat}
theorem Rz.mono {S0 S1 S2 : Sto} {cr n : Nat} (h : Rz S0 S1 cr n) (k : Kp (List.range S0.length) S1 S2) : Rz S0 S2 cr n := by
  obtain ⟨cs, a, b, c, d⟩ := h
  exact ⟨cs, a, k.get _ _ (by rw [List.mem_range]; omega) b, c, fun x hx => let ⟨e, f, g, i, j⟩ := d x hx; ⟨e, f, g, k.get _ _ (by rw [List.mem_range]; omega) i, j⟩⟩
theorem kp_rng {S0 S1 S2 : Sto} (Dk : Deck kd kg S0) (k : Kp [kd, kg] S1 S2) : Kp (List.range S0.length) S1 S2 := k.sub fun c hc => by
  have := Dk.lt
  simp at hc
  rw [List.mem_range]
  omega
theorem r_drawn_raised {R p0 : Nat} {ws : List (List Stp)} {cs : List Nat} {rk : List Int} (Dk : Deck kd kg S) (H : HOk R ws) (P : PlanAt [kd, kg] S p0 ws cs) (hrk : rk.length = ws.length) (hsm : ∀ x ∈ rk, x.natAbs < 2 ^ 61) :
    ∀ dH : D, dH = houseD R ws → Ok (d_law_drawn_raised [.cell kd, dH, .cell p0, ranksD rk] S) fun r S' => Dw kd kg S S' ∧ ∃ ra : List Cap, r = raisedD ra ∧ ra.length = R ∧ Small ra := by
  intro dH eH
  have r1 := H.r1
  have r5 := H.r5
  have w5 := H.w5
  have capS : ∀ o, CapOf rk o → SmO o := fun o h i e => by
    exact lt127 (hsm i (h i e))
  have hc := r_ceilings H P hrk
  rw [← eH] at hc
  obtain ⟨r0, S1, e0, k1, ra0, rfl, hl0, hc0⟩ := Ok.ex hc
  clear hc
  simp only [d_law_drawn_raised, b_law_drawn_raised, startD, o_fn]
  refine ⟨rfl, ?_⟩
  rw [o_seq, o_par, o_cons]
  have hR : R ≤ 1000 := by omega
  refine ok_lcD (kd := kd) (kg := kg) (s0 := .seq (.tup (ra0.map capD))) (n := R) (item := fun i => (ra0.map capD)[i]?.getD .non) (fun K S x => ∃ c, x = .cell c ∧ c ∉ K ∧ ∃ a b, S[c]? = some (.lst [oD a, oD b]) ∧ SmO a ∧ SmO b) ?_ ?_ hR ?_ ?_ ?_ ?_ ?_
  · rintro K S S' x k ⟨c, rfl, a, u, v, d, e⟩
    exact ⟨c, rfl, a, u, v, k.get _ _ a d, e⟩
  · rintro K K0 S x hs ⟨c, rfl, a, r⟩
    exact ⟨c, rfl, fun z => a (hs _ z), r⟩
  · simp
    rw [e0]
    simp [raisedD]
    exact ⟨Dk.kp k1, k1.of⟩
  · intro S'
    simp [Src.len, hl0]
  · intro S' i hi
    simp [Src.item, hl0, hi]
  · intro i hi S2 D2 k2
    obtain ⟨p, hp⟩ : ∃ p, ra0[i]? = some p := ⟨_, List.getElem?_eq_getElem (by omega)⟩
    refine ⟨_, set_nm, ?_⟩
    have hcp := hc0 p (List.mem_of_getElem? hp)
    simp [wipeD, hp, capD]
    exact ⟨⟨D2.push _, Kp.app _ _ _⟩, p.1, p.2, ⟨rfl, rfl⟩, capS _ hcp.1, capS _ hcp.2⟩
  · rintro S2 cr acc ⟨D2, k2⟩ hcl hc hlen hall
    have RZ : Rz S S2 cr R := by
      obtain ⟨cs', e, l, h⟩ := all_cells (Q := fun c => S.length ≤ c ∧ ∃ a b, S2[c]? = some (.lst [oD a, oD b]) ∧ SmO a ∧ SmO b) (acc := acc) fun x hx => by
        obtain ⟨c, e, h1, h2⟩ := hall x hx
        rw [List.mem_range] at h1
        exact ⟨c, e, by omega, h2⟩
      exact ⟨cs', hcl, by rw [hc, e], by omega, h⟩
    clear hall hc hlen
    simp
    have dr : Ok (d_law_draw [.cell kd, .int 4] S2) fun r S' => ∃ i : Nat, r = .int (i : Nat) ∧ (1 ≤ 4 → i < 4) ∧ (i < 4 ∨ i = 0) ∧ Dw kd kg S2 S' := r_draw D2 (n := 4) (by omega)
    refine Ok.imp dr ?_
    rintro _ S3 ⟨way, rfl, hway, _, D3, k3⟩
    have hway4 := hway (by omega)
    have RZ3 := RZ.mono (kp_rng Dk k3)
    have k03 := k2.trans k3
    generalize hdw : D.int (way : Nat) = dw
    simp [lim_eq]
    rw [p_pow mpw19, Ok_ok]
    have hb := big19
    generalize (10 : Int) ^ ((19 : Int).toNat) = big at hb ⊢
    simp [ranksD]
    have hA : (S3 ++ [C.lst [D.non, D.int (-10), D.int 3, D.int big], C.lst (List.map D.int rk)])[S3.length]? = some (.lst [D.non, D.int (-10), D.int 3, D.int big]) := by
      rw [List.getElem?_append_right (Nat.le_refl _)]
      simp
    have hB : (S3 ++ [C.lst [D.non, D.int (-10), D.int 3, D.int big], C.lst (List.map D.int rk)])[S3.length + 1]? = some (.lst (rk.map D.int)) := by
      rw [List.getElem?_append_right (by omega)]
      simp
    rw [p_addL hA hB]
    simp [lim_eq]
    refine ⟨by omega, ?_⟩
    obtain ⟨os, hos, hosl, hosm⟩ : ∃ os : List (Option Int), D.non :: D.int (-10) :: D.int 3 :: D.int big :: List.map D.int rk = os.map oD ∧ os.length = 4 + rk.length ∧ ∀ o ∈ os, SmO o := by
      refine ⟨none :: some (-10) :: some 3 :: some big :: rk.map some, ?_, by simp; omega, fun o ho => ?_⟩
      · simp [oD]
      · simp only [List.mem_cons] at ho
        rcases ho with rfl | rfl | rfl | rfl | ho
        · intro i e; cases e
        · intro i e; cases e; decide
        · intro i e; cases e; decide
        · intro i e; cases e; exact hb
        · obtain ⟨x, hx, rfl⟩ := List.mem_map.mp ho
          intro i e
          cases e
          exact lt127 (hsm x hx)
    rw [hos]
    have hC : (S3 ++ [C.lst [D.non, D.int (-10), D.int 3, D.int big], C.lst (List.map D.int rk), C.lst (os.map oD)])[S3.length + 2]? = some (.lst (os.map oD)) := by
      rw [List.getElem?_append_right (by omega)]
      simp
    have D4 : Deck kd kg (S3 ++ [C.lst [D.non, D.int (-10), D.int 3, D.int big], C.lst (List.map D.int rk), C.lst (os.map oD)]) := D3.push _
    have k04 : Kp [kd, kg] S (S3 ++ [C.lst [D.non, D.int (-10), D.int 3, D.int big], C.lst (List.map D.int rk), C.lst (os.map oD)]) := k03.push _
    have RZ4 := RZ3.mono (S2 := S3 ++ [C.lst [D.non, D.int (-10), D.int 3, D.int big], C.lst (List.map D.int rk), C.lst (os.map oD)]) (Kp.app _ _ _)
    have fC : S3.length + 2 ∉ [kd, kg] := D3.fresh (by omega)
    generalize S3 ++ [C.lst [D.non, D.int (-10), D.int 3, D.int big], C.lst (List.map D.int rk), C.lst (os.map oD)] = S4 at *
    generalize S3.length + 2 = cC at *
    have hosne : os.map oD ≠ [] := fun z => by
      have : os = [] := List.map_eq_nil_iff.mp z
      rw [this] at hosl
      simp at hosl
      omega
    have hosl2 : (os.map oD).length ≤ 1000 := by rw [List.length_map]; omega
    have pickC : ∀ S5, Deck kd kg S5 → S5[cC]? = some (.lst (os.map oD)) → Ok (d_law_pick [.cell kd, .cell cC] S5) fun r S' => (∃ o, r = oD o ∧ SmO o) ∧ Dw kd kg S5 S' := fun S5 D5 h5 => by
      refine Ok.imp (r_pick D5 h5 fC hosne hosl2) ?_
      rintro r S6 ⟨hr, D6⟩
      obtain ⟨o, ho, rfl⟩ := List.mem_map.mp hr
      exact ⟨⟨o, rfl, hosm o ho⟩, D6⟩
    -- from here on: the deck, the raised list at some cell
    have last : ∀ (S6 : Sto) (c6 : Nat), Deck kd kg S6 → Kp [kd, kg] S S6 → Rz S S6 c6 R → ∀ v5 v6 v7 v8, Ok (dLc (srcL (dVar 4)) (Tg.nm 7) dYes (dCall bTuple (dCons (dVar 7) dNil)) [7] [some (.cell kd), some dH, some (.cell p0), some (.tup (rk.map D.int)), some (.cell c6), v5, v6, v7, v8] S6) fun x S5 => Ok (bTuple [x] S5) fun r S' => Dw kd kg S S' ∧ ∃ ra : List Cap, r = raisedD ra ∧ ra.length = R ∧ Small ra := by
      intro S6 c6 D6 k6 ⟨cs', hcl6, hS6, hlen6, hall6⟩ v5 v6 v7 v8
      refine ok_lcL (xs := cs'.map D.cell) (c0 := c6) (tupF S6) ?_ hS6 ?_ ?_ ?_
      · simp [Kp.refl]
      · rw [List.length_map, lim_eq]
        omega
      · intro x hx S7 k7
        obtain ⟨c, hc, rfl⟩ := List.mem_map.mp hx
        obtain ⟨_, a, b, e, _⟩ := hall6 c hc
        refine ⟨_, set_nm, ?_⟩
        simp [wipeD, b_tupL (k7.get _ _ (by simp) e), tupF, e, Kp.refl]
      · intro S7 c7 k7 hl7 hc7
        obtain ⟨ra, er, hrl, hrs⟩ := tupF_list (S := S6) (cs := cs') (fun c hc => (hall6 c hc).2)
        rw [er] at hc7
        rw [b_tupL hc7]
        exact ⟨⟨D6.kp k7, k6.trans k7.of⟩, ra, rfl, by omega, hrs⟩
    have hne3 : ∀ (S : Sto), way ≠ 3 → opEq dw (.int 3) S = .ok (.bl false) S := fun S h => by
      rw [← hdw, p_eqI]
      have : ¬ ((way : Int) = 3) := by omega
      simp [this]
    have put : Ok (d_law_pick [D.cell kd, D.cell cC] S4) fun d S1 => Ok (bLen [D.cell cr] S1) fun x S1 => Ok (d_law_draw [D.cell kd, x] S1) fun y S_2 => Ok (opIx (D.cell cr) y S_2) fun x S2 => Ok (d_law_draw [D.cell kd, D.int 2] S2) fun y S3 =>
        ∃ j, y = D.int j ∧ ∃ x_1, putAt x (D.int j) d S3 = some x_1 ∧ Deck kd kg x_1 ∧ Kp [kd, kg] S x_1 ∧ Rz S x_1 cr R := by
      refine Ok.imp (pickC S4 D4 hC) ?_
      rintro _ S5 ⟨⟨o, rfl, ho⟩, D5, k5⟩
      have RZ5 := RZ4.mono (kp_rng Dk k5)
      obtain ⟨cs', a1, a2, a3, a4⟩ := id RZ5
      rw [b_lenL a2, Ok_ok, List.length_map, a3]
      have hR6 : R ≤ 1000000 := by omega
      refine Ok.imp (r_draw D5 hR6) ?_
      rintro _ S6 ⟨jr, rfl, hjr, _, D6, k6⟩
      have hjr2 := hjr r1
      obtain ⟨c, hc⟩ : ∃ c, cs'[jr]? = some c := ⟨_, List.getElem?_eq_getElem (by omega)⟩
      obtain ⟨b1, a, b, b2, b3, b4⟩ := a4 c (List.mem_of_getElem? hc)
      have ix : opIx (.cell cr) (.int (jr : Nat)) S6 = .ok (.cell c) S6 := p_ixL (k6.get _ _ (Dk.fresh a1) a2) (by simp [hc])
      rw [ix, Ok_ok]
      have dr2 : Ok (d_law_draw [.cell kd, .int 2] S6) fun r S' => ∃ i : Nat, r = .int (i : Nat) ∧ (1 ≤ 2 → i < 2) ∧ (i < 2 ∨ i = 0) ∧ Dw kd kg S6 S' := r_draw D6 (n := 2) (by omega)
      refine Ok.imp dr2 ?_
      rintro _ S7 ⟨j, rfl, hj, _, D7, k7⟩
      have hj2 := hj (by omega)
      have hc7 := k7.get _ _ (Dk.fresh b1) (k6.get _ _ (Dk.fresh b1) b2)
      have RZ7 := RZ5.mono (kp_rng Dk (k6.trans k7))
      have pt := putL (d := oD o) hc7 (j := j) (by simpa using hj2)
      refine ⟨_, rfl, _, pt, D7.set (Dk.fresh b1) _, ((k04.trans k5).trans (k6.trans k7)).set (.inl b1) _, ?_⟩
      obtain ⟨cs2, a1', a2', a3', a4'⟩ := RZ7
      -- the row itself is no pair: a list of one cell is not [a, b] of raised values
      have hcr : c ≠ cr := fun z => by
        subst z
        rw [a2'] at hc7
        injection hc7 with e
        injection e with e
        cases cs2 with
        | nil => simp at e
        | cons q qs =>
          simp at e
          obtain ⟨e1, _⟩ := e
          cases a <;> simp [oD] at e1
      refine ⟨cs2, a1', ?_, a3', fun c' hc' => ?_⟩
      · rw [List.getElem?_set_ne hcr]
        exact a2'
      · obtain ⟨e1, a', b', e2, e3, e4⟩ := a4' c' hc'
        refine ⟨e1, ?_⟩
        by_cases hcc : c = c'
        · subst hcc
          rw [get_set hc7]
          have : j = 0 ∨ j = 1 := by omega
          rcases this with rfl | rfl
          · exact ⟨o, b, rfl, ho, b4⟩
          · exact ⟨a, o, rfl, b3, ho⟩
        · rw [List.getElem?_set_ne hcc]
          exact ⟨a', b', e2, e3, e4⟩
    have rows : Ok (dLc (srcT (dBin opIx (dVar 1) (dC (D.int 0)))) (Tg.nm 8) dYes (dLst (dCons (dCall d_law_pick (dCons (dVar 0) (dCons (dVar 6) dNil))) (dCons (dCall d_law_pick (dCons (dVar 0) (dCons (dVar 6) dNil))) dNil))) [8]
        [some (D.cell kd), some dH, some (D.cell p0), some (D.tup (List.map D.int rk)), some (D.cell cr), some dw, some (D.cell cC), none, none] S4) fun d S' => ∃ c6, d = .cell c6 ∧ Deck kd kg S' ∧ Kp [kd, kg] S S' ∧ Rz S S' c6 R := by
      have hR1 : R ≤ 1000 := by omega
      refine ok_lcD (kd := kd) (kg := kg) (s0 := .seq (.tup (List.replicate R roomD))) (n := R) (item := fun i => roomD) (fun K S x => ∃ c, x = .cell c ∧ c ∉ K ∧ ∃ a b, S[c]? = some (.lst [oD a, oD b]) ∧ SmO a ∧ SmO b) ?_ ?_ hR1 ?_ ?_ ?_ ?_ ?_
      · rintro K S S' x k ⟨c, rfl, a, u, v, d, e⟩
        exact ⟨c, rfl, a, u, v, k.get _ _ a d, e⟩
      · rintro K K0 S x hs ⟨c, rfl, a, r⟩
        exact ⟨c, rfl, fun z => a (hs _ z), r⟩
      · simp [eH, houseD, D4, Kp.refl]
      · intro S'
        simp [Src.len]
      · intro S' i hi
        simp [Src.item, hi]
      · intro i hi S5 D5 k5
        refine ⟨_, set_nm, ?_⟩
        simp [wipeD, lim_eq]
        refine Ok.imp (pickC S5 D5 (k5.get _ _ fC hC)) ?_
        rintro _ S6 ⟨⟨o1, rfl, ho1⟩, D6, k6⟩
        refine Ok.imp (pickC S6 D6 ((k5.trans k6).get _ _ fC hC)) ?_
        rintro _ S7 ⟨⟨o2, rfl, ho2⟩, D7, k7⟩
        have le := (k6.trans k7).le
        exact ⟨⟨D7.push _, (k6.trans k7).push _⟩, le, o1, o2, ⟨rfl, rfl⟩, ho1, ho2⟩
      · rintro S5 c5 acc ⟨D5, k5⟩ hcl5 hc5 hlen5 hall5
        refine ⟨c5, rfl, D5, k04.trans k5, ?_⟩
        have le4 := k04.le
        obtain ⟨cs', e, l, h⟩ := all_cells (Q := fun c => S.length ≤ c ∧ ∃ a b, S5[c]? = some (.lst [oD a, oD b]) ∧ SmO a ∧ SmO b) (acc := acc) fun x hx => by
          obtain ⟨c, e, h1, h2⟩ := hall5 x hx
          rw [List.mem_range] at h1
          exact ⟨c, e, by omega, h2⟩
        exact ⟨cs', by omega, by rw [hc5, e], by omega, h⟩
    have hw4 : way = 0 ∨ way = 1 ∨ way = 2 ∨ way = 3 := by omega
    rcases hw4 with hw | hw | hw | hw
    · have eIn : opIn false dw (.tup [.int 1, .int 2]) S4 = .ok (.bl false) S4 := by rw [← hdw, hw]; rfl
      rw [eIn, Ok_ok]
      refine Or.inl ⟨rfl, ?_⟩
      rw [hne3 _ (by omega), Ok_ok]
      exact Or.inl ⟨rfl, last S4 cr D4 k04 RZ4 _ _ _ _⟩
    · have eIn : opIn false dw (.tup [.int 1, .int 2]) S4 = .ok (.bl true) S4 := by rw [← hdw, hw]; rfl
      rw [eIn, Ok_ok]
      refine Or.inr ⟨rfl, ?_⟩
      refine Ok.imp put fun d S1 h => Ok.imp h fun x S1 h => Ok.imp h fun y S1 h => Ok.imp h fun x S1 h => Ok.imp h fun y S3 h => ?_
      obtain ⟨j, e1, x1, e2, D8, k8, RZ8⟩ := h
      refine ⟨j, e1, x1, e2, ?_⟩
      rw [hne3 _ (by omega), Ok_ok]
      exact Or.inl ⟨rfl, last x1 cr D8 k8 RZ8 _ _ _ _⟩
    · have eIn : opIn false dw (.tup [.int 1, .int 2]) S4 = .ok (.bl true) S4 := by rw [← hdw, hw]; rfl
      rw [eIn, Ok_ok]
      refine Or.inr ⟨rfl, ?_⟩
      refine Ok.imp put fun d S1 h => Ok.imp h fun x S1 h => Ok.imp h fun y S1 h => Ok.imp h fun x S1 h => Ok.imp h fun y S3 h => ?_
      obtain ⟨j, e1, x1, e2, D8, k8, RZ8⟩ := h
      refine ⟨j, e1, x1, e2, ?_⟩
      rw [hne3 _ (by omega), Ok_ok]
      exact Or.inl ⟨rfl, last x1 cr D8 k8 RZ8 _ _ _ _⟩
    · have eIn : opIn false dw (.tup [.int 1, .int 2]) S4 = .ok (.bl false) S4 := by rw [← hdw, hw]; rfl
      have e3 : ∀ S, opEq dw (.int 3) S = .ok (.bl true) S := fun S => by rw [← hdw, hw]; rfl
      rw [eIn, Ok_ok]
      refine Or.inl ⟨rfl, ?_⟩
      rw [e3, Ok_ok]
      refine Or.inr ⟨rfl, ?_⟩
      refine Ok.imp rows ?_
      rintro _ S5 ⟨c6, rfl, D5, k5, RZ5⟩
      exact last S5 c6 D5 k5 RZ5 _ _ _ _
end
end Dn
set_option Elab.async false
set_option linter.all false
set_option maxRecDepth 100000
set_option maxHeartbeats 2000000
/-! Lr_k84: odd raised, near values. -/
noncomputable section
namespace Dn
open PySem L2
theorem mpw30 : (0 : Int) ≤ 30 ∧ (30 : Int) ≤ 1000000 ∧ (10 : Int).natAbs < 2 ^ 64 := ⟨by omega, by omega, by decide⟩
theorem big30 : ((10 : Int) ^ ((30 : Int).toNat)).natAbs < 2 ^ 127 := by decide +kernel
section
variable {S S' : Sto} {kd kg : Nat}
theorem rdi {K : List Nat} {k w : Nat} {i : Int} (h : i.natAbs < 2 ^ 11) (hw : 11 ≤ w) : Rd K k w S (.int i) := rd_int (b := 10) h (by decide) (by omega)
theorem rd_l1 {K : List Nat} {a : D} {w : Nat} (ha : Rd K 1 130 S a) (hw : 131 ≤ w) : Rd K 2 w S (.tup [a]) := rd_tup (k := 1) (w := 130) (fun x hx => by rw [List.mem_singleton.mp hx]; exact ha) (by decide) (by show 1 * (130 + 1) ≤ w; omega)
theorem rd_l2 {K : List Nat} {a b : D} {w : Nat} (ha : Rd K 1 130 S a) (hb : Rd K 1 130 S b) (hw : 262 ≤ w) : Rd K 2 w S (.tup [a, b]) := rd_tup (k := 1) (w := 130) (fun x hx => by
  simp only [List.mem_cons, List.not_mem_nil, or_false] at hx
  rcases hx with rfl | rfl
  · exact ha
  · exact hb) (by decide) (by show 2 * (130 + 1) ≤ w; omega)
theorem rd_cap {K : List Nat} {p : Cap} (h : (∀ i, p.1 = some i → i.natAbs < 2 ^ 127) ∧ (∀ i, p.2 = some i → i.natAbs < 2 ^ 127)) : Rd K 2 400 S (capD p) := rd_l2 (oD_rd h.1) (oD_rd h.2) (by decide)
theorem r_odd_raised {R : Nat} {ra : List Cap} (Dk : Deck kd kg S) (h1 : 1 ≤ R) (h5 : R ≤ 5) (hra : ra.length = R) (hs : Small ra) :
    ∀ dR : D, dR = raisedD ra → Ok (d_law_odd_raised [.cell kd, dR] S) fun r S' => Dw kd kg S S' ∧ Rd [kd, kg] 3 2600 S' r := by
  intro dR eR
  have caps : ∀ (K : List Nat) (S : Sto), ∀ x ∈ ra.map capD, Rd K 2 400 S x := fun K S x hx => by
    obtain ⟨p, hp, rfl⟩ := List.mem_map.mp hx
    exact rd_cap (hs p hp)
  have hl : bLen [dR] S = .ok (.int (R : Nat)) S := by
    rw [eR, ← hra]
    show Res.ok (D.int ((ra.map capD).length : Nat)) S = _
    rw [List.length_map]
  simp only [d_law_odd_raised, b_law_odd_raised, startD, o_fn]
  refine ⟨rfl, ?_⟩
  rw [o_seq, o_par]
  simp [hl]
  have hR6 : R ≤ 1000000 := by omega
  refine Ok.imp (r_draw Dk hR6) ?_
  rintro _ S1 ⟨at_, rfl, hat, _, D1, k1⟩
  have hat2 := hat h1
  have dr : Ok (d_law_draw [.cell kd, .int 6] S1) fun r S' => ∃ i : Nat, r = .int (i : Nat) ∧ (1 ≤ 6 → i < 6) ∧ (i < 6 ∨ i = 0) ∧ Dw kd kg S1 S' := r_draw D1 (n := 6) (by omega)
  refine Ok.imp dr ?_
  rintro _ S2 ⟨way, rfl, hway, _, D2, k2⟩
  have hway6 := hway (by omega)
  simp [lim_eq]
  rw [p_pow mpw30, Ok_ok]
  have hb := big30
  generalize (10 : Int) ^ ((30 : Int).toNat) = big at hb ⊢
  simp [lim_eq]
  have fl : S2.length ∉ [kd, kg] := D2.fresh (Nat.le_refl _)
  have f1 : S2.length + 1 ∉ [kd, kg] := D2.fresh (by omega)
  have hlist : (S2 ++ [C.lst [D.int 0, D.int 0], C.lst [D.tup [D.non], D.tup [D.int 0, D.int 0, D.int 0], D.non, D.cell (List.length S2), D.tup [D.bl true, D.int 0], D.tup [D.int 0, D.str (Str.ofString "1")], D.tup [D.int 0, D.tup []], D.tup [D.int 5, D.int (-5)], D.tup [D.non, D.int big]]])[S2.length + 1]? =
      some (.lst [D.tup [D.non], D.tup [D.int 0, D.int 0, D.int 0], D.non, D.cell (List.length S2), D.tup [D.bl true, D.int 0], D.tup [D.int 0, D.str (Str.ofString "1")], D.tup [D.int 0, D.tup []], D.tup [D.int 5, D.int (-5)], D.tup [D.non, D.int big]]) := by
    rw [List.getElem?_append_right (by omega)]
    simp
  have hcell : (S2 ++ [C.lst [D.int 0, D.int 0], C.lst [D.tup [D.non], D.tup [D.int 0, D.int 0, D.int 0], D.non, D.cell (List.length S2), D.tup [D.bl true, D.int 0], D.tup [D.int 0, D.str (Str.ofString "1")], D.tup [D.int 0, D.tup []], D.tup [D.int 5, D.int (-5)], D.tup [D.non, D.int big]]])[S2.length]? = some (.lst [D.int 0, D.int 0]) := by
    rw [List.getElem?_append_right (by omega)]
    simp
  have k12 : Kp [kd, kg] S S2 := k1.trans k2
  refine Ok.imp (r_pick (D2.push _) hlist f1 (by simp) (by simp)) ?_
  rintro d S3 ⟨hd, D3, k3⟩
  have k03 : Kp [kd, kg] S S3 := (k12.push _).trans k3
  have i0 : ∀ {S : Sto}, Rd [kd, kg] 1 130 S (.int 0) := rdi (by decide) (by decide)
  have hdr : Rd [kd, kg] 2 400 S3 d := by
    simp only [List.mem_cons, List.not_mem_nil, or_false] at hd
    rcases hd with rfl | rfl | rfl | rfl | rfl | rfl | rfl | rfl | rfl
    · exact rd_l1 rd_non (by decide)
    · refine rd_tup (k := 1) (w := 130) (fun x hx => ?_) (by decide) (by show 3 * (130 + 1) ≤ 400; decide)
      simp only [List.mem_cons, List.not_mem_nil, or_false] at hx
      rcases hx with rfl | rfl | rfl <;> exact i0
    · exact rd_non
    · refine rd_cell (k := 1) (w := 130) (k3.get _ _ fl hcell) fl (fun x hx => ?_) (by decide) (by show 2 * (130 + 1) ≤ 400; decide)
      simp only [List.mem_cons, List.not_mem_nil, or_false] at hx
      rcases hx with rfl | rfl <;> exact i0
    · exact rd_l2 rd_bl i0 (by decide)
    · exact rd_l2 i0 ((rd_str (w := 9) (by decide +kernel) (by decide +kernel)).le (Nat.le_refl _) (by decide)) (by decide)
    · exact rd_l2 i0 (rd_tup (k := 0) (w := 0) (fun x hx => by simp at hx) (by decide) (by simp)) (by decide)
    · exact rd_l2 (rdi (by decide) (by decide)) (rdi (by decide) (by decide)) (by decide)
    · exact rd_l2 rd_non (rd_int (b := 126) hb (by decide) (by decide)) (by decide)
  have tupR : ∀ (S' : Sto) (xs : List D), (∀ x ∈ xs, x ∈ ra.map capD ∨ Rd [kd, kg] 2 400 S' x) → xs.length ≤ 6 → Rd [kd, kg] 3 2600 S' (.tup xs) := fun S' xs h hl => rd_tup (k := 2) (w := 400) (fun x hx => by
    rcases h x hx with h | h
    · exact caps _ _ x h
    · exact h) (by decide) (by omega)
  have rl : (ra.map capD).length = R := by rw [List.length_map, hra]
  by_cases h3 : (way : Int) < 3
  · refine Or.inr ⟨h3, ?_⟩
    rw [eR]
    have ef : ∀ xs : List D, cutD xs (some ((at_ : Int) + 1)) none = xs.drop (at_ + 1) := fun xs => cut_from (xs := xs) (k := at_ + 1)
    simp [raisedD, cut_to, ef, lim_eq]
    refine ⟨by omega, by omega, ⟨D3, k03⟩, tupR _ _ (fun x hx => ?_) ?_⟩
    · rcases List.mem_append.mp hx with hx | hx
      · left
        exact (List.take_sublist _ _).subset hx
      · rcases List.mem_cons.mp hx with rfl | hx
        · right
          exact hdr
        · left
          exact (List.drop_sublist _ _).subset hx
    · simp
      omega
  · refine Or.inl ⟨by omega, ?_⟩
    rw [eR]
    simp [raisedD, cut_last, lim_eq]
    refine ⟨by omega, ?_⟩
    obtain ⟨j, hj⟩ : ∃ j, way = 3 + j := ⟨way - 3, by omega⟩
    have ej : ((way : Int) - 3) = ((j : Nat) : Int) := by omega
    rw [ej]
    have hj3 : j = 0 ∨ j = 1 ∨ j = 2 := by omega
    have hL : (S3 ++ [C.lst (List.map capD ra), C.lst [D.tup (List.map capD ra).dropLast, D.tup (List.map capD ra ++ [D.tup [D.non, D.non]]), D.cell S3.length]])[S3.length + 1]? = some (.lst [D.tup (List.map capD ra).dropLast, D.tup (List.map capD ra ++ [D.tup [D.non, D.non]]), D.cell S3.length]) := by
      rw [List.getElem?_append_right (by omega)]
      simp
    have hC : (S3 ++ [C.lst (List.map capD ra), C.lst [D.tup (List.map capD ra).dropLast, D.tup (List.map capD ra ++ [D.tup [D.non, D.non]]), D.cell S3.length]])[S3.length]? = some (.lst (ra.map capD)) := by
      rw [List.getElem?_append_right (by omega)]
      simp
    have D5 := D3.push [C.lst (List.map capD ra), C.lst [D.tup (List.map capD ra).dropLast, D.tup (List.map capD ra ++ [D.tup [D.non, D.non]]), D.cell S3.length]]
    have k5 := k03.push [C.lst (List.map capD ra), C.lst [D.tup (List.map capD ra).dropLast, D.tup (List.map capD ra ++ [D.tup [D.non, D.non]]), D.cell S3.length]]
    generalize S3 ++ [C.lst (List.map capD ra), C.lst [D.tup (List.map capD ra).dropLast, D.tup (List.map capD ra ++ [D.tup [D.non, D.non]]), D.cell S3.length]] = S5 at *
    rcases hj3 with rfl | rfl | rfl
    · rw [p_ixL hL rfl, Ok_ok]
      refine ⟨⟨D5, k5⟩, tupR _ _ (fun x hx => Or.inl ((List.dropLast_sublist _).subset hx)) ?_⟩
      rw [List.length_dropLast, rl]
      omega
    · rw [p_ixL hL rfl, Ok_ok]
      refine ⟨⟨D5, k5⟩, tupR _ _ (fun x hx => ?_) ?_⟩
      · rcases List.mem_append.mp hx with hx | hx
        · exact Or.inl hx
        · rw [List.mem_singleton.mp hx]
          exact Or.inr (rd_l2 rd_non rd_non (by decide))
      · rw [List.length_append, rl]
        show R + 1 ≤ 6
        omega
    · rw [p_ixL hL rfl, Ok_ok]
      refine ⟨⟨D5, k5⟩, rd_cell (k := 2) (w := 400) hC (D3.fresh (Nat.le_refl _)) (fun x hx => caps _ _ x hx) (by decide) ?_⟩
      rw [rl]
      omega
/-! ### near values -/
def N4 (d : D) : Prop := ∃ a b c e : Nat, d = .tup [.int (a : Nat), .int (b : Nat), .int (c : Nat), .int (e : Nat)] ∧ a < 1000 ∧ b < 1000 ∧ c < 1000 ∧ e < 1000
theorem r_near (Dk : Deck kd kg S) : ∀ dB : D, N4 dB → Ok (d_law_near [.cell kd, dB] S) fun r S' => Dw kd kg S S' ∧ Rd [kd, kg] 3 2600 S' r := by
  intro dB ⟨a, b, c, e, eB, ha, hb, hc, he⟩
  simp only [d_law_near, b_law_near, startD, o_fn]
  refine ⟨rfl, ?_⟩
  rw [o_seq, o_par]
  simp
  have dr : Ok (d_law_draw [.cell kd, .int 4] S) fun r S' => ∃ i : Nat, r = .int (i : Nat) ∧ (1 ≤ 4 → i < 4) ∧ (i < 4 ∨ i = 0) ∧ Dw kd kg S S' := r_draw Dk (n := 4) (by omega)
  refine Ok.imp dr ?_
  rintro _ S1 ⟨at_, rfl, hat, _, D1, k1⟩
  have hat4 := hat (by omega)
  rw [eB]
  simp
  have dr6 : Ok (d_law_draw [.cell kd, .int 6] (S1 ++ [C.lst [D.int (a : Nat), D.int (b : Nat), D.int (c : Nat), D.int (e : Nat)]])) fun r S' => ∃ i : Nat, r = .int (i : Nat) ∧ (1 ≤ 6 → i < 6) ∧ (i < 6 ∨ i = 0) ∧ Dw kd kg (S1 ++ [C.lst [D.int (a : Nat), D.int (b : Nat), D.int (c : Nat), D.int (e : Nat)]]) S' := r_draw (D1.push _) (n := 6) (by omega)
  refine Ok.imp dr6 ?_
  rintro _ S2 ⟨x6, rfl, h6, _, D2, k2⟩
  have dr3 : Ok (d_law_draw [.cell kd, .int 3] S2) fun r S' => ∃ i : Nat, r = .int (i : Nat) ∧ (1 ≤ 3 → i < 3) ∧ (i < 3 ∨ i = 0) ∧ Dw kd kg S2 S' := r_draw D2 (n := 3) (by omega)
  refine Ok.imp dr3 ?_
  rintro _ S3 ⟨x3, rfl, h3, _, D3, k3⟩
  have fr : S1.length ∉ [kd, kg] := D1.fresh (Nat.le_refl _)
  have hrow : S3[S1.length]? = some (.lst [D.int (a : Nat), D.int (b : Nat), D.int (c : Nat), D.int (e : Nat)]) := k3.get _ _ fr (k2.get _ _ fr (get_push S1 _))
  obtain ⟨q, hq, hqn⟩ : ∃ q : Nat, [D.int (a : Nat), D.int (b : Nat), D.int (c : Nat), D.int (e : Nat)][at_]? = some (.int (q : Nat)) ∧ q < 1000 := by
    have : at_ = 0 ∨ at_ = 1 ∨ at_ = 2 ∨ at_ = 3 := by omega
    rcases this with rfl | rfl | rfl | rfl
    · exact ⟨a, rfl, ha⟩
    · exact ⟨b, rfl, hb⟩
    · exact ⟨c, rfl, hc⟩
    · exact ⟨e, rfl, he⟩
  rw [p_ixL hrow hq, Ok_ok, p_add, Ok_ok]
  simp [lim_eq]
  have smallA : ∀ (K : List Nat) (S : Sto) {i : Int}, i.natAbs < 2 ^ 11 → Rd K 0 20 S (.int i) := fun K S i h => rdi h (by decide)
  refine Ok.imp (r_pick (D3.push _) (get_push _ _) (D3.fresh (Nat.le_refl _)) (by simp) (by simp)) ?_
  rintro y S4 ⟨hy, D4, k4⟩
  have hyr : ∀ (K : List Nat) (S : Sto), Rd K 0 20 S y := fun K S => by
    simp only [List.mem_cons, List.not_mem_nil, or_false] at hy
    rcases hy with rfl | rfl | rfl | rfl | rfl | rfl | rfl
    · exact smallA _ _ (by omega)
    · exact smallA _ _ (by omega)
    · exact smallA _ _ (by omega)
    · exact rd_non
    · exact rd_bl
    · exact smallA _ _ (by decide)
    · exact smallA _ _ (by decide)
  have hrow4 := k4.get _ _ fr ((Kp.app [] S3 [C.lst [D.int (x6 : Nat), D.int (x3 : Nat), D.int ((q : Int) + 1), D.non, D.bl true, D.int (-1), D.int 99]]).get _ _ (by simp) hrow)
  have hat5 : at_ < [D.int (a : Nat), D.int (b : Nat), D.int (c : Nat), D.int (e : Nat)].length := by simpa using hat4
  refine ⟨_, putL hrow4 hat5, ?_⟩
  have k04 : Kp [kd, kg] S S4 := ((((k1.push _).trans k2).trans k3).push _).trans k4
  have D5 : Deck kd kg (S4.set S1.length (.lst ([D.int (a : Nat), D.int (b : Nat), D.int (c : Nat), D.int (e : Nat)].set at_ y))) := D4.set fr _
  have k05 : Kp [kd, kg] S (S4.set S1.length (.lst ([D.int (a : Nat), D.int (b : Nat), D.int (c : Nat), D.int (e : Nat)].set at_ y))) := k04.set (.inl k1.le) _
  have hrow5 : (S4.set S1.length (.lst ([D.int (a : Nat), D.int (b : Nat), D.int (c : Nat), D.int (e : Nat)].set at_ y)))[S1.length]? = some (.lst ([D.int (a : Nat), D.int (b : Nat), D.int (c : Nat), D.int (e : Nat)].set at_ y)) := get_set hrow4
  have base : ∀ (K : List Nat) (S : Sto), ∀ x ∈ [D.int (a : Nat), D.int (b : Nat), D.int (c : Nat), D.int (e : Nat)], Rd K 0 20 S x := fun K S x hx => by
    simp only [List.mem_cons, List.not_mem_nil, or_false] at hx
    rcases hx with rfl | rfl | rfl | rfl <;> exact smallA _ _ (by omega)
  obtain ⟨ys, hys, hyl, hyall⟩ : ∃ ys, [D.int (a : Nat), D.int (b : Nat), D.int (c : Nat), D.int (e : Nat)].set at_ y = ys ∧ ys.length = 4 ∧ ∀ (K : List Nat) (S : Sto), ∀ x ∈ ys, Rd K 0 20 S x := by
    refine ⟨_, rfl, by simp, fun K S x hx => ?_⟩
    rcases List.mem_or_eq_of_mem_set hx with hx | rfl
    · exact base K S x hx
    · exact hyr K S
  rw [hys] at hrow5 D5 k05 ⊢
  generalize S4.set S1.length (.lst ys) = S5 at *
  rw [b_tupL hrow5, Ok_ok, b_tupL hrow5, Ok_ok, b_tupL hrow5, Ok_ok]
  have hL : (S5 ++ [C.lst [D.int (a : Nat), D.int (b : Nat), D.int (c : Nat), D.int (e : Nat)], C.lst [D.tup ys, D.tup ys, D.tup ys, D.cell S5.length, D.tup [D.int (a : Nat), D.int (b : Nat), D.int (c : Nat), D.int (e : Nat), D.int 0], D.tup (cutD [D.int (a : Nat), D.int (b : Nat), D.int (c : Nat), D.int (e : Nat)] none (some 3))]])[S5.length + 1]? =
      some (.lst [D.tup ys, D.tup ys, D.tup ys, D.cell S5.length, D.tup [D.int (a : Nat), D.int (b : Nat), D.int (c : Nat), D.int (e : Nat), D.int 0], D.tup (cutD [D.int (a : Nat), D.int (b : Nat), D.int (c : Nat), D.int (e : Nat)] none (some 3))]) := by
    rw [List.getElem?_append_right (by omega)]
    simp
  have hC : (S5 ++ [C.lst [D.int (a : Nat), D.int (b : Nat), D.int (c : Nat), D.int (e : Nat)], C.lst [D.tup ys, D.tup ys, D.tup ys, D.cell S5.length, D.tup [D.int (a : Nat), D.int (b : Nat), D.int (c : Nat), D.int (e : Nat), D.int 0], D.tup (cutD [D.int (a : Nat), D.int (b : Nat), D.int (c : Nat), D.int (e : Nat)] none (some 3))]])[S5.length]? =
      some (.lst [D.int (a : Nat), D.int (b : Nat), D.int (c : Nat), D.int (e : Nat)]) := by
    rw [List.getElem?_append_right (by omega)]
    simp
  have fC : S5.length ∉ [kd, kg] := D5.fresh (Nat.le_refl _)
  refine Ok.imp (r_pick (D5.push _) hL (D5.fresh (by omega)) (by simp) (by simp)) ?_
  rintro r S6 ⟨hr, D6, k6⟩
  refine ⟨⟨D6, (k05.push _).trans k6⟩, ?_⟩
  have tupS : ∀ (xs : List D), (∀ x ∈ xs, Rd [kd, kg] 0 20 S6 x) → xs.length ≤ 5 → Rd [kd, kg] 3 2600 S6 (.tup xs) := fun xs h hl => rd_tup (k := 0) (w := 20) h (by decide) (by omega)
  simp only [List.mem_cons, List.not_mem_nil, or_false] at hr
  rcases hr with rfl | rfl | rfl | rfl | rfl | rfl
  · exact tupS _ (hyall _ _) (by omega)
  · exact tupS _ (hyall _ _) (by omega)
  · exact tupS _ (hyall _ _) (by omega)
  · exact rd_cell (k := 0) (w := 20) (k6.get _ _ fC hC) fC (base _ _) (by decide) (by show 4 * (20 + 1) ≤ 2600; decide)
  · refine tupS _ (fun x hx => ?_) (by simp)
    have hx2 : x ∈ [D.int (a : Nat), D.int (b : Nat), D.int (c : Nat), D.int (e : Nat)] ++ [D.int 0] := hx
    rcases List.mem_append.mp hx2 with hx | hx
    · exact base _ _ x hx
    · rw [List.mem_singleton.mp hx]
      exact smallA _ _ (by decide)
  · have e3 : cutD [D.int (a : Nat), D.int (b : Nat), D.int (c : Nat), D.int (e : Nat)] none (some 3) = [D.int (a : Nat), D.int (b : Nat), D.int (c : Nat)] := rfl
    rw [e3]
    refine tupS _ (fun x hx => base _ _ x ?_) (by simp)
    simp only [List.mem_cons, List.not_mem_nil, or_false] at hx ⊢
    rcases hx with rfl | rfl | rfl <;> simp
end
end Dn
set_option Elab.async false
set_option linter.all false
set_option maxRecDepth 100000
set_option maxHeartbeats 2000000
/-! Ls_k84: refusals. -/
noncomputable section
namespace Dn
open PySem L2
def NotCalm (h : D) : Prop := ∀ S : Sto, Ok (d_is_calm [h] S) fun r S' => r = .bl false ∧ Kp [] S S'
section
variable {S S' S1 S2 : Sto} {kd kg : Nat} {h v rk ra hand r : D}
theorem x_calm (n : NotCalm h) : ∃ S', d_calm [h] S = .exc "Unfit" S' ∧ Kp [] S S' := by
  obtain ⟨r, S', e, rfl, k⟩ := (n S).ex
  refine ⟨S', ?_, k⟩
  simp [d_calm, dFn, b_calm, startD, dIfS, dNot, dB, asB, dCall, dCons, dNil, dVar, e, thenS, dRaise, endF]
theorem x_ranks_error (hx : d_calm [h] S = .exc "Unfit" S') : d_ranks_error [h, v] S = .exc "Unfit" S' := by
  simp [d_ranks_error, dFn, b_ranks_error, startD, dSeq, dDrop, dCall, dCons, dNil, dVar, hx, thenS, andThen, endF]
theorem x_ranked (hx : d_ranks_error [h, v] S = .exc "Unfit" S') : d_ranked [h, v] S = .exc "Unfit" S' := by
  simp [d_ranked, dFn, b_ranked, startD, dIfS, dB, asB, dBin, dCall, dCons, dNil, dVar, hx, thenS, endF]
theorem x_ranked2 (hx : d_ranks_error [h, v] S = .ok r S') (hr : isNon r = false) : d_ranked [h, v] S = .exc "Unfit" S' := by
  simp [d_ranked, dFn, b_ranked, startD, dIfS, dB, asB, dBin, dCall, dCons, dNil, dVar, dC, hx, hr, thenS, endF, dRaise]
theorem x_told (hx : d_ranked [h, rk] S = .exc "Unfit" S') : d_told_right [h, rk, ra] S = .exc "Unfit" S' := by
  simp [d_told_right, dFn, b_told_right, startD, dSeq, dDrop, dCall, dCons, dNil, dVar, hx, thenS, andThen, endF]
theorem x_told2 (hx : d_ranked [h, rk] S = .ok r S1) (hf : d_raised_form [h, ra] S1 = .ok (.bl false) S2) : d_told_right [h, rk, ra] S = .exc "Unfit" S2 := by
  simp [d_told_right, dFn, b_told_right, startD, dSeq, dDrop, dIfS, dNot, dB, asB, dCall, dCons, dNil, dVar, hx, hf, thenS, andThen, endF, dRaise]
theorem x_barred (hx : d_told_right [h, rk, ra] S = .exc "Unfit" S') : d_barred_error [h, rk, ra, v] S = .exc "Unfit" S' := by
  simp [d_barred_error, dFn, b_barred_error, startD, dSeq, dDrop, dCall, dCons, dNil, dVar, hx, thenS, andThen, endF]
theorem x_wait (hx : d_told_right [h, rk, ra] S = .exc "Unfit" S') : d_raised_wait [h, rk, ra, hand] S = .exc "Unfit" S' := by
  simp [d_raised_wait, dFn, b_raised_wait, startD, dSeq, dDrop, dCall, dCons, dNil, dVar, hx, thenS, andThen, endF]
theorem x_wait2 (hx : d_told_right [h, rk, ra] S = .ok r S1) (hf : d_handed_right [h, hand] S1 = .exc "Unfit" S2) : d_raised_wait [h, rk, ra, hand] S = .exc "Unfit" S2 := by
  simp [d_raised_wait, dFn, b_raised_wait, startD, dSeq, dDrop, dCall, dCons, dNil, dVar, hx, hf, thenS, andThen, endF]
theorem x_raised_error (hx : d_calm [h] S = .exc "Unfit" S') : d_raised_error [h, v] S = .exc "Unfit" S' := by
  simp [d_raised_error, dFn, b_raised_error, startD, dSeq, dDrop, dCall, dCons, dNil, dVar, hx, thenS, andThen, endF]
theorem x_handed {R : Nat} {ws : List (List Stp)} (hw : whole hand ws.length = false) : d_handed_right [houseD R ws, hand] S = .exc "Unfit" S := by
  have ixh : ∀ (S : Sto), opIx (houseD R ws) (.int 1) S = .ok (.tup (ws.map wayD)) S := fun S => rfl
  have e := r_is_within (S := S) (d := hand) (n := ws.length)
  rw [hw] at e
  simp [d_handed_right, dFn, b_handed_right, startD, dIfS, dNot, dB, asB, dBin, dCall, dCons, dNil, dVar, dC, ixh, e, thenS, endF, dRaise]
theorem x_ref0 (hx : d_barred_error [h, rk, ra, .non] S = .exc "Unfit" S') : d_law_is_refused [h, rk, ra, .int 0, hand] S = .ok (.bl true) S' := by
  simp [d_law_is_refused, dFn, b_law_is_refused, startD, dSeq, dTryR, dIfS, dDrop, dB, asB, dBin, dCall, dCons, dNil, dVar, dC, hx, thenS, andThen, endF]
theorem x_ref1 (hx : d_raised_wait [h, rk, ra, hand] S = .exc "Unfit" S') : d_law_is_refused [h, rk, ra, .int 1, hand] S = .ok (.bl true) S' := by
  simp [d_law_is_refused, dFn, b_law_is_refused, startD, dSeq, dTryR, dIfS, dDrop, dB, asB, dBin, dCall, dCons, dNil, dVar, dC, hx, thenS, andThen, endF]
theorem x_ref2 (hx : d_raised_error [h, ra] S = .exc "Unfit" S') : d_law_is_refused [h, rk, ra, .int 2, hand] S = .ok (.bl true) S' := by
  simp [d_law_is_refused, dFn, b_law_is_refused, startD, dSeq, dTryR, dIfS, dDrop, dB, asB, dBin, dCall, dCons, dNil, dVar, dC, hx, thenS, andThen, endF]
def RefOk (a b c w hd : D) : Prop := ∀ S : Sto, Ok (d_law_is_refused [a, b, c, w, hd] S) fun r S' => r = .bl true ∧ Kp [] S S'
theorem ref_calm (n : NotCalm h) {i : Nat} (hi : i < 3) : RefOk h rk ra (.int (i : Nat)) hand := fun S => by
  obtain ⟨S', e, k⟩ := x_calm (S := S) n
  have : i = 0 ∨ i = 1 ∨ i = 2 := by omega
  rcases this with rfl | rfl | rfl
  · have q : d_law_is_refused [h, rk, ra, .int ((0 : Nat) : Int), hand] S = .ok (.bl true) S' := x_ref0 (x_barred (x_told (x_ranked (x_ranks_error e))))
    rw [q]
    exact ⟨rfl, k⟩
  · have q : d_law_is_refused [h, rk, ra, .int ((1 : Nat) : Int), hand] S = .ok (.bl true) S' := x_ref1 (x_wait (x_told (x_ranked (x_ranks_error e))))
    rw [q]
    exact ⟨rfl, k⟩
  · have q : d_law_is_refused [h, rk, ra, .int ((2 : Nat) : Int), hand] S = .ok (.bl true) S' := x_ref2 (x_raised_error e)
    rw [q]
    exact ⟨rfl, k⟩
/-- ranks that are no tuple, or none -/
theorem r_ranks_form {R : Nat} {ws : List (List Stp)} (H : HOk R ws) (hv : isT v = false ∨ v = .tup []) : Ok (d_ranks_error [houseD R ws, v] S) fun r S' => r = .str "form" ∧ Kp [] S S' := by
  have w1 := H.w1
  have ixh : ∀ (S : Sto), opIx (houseD R ws) (.int 1) S = .ok (.tup (ws.map wayD)) S := fun S => rfl
  simp [d_ranks_error, b_ranks_error, startD]
  refine Ok.imp (r_calm H) ?_
  rintro _ S1 kp1
  rcases hv with hv | rfl
  · simp [ixh, hv, kp1]
  · have : ¬ ((0 : Int) = (ws.length : Int)) := by omega
    simp [ixh, this, kp1]
theorem ref_ranks {R : Nat} {ws : List (List Stp)} (H : HOk R ws) (hv : isT v = false ∨ v = .tup []) {i : Nat} (hi : i < 2) : RefOk (houseD R ws) v ra (.int (i : Nat)) hand := fun S => by
  obtain ⟨r, S', e, rfl, k⟩ := (r_ranks_form (S := S) H hv).ex
  have t := x_told (ra := ra) (x_ranked2 e rfl)
  have : i = 0 ∨ i = 1 := by omega
  rcases this with rfl | rfl
  · have q : d_law_is_refused [houseD R ws, v, ra, .int ((0 : Nat) : Int), hand] S = .ok (.bl true) S' := x_ref0 (x_barred t)
    rw [q]
    exact ⟨rfl, k⟩
  · have q : d_law_is_refused [houseD R ws, v, ra, .int ((1 : Nat) : Int), hand] S = .ok (.bl true) S' := x_ref1 (x_wait t)
    rw [q]
    exact ⟨rfl, k⟩
theorem ref_raised {R : Nat} {ws : List (List Stp)} {rks : List Int} (H : HOk R ws) (hl : rks.length = ws.length) (hd : rks.Nodup) (hv : raisedOk R v = false) (hr : ∀ S, isT v = true → Rd [] 3 90000 S v) {i : Nat} (hi : i < 2) : RefOk (houseD R ws) (ranksD rks) v (.int (i : Nat)) hand := fun S => by
  obtain ⟨r, S1, e1, k1⟩ := (r_ranked (S := S) H hl hd).ex
  have f : Ok (d_raised_form [houseD R ws, v] S1) fun r S' => r = .bl false ∧ Kp [] S1 S' := by
    cases ht : isT v with
    | true =>
      have := r_raised_form (R := R) (ws := ws) (hr S1 ht) (by decide) (by decide)
      rw [hv] at this
      exact this
    | false => simp [d_raised_form, b_raised_form, startD, ht, Kp.refl]
  obtain ⟨r2, S2, e2, rfl, k2⟩ := f.ex
  have t := x_told2 e1 e2
  have : i = 0 ∨ i = 1 := by omega
  rcases this with rfl | rfl
  · have q : d_law_is_refused [houseD R ws, ranksD rks, v, .int ((0 : Nat) : Int), hand] S = .ok (.bl true) S2 := x_ref0 (x_barred t)
    rw [q]
    exact ⟨rfl, k1.trans k2⟩
  · have q : d_law_is_refused [houseD R ws, ranksD rks, v, .int ((1 : Nat) : Int), hand] S = .ok (.bl true) S2 := x_ref1 (x_wait t)
    rw [q]
    exact ⟨rfl, k1.trans k2⟩
theorem ref_hand {R : Nat} {ws : List (List Stp)} {rks : List Int} {ras : List Cap} (H : HOk R ws) (hl : rks.length = ws.length) (hd : rks.Nodup) (hra : ras.length = R) (hs : Small ras) (hw : whole hand ws.length = false) : RefOk (houseD R ws) (ranksD rks) (raisedD ras) (.int 1) hand := fun S => by
  obtain ⟨r, S1, e1, k1⟩ := (r_told_right (S := S) H hl hd hra hs).ex
  have q : d_law_is_refused [houseD R ws, ranksD rks, raisedD ras, .int 1, hand] S = .ok (.bl true) S1 := x_ref1 (x_wait2 e1 (x_handed hw))
  rw [q]
  exact ⟨rfl, k1⟩
end
end Dn
set_option Elab.async false
set_option linter.all false
set_option maxRecDepth 100000
set_option maxHeartbeats 2000000
/-! Lt_k84: a house that is not calm. -/
noncomputable section
namespace Dn
open PySem L2
def badR (x : D) : Bool := match x with
  | .tup [_, .non] => false
  | _ => true
def trW (x : D) : Bool := match x with
  | .tup ss => ss.any hdTry
  | _ => false
theorem p_neP {S : Sto} {x : D} {p : PyData} {b : Bool} (hx : ∀ z, x ≠ .str z) (h1 : toPy 60 S x = some p) (h2 : p.canLay0 = true) (h3 : p.depth ≤ 64) (he : PyData.eqv p (.tuple [.str "store", .none]) = !b) : opNe x (.tup [.str "store", .non]) S = .ok (.bl b) S := by
  have e2 : toPy 60 S (.tup [.str "store", .non]) = some (.tuple [.str "store", .none]) := rfl
  have s2 : SeqAt.shaped (.tuple [.str "store", .none]) = true := by decide +kernel
  have s1 : SeqAt.shaped p = true := by
    unfold SeqAt.shaped
    rw [h2, decide_eq_true h3]
    rfl
  have e0 : opNe x (.tup [.str "store", .non]) S = opEqP true x (.tup [.str "store", .non]) S := by
    cases x with
    | str z => exact absurd rfl (hx z)
    | _ => rfl
  rw [e0]
  unfold opEqP
  simp only [h1, e2, s1, s2, he, Bool.and_self, if_true, Bool.not_not]
section
variable {S S' : Sto} {kd kg : Nat}
theorem rooms_ok (x : D) (h : x = roomD) : (∀ S', opNe x (.tup [.str "store", .non]) S' = .ok (.bl (badR x)) S') ∧ ∀ S', Rd [] 20 5000 S' x := by
  subst h
  exact ⟨fun S' => p_room, fun S' => rd_room.le (by decide) (by decide)⟩
def bookL : List D := [.str "ahead", .str "kept", .str "first", .str "one", .str "given", .str "back", .str "left", .str "passes", .str "behind", .str "first"]
def bookD : D := .tup bookL
theorem rd_word {K : List Nat} {x : Str} (h : PyData.strOk x = true) (hw : x.cps.size ≤ 9) : Rd K 0 20 S (.str x) := (rd_str (w := 9) h hw).le (Nat.le_refl _) (by decide)
theorem rd_book {K : List Nat} : Rd K 1 300 S bookD := by
  refine rd_tup (k := 0) (w := 20) (fun x hx => ?_) (by decide) (by show 10 * (20 + 1) ≤ 300; decide)
  unfold bookL at hx
  simp only [List.mem_cons, List.not_mem_nil, or_false] at hx
  rcases hx with rfl | rfl | rfl | rfl | rfl | rfl | rfl | rfl | rfl | rfl <;> exact rd_word (by decide +kernel) (by decide +kernel)
theorem book_ok : (∀ S', opNe (.tup [.str "store", bookD]) (.tup [.str "store", .non]) S' = .ok (.bl true) S') ∧ ∀ S', Rd [] 20 5000 S' (.tup [.str "store", bookD]) := by
  have rd : ∀ S', Rd [] 2 700 S' (.tup [.str "store", bookD]) := fun S' => rd_tup (k := 1) (w := 300) (fun x hx => by
    simp only [List.mem_cons, List.not_mem_nil, or_false] at hx
    rcases hx with rfl | rfl
    · exact (rd_word (by decide +kernel) (by decide +kernel)).le (by decide) (by decide)
    · exact rd_book) (by decide) (by show 2 * (300 + 1) ≤ 700; decide)
  refine ⟨fun S' => ?_, fun S' => (rd S').le (by decide) (by decide)⟩
  obtain ⟨p, h1, h2, h3, h4, h5⟩ := rd S'
  obtain ⟨q, g1, g2, g3, g4, g5⟩ := rd_book (K := []) (S := S')
  have e := h1 S' (Kp.refl _ _) 60 (by decide)
  have eq := g1 S' (Kp.refl _ _) 59 (by decide)
  have e2 : toPy 60 S' (.tup [.str "store", bookD]) = some (.tuple [.str "store", q]) := by
    show (allPy (toPy 59 S') [.str "store", bookD]).map PyData.tuple = _
    have es : toPy 59 S' (.str "store") = some (.str "store") := rfl
    simp only [allPy, es, eq]
    rfl
  rw [e2] at e
  cases e
  obtain ⟨ys, hys⟩ : ∃ ys, q = .tuple ys := by
    have : (allPy (toPy 58 S') bookL).map PyData.tuple = some q := eq
    obtain ⟨ys, _, h⟩ := Option.map_eq_some_iff.mp this
    exact ⟨ys, h.symm⟩
  refine p_neP (fun z => by simp) e2 h2 (by omega) ?_
  rw [hys]
  simp [PyData.eqv, PyData.eqvAll]
theorem door_ok {t o : D} (ht : ∀ S', Rd [] 2 1000 S' t) (ho : ∀ S', Rd [] 2 1000 S' o) : (∀ S', opNe (.tup [.str "door", t, o]) (.tup [.str "store", .non]) S' = .ok (.bl true) S') ∧ ∀ S', Rd [] 20 5000 S' (.tup [.str "door", t, o]) := by
  have rd : ∀ S', Rd [] 3 4000 S' (.tup [.str "door", t, o]) := fun S' => rd_tup (k := 2) (w := 1000) (fun x hx => by
    simp only [List.mem_cons, List.not_mem_nil, or_false] at hx
    rcases hx with rfl | rfl | rfl
    · exact (rd_word (by decide +kernel) (by decide +kernel)).le (by decide) (by decide)
    · exact ht S'
    · exact ho S') (by decide) (by show 3 * (1000 + 1) ≤ 4000; decide)
  refine ⟨fun S' => ?_, fun S' => (rd S').le (by decide) (by decide)⟩
  obtain ⟨p, h1, h2, h3, h4, h5⟩ := rd S'
  obtain ⟨q, g1, _⟩ := ht S'
  obtain ⟨q2, g2, _⟩ := ho S'
  have e := h1 S' (Kp.refl _ _) 60 (by decide)
  have eq := g1 S' (Kp.refl _ _) 59 (by decide)
  have eq2 := g2 S' (Kp.refl _ _) 59 (by decide)
  have e2 : toPy 60 S' (.tup [.str "door", t, o]) = some (.tuple [.str "door", q, q2]) := by
    show (allPy (toPy 59 S') [.str "door", t, o]).map PyData.tuple = _
    have es : toPy 59 S' (.str "door") = some (.str "door") := rfl
    simp only [allPy, es, eq, eq2]
    rfl
  rw [e2] at e
  cases e
  refine p_neP (fun z => by simp) e2 h2 (by omega) ?_
  have hs : ((("door" : Str) == "store") = false) := by decide +kernel
  simp [PyData.eqv, PyData.eqvAll, hs]
def rowO (n i : Nat) : List D := ((List.range n).map fun j => D.int (j : Nat)).filterMap fun d => match d with
  | .int z => if z = (i : Int) then none else some d
  | _ => none
def rowT (n i : Nat) : List D := ((List.range n).map fun j => D.int (j : Nat)).filterMap fun d => match d with
  | .int z => some (if z = (i : Int) then .str "-" else .str "bow")
  | _ => none
theorem rowO_rd {n i : Nat} (h : n ≤ 5) : Rd [] 1 150 S (.tup (rowO n i)) := by
  refine rd_tup (k := 0) (w := 20) (fun x hx => ?_) (by decide) ?_
  · obtain ⟨a, h1, h2⟩ := List.mem_filterMap.mp hx
    obtain ⟨j, h3, rfl⟩ := List.mem_map.mp h1
    simp only at h2
    split at h2
    · cases h2
    · cases h2
      have := List.mem_range.mp h3
      exact rdi (by omega) (by decide)
  · have := List.length_filterMap_le (fun d => match d with
      | D.int z => if z = (i : Int) then none else some d
      | _ => none) ((List.range n).map fun j => D.int (j : Nat))
    rw [List.length_map, List.length_range] at this
    unfold rowO
    omega
theorem rowT_rd {n i : Nat} (h : n ≤ 5) : Rd [] 1 150 S (.tup (rowT n i)) := by
  refine rd_tup (k := 0) (w := 20) (fun x hx => ?_) (by decide) ?_
  · obtain ⟨a, h1, h2⟩ := List.mem_filterMap.mp hx
    obtain ⟨j, h3, rfl⟩ := List.mem_map.mp h1
    simp only at h2
    cases h2
    split
    · exact rd_word (by decide +kernel) (by decide +kernel)
    · exact rd_word (by decide +kernel) (by decide +kernel)
  · have := List.length_filterMap_le (fun d => match d with
      | D.int z => some (if z = (i : Int) then D.str "-" else D.str "bow")
      | _ => none) ((List.range n).map fun j => D.int (j : Nat))
    rw [List.length_map, List.length_range] at this
    unfold rowT
    omega
theorem rows_rd {n : Nat} {f : Nat → List D} (h : n ≤ 5) (hf : ∀ i S, Rd [] 1 150 S (.tup (f i))) : ∀ S, Rd [] 2 1000 S (.tup (((List.range n).map fun j => D.int (j : Nat)).filterMap fun d => match d with
    | .int z => some (.tup (f z.toNat))
    | _ => none)) := fun S => by
  refine rd_tup (k := 1) (w := 150) (fun x hx => ?_) (by decide) ?_
  · obtain ⟨a, h1, h2⟩ := List.mem_filterMap.mp hx
    obtain ⟨j, h3, rfl⟩ := List.mem_map.mp h1
    simp only at h2
    cases h2
    exact hf _ _
  · have := List.length_filterMap_le (fun d => match d with
      | D.int z => some (D.tup (f z.toNat))
      | _ => none) ((List.range n).map fun j => D.int (j : Nat))
    rw [List.length_map, List.length_range] at this
    omega
theorem ways_ok {R : Nat} {ws : List (List Stp)} (H : HOk R ws) {x : D} (hx : x ∈ ws.map wayD) : (∀ S', Rd [] 20 5000 S' x) ∧ ∃ ss, x = .tup ss ∧ ss.length ≤ 1000 ∧ (∀ s ∈ ss, ∃ x r, s = D.tup (.str x :: r)) ∧ trW x = ss.any hdTry := by
  obtain ⟨h1, ss, rfl, h2, h3, h4⟩ := way_ok H hx
  exact ⟨h1, ss, rfl, h2, h3, rfl⟩
def tryWay : D := .tup [.tup [.str "try", .int 0, .str "alone"], .tup [.str "out", .int 0]]
theorem try_ok : (∀ S', Rd [] 20 5000 S' tryWay) ∧ ∃ ss, tryWay = .tup ss ∧ ss.length ≤ 1000 ∧ (∀ s ∈ ss, ∃ x r, s = D.tup (.str x :: r)) ∧ trW tryWay = ss.any hdTry := by
  refine ⟨fun S' => ?_, _, rfl, by decide, fun s hs => ?_, rfl⟩
  · refine rd_tup (k := 1) (w := 100) (fun x hx => ?_) (by decide) (by show 2 * (100 + 1) ≤ 5000; decide)
    simp only [List.mem_cons, List.not_mem_nil, or_false] at hx
    rcases hx with rfl | rfl
    · refine rd_tup (k := 0) (w := 20) (fun x hx => ?_) (by decide) (by show 3 * (20 + 1) ≤ 100; decide)
      simp only [List.mem_cons, List.not_mem_nil, or_false] at hx
      rcases hx with rfl | rfl | rfl
      · exact rd_word (by decide +kernel) (by decide +kernel)
      · exact rdi (by decide) (by decide)
      · exact rd_word (by decide +kernel) (by decide +kernel)
    · refine rd_tup (k := 0) (w := 20) (fun x hx => ?_) (by decide) (by show 2 * (20 + 1) ≤ 100; decide)
      simp only [List.mem_cons, List.not_mem_nil, or_false] at hx
      rcases hx with rfl | rfl
      · exact rd_word (by decide +kernel) (by decide +kernel)
      · exact rdi (by decide) (by decide)
  · simp only [List.mem_cons, List.not_mem_nil, or_false] at hs
    rcases hs with rfl | rfl <;> exact ⟨_, _, rfl⟩
theorem not_calm {rooms ways : List D} (h1 : ∀ x ∈ rooms, (∀ S', opNe x (.tup [.str "store", .non]) S' = .ok (.bl (badR x)) S') ∧ ∀ S', Rd [] 20 5000 S' x)
    (h2 : ∀ w ∈ ways, (∀ S', Rd [] 20 5000 S' w) ∧ ∃ ss, w = .tup ss ∧ ss.length ≤ 1000 ∧ (∀ s ∈ ss, ∃ x r, s = D.tup (.str x :: r)) ∧ trW w = ss.any hdTry) (hl1 : rooms.length ≤ 1000) (hl2 : ways.length ≤ 1000)
    (hb : (∃ x ∈ rooms, badR x = true) ∨ ∃ w ∈ ways, trW w = true) : NotCalm (.tup [.tup rooms, .tup ways]) := fun S => by
  have := r_is_calm (S := S) badR trW h1 h2 hl1 hl2
  have e : (!rooms.any badR && !ways.any trW) = false := by
    rcases hb with hb | hb
    · have : rooms.any badR = true := List.any_eq_true.mpr hb
      rw [this]
      rfl
    · have : ways.any trW = true := List.any_eq_true.mpr hb
      rw [this]
      simp
  rw [e] at this
  exact this
theorem r_no_calm {R : Nat} {ws : List (List Stp)} (Dk : Deck kd kg S) (H : HOk R ws) : ∀ dH : D, dH = houseD R ws → Ok (d_law_no_calm [.cell kd, dH] S) fun r S' => NotCalm r ∧ Dw kd kg S S' := by
  intro dH eH
  have r5 := H.r5
  have w5 := H.w5
  have hrl : (List.replicate R roomD).length = R := List.length_replicate ..
  have rok : ∀ x ∈ List.replicate R roomD, (∀ S', opNe x (.tup [.str "store", .non]) S' = .ok (.bl (badR x)) S') ∧ ∀ S', Rd [] 20 5000 S' x := fun x hx => rooms_ok x (List.mem_replicate.mp hx).2
  have wok : ∀ x ∈ ws.map wayD, _ := fun x hx => ways_ok H hx
  simp only [d_law_no_calm, b_law_no_calm, startD, o_fn]
  refine ⟨rfl, ?_⟩
  rw [o_seq, o_asg, eH]
  simp [houseD]
  have dr : Ok (d_law_draw [.cell kd, .int 3] S) fun r S' => ∃ i : Nat, r = .int (i : Nat) ∧ (1 ≤ 3 → i < 3) ∧ (i < 3 ∨ i = 0) ∧ Dw kd kg S S' := r_draw Dk (n := 3) (by omega)
  refine Ok.imp dr ?_
  rintro _ S1 ⟨sort, rfl, hs, _, D1, k1⟩
  have hs3 := hs (by omega)
  have hsort : sort = 0 ∨ sort = 1 ∨ sort = 2 := by omega
  rcases hsort with rfl | rfl | rfl
  · simp [lim_eq, cut_last]
    refine ⟨by omega, ⟨?_, D1, k1⟩⟩
    refine not_calm (fun x hx => ?_) (fun x hx => wok x hx) (by simp; omega) (by simp; omega) (.inl ⟨.tup [.str "store", bookD], ?_, rfl⟩)
    · rcases List.mem_append.mp hx with hx | hx
      · exact rok x ((List.mem_replicate.mpr ⟨by have := List.mem_replicate.mp hx; omega, (List.mem_replicate.mp hx).2⟩))
      · rw [List.mem_singleton.mp hx]
        exact book_ok
    · exact List.mem_append_right _ (List.mem_singleton.mpr rfl)
  · simp [lim_eq, cut_last]
    refine ⟨by omega, ?_, D1, k1⟩
    refine not_calm rok (fun x hx => ?_) (by simp; omega) (by simp; omega) (.inr ⟨tryWay, ?_, by decide +kernel⟩)
    · rcases List.mem_append.mp hx with hx | hx
      · exact wok x ((List.dropLast_sublist _).subset hx)
      · rw [List.mem_singleton.mp hx]
        exact try_ok
    · exact List.mem_append_right _ (List.mem_singleton.mpr rfl)
  · simp [lim_eq]
    have hn : ws.length ≤ 100000 := by omega
    refine ok_lcR (n := ws.length) (fun d => match d with | .int z => some (.tup (rowO ws.length z.toNat)) | _ => none) hn ?_ ?_ ?_
    · simp [Kp.refl]
    · intro i hi S2 k2
      refine ⟨_, set_nm, ?_⟩
      simp [wipeD]
      refine ⟨Kp.refl _ _, ?_⟩
      refine ok_lcR (n := ws.length) (fun d => match d with | .int z => if z = (i : Int) then none else some d | _ => none) hn ?_ ?_ ?_
      · simp [Kp.refl]
      · intro j hj S3 k3
        refine ⟨_, set_nm, ?_⟩
        by_cases hji : j = i
        · subst hji
          simp [wipeD, Kp.refl]
        · have h2 : ¬ ((j : Int) = (i : Int)) := fun z => hji (by omega)
          simp [wipeD, hji, h2, Kp.refl]
      · intro S3 c3 k3 hl3 hc3
        rw [b_tupL hc3]
        exact ⟨k3, rfl⟩
    · intro S2 c2 k2 hl2 hc2
      rw [b_tupL hc2, Ok_ok]
      refine ok_lcR (n := ws.length) (fun d => match d with | .int z => some (.tup (rowT ws.length z.toNat)) | _ => none) hn ?_ ?_ ?_
      · simp [Kp.refl]
      · intro i hi S3 k3
        refine ⟨_, set_nm, ?_⟩
        simp [wipeD]
        refine ⟨Kp.refl _ _, ?_⟩
        refine ok_lcR (n := ws.length) (fun d => match d with | .int z => some (if z = (i : Int) then .str "-" else .str "bow") | _ => none) hn ?_ ?_ ?_
        · simp [Kp.refl]
        · intro j hj S4 k4
          refine ⟨_, set_nm, ?_⟩
          by_cases hji : j = i
          · subst hji
            simp [wipeD, Kp.refl]
          · have h2 : ¬ ((j : Int) = (i : Int)) := fun z => hji (by omega)
            simp [wipeD, hji, h2, Kp.refl]
        · intro S4 c4 k4 hl4 hc4
          rw [b_tupL hc4]
          exact ⟨k4, rfl⟩
      · intro S3 c3 k3 hl3 hc3
        rw [b_tupL hc3, Ok_ok]
        have oT := rows_rd (n := ws.length) (f := rowT ws.length) w5 (fun i S => rowT_rd w5)
        have oO := rows_rd (n := ws.length) (f := rowO ws.length) w5 (fun i S => rowO_rd w5)
        generalize (((List.range ws.length).map fun j => D.int (j : Nat)).filterMap fun d => match d with | .int z => some (D.tup (rowT ws.length z.toNat)) | _ => none) = tT at *
        generalize (((List.range ws.length).map fun j => D.int (j : Nat)).filterMap fun d => match d with | .int z => some (D.tup (rowO ws.length z.toNat)) | _ => none) = tO at *
        refine ⟨by omega, ?_, (D1.kp k2).kp k3, k1.trans (k2.trans k3).of⟩
        refine not_calm (fun x hx => ?_) (fun x hx => wok x hx) (by simp; omega) (by simp; omega) (.inl ⟨_, List.mem_append_right _ (List.mem_singleton.mpr rfl), rfl⟩)
        rcases List.mem_append.mp hx with hx | hx
        · exact rok x hx
        · rw [List.mem_singleton.mp hx]
          exact door_ok oT oO
end
end Dn
set_option Elab.async false
set_option linter.all false
set_option maxRecDepth 100000
set_option maxHeartbeats 2000000
/-! Lu_k84: one turn of the law, its statements by name. -/
noncomputable section
namespace Dn
open PySem L2
def e_0 : DE := (dCall d_law_pick (dCons (dVar 1) (dCons (dLst (dCons (dC (.int 1)) (dCons (dC (.int 2)) (dCons (dC (.int 2)) (dCons (dC (.int 3)) (dCons (dC (.int 4)) (dCons (dC (.int 5)) dNil))))))) dNil)))
def q_0 : DS := dSet 3 e_0
def e_1 : DE := (dCall d_law_calm (dCons (dVar 1) (dCons (dVar 3) (dCons (dBin opAdd (dC (.int 1)) (dCall d_law_draw (dCons (dVar 1) (dCons (dC (.int 5)) dNil)))) (dCons (dIf (dB (dBin opLt (dVar 3) (dC (.int 4)))) (dCall d_law_pick (dCons (dVar 1) (dCons (dLst (dCons (dC (.int 2)) (dCons (dC (.int 6)) (dCons (dC (.int 8)) (dCons (dC (.int 24)) dNil))))) dNil))) (dC (.int 8))) dNil)))))
def q_1 : DS := dSet 4 e_1
def a_2 : DA := (dCons (dCall d_law_plan (dCons (dVar 4) dNil)) (dCons (dCall d_law_ranked (dCons (dVar 1) (dCons (dVar 3) dNil))) (dCons (dCall bRepr (dCons (dVar 4) dNil)) dNil)))
def q_2 : DS := dPar [5, 6, 7] a_2
def e_3 : DE := (dCall d_law_drawn_raised (dCons (dVar 1) (dCons (dVar 4) (dCons (dVar 5) (dCons (dVar 6) dNil)))))
def q_3 : DS := dSet 8 e_3
def src_4 : DSrc := (srcT (dTup (dCons (dVar 8) (dCons (dCall d_law_odd_raised (dCons (dVar 1) (dCons (dVar 8) dNil))) (dCons (dCall d_law_odd_raised (dCons (dVar 1) (dCons (dVar 8) dNil))) (dCons (dCall (d_law_any 5) (dCons (dVar 1) (dCons (dC (.int 3)) dNil))) dNil))))))
def body_4 : DS := (dSeq (dSet 10 (dIf (dB (dCall d_law_is_raised (dCons (dVar 4) (dCons (dVar 9) dNil)))) (dC .non) (dC (.str "form")))) (dIfS (dB (dBin opNe (dCall bRepr (dCons (dLst (dCons (dCall d_raised_error (dCons (dVar 4) (dCons (dVar 9) dNil))) (dCons (dCallK d_raised_error [1, 0] (dCons (dVar 9) (dCons (dVar 4) dNil))) dNil))) dNil)) (dCall bRepr (dCons (dLst (dCons (dVar 10) (dCons (dVar 10) dNil))) dNil)))) (dRet (dC (.bl false))) dSkip))
def q_4 : DS := dFor src_4 (.nm 9) body_4
def e_5 : DE := (dCall d_law_breaches (dCons (dVar 4) (dCons (dVar 5) (dCons (dVar 6) (dCons (dVar 8) dNil)))))
def q_5 : DS := dSet 11 e_5
def a_6 : DA := (dCons (dCall d_law_draw (dCons (dVar 1) (dCons (dVar 3) dNil))) (dCons (dCall d_law_draw (dCons (dVar 1) (dCons (dVar 3) dNil))) dNil))
def q_6 : DS := dPar [12, 13] a_6
def e_7 : DE := (dCall d_law_draw (dCons (dVar 1) (dCons (dCall bLen (dCons (dBin opIx (dVar 5) (dVar 12)) dNil)) dNil)))
def q_7 : DS := dSet 14 e_7
def e_8 : DE := (dCall d_law_entry (dCons (dVar 4) (dCons (dVar 5) (dCons (dVar 13) (dCons (dBin opIx (dBin opIx (dBin opIx (dVar 5) (dVar 12)) (dVar 14)) (dC (.int 0))) dNil)))))
def q_8 : DS := dSet 15 e_8
def e_9 : DE := (dLst (dCons (dTup (dCons (dVar 12) (dCons (dVar 14) (dCons (dVar 13) (dCons (dIf (dB (dBin (opIsN false) (dVar 15) (dC .non))) (dC (.int 0)) (dVar 15)) dNil))))) (dCons (dTup (dCons (dVar 12) (dCons (dVar 14) (dCons (dVar 13) (dCons (dCall d_law_draw (dCons (dVar 1) (dCons (dC (.int 8)) dNil))) dNil))))) (dCons (dTup dNil) (dCons (dC .non) dNil)))))
def q_9 : DS := dSet 16 e_9
def e_10 : DE := (dIf (dB (dBin opNe (dVar 11) (dLst dNil))) (dCall d_law_pick (dCons (dVar 1) (dCons (dVar 11) dNil))) (dBin opIx (dVar 16) (dC (.int 0))))
def q_10 : DS := dSet 17 e_10
def e_11 : DE := (dBin opAdd (dVar 16) (dLst (dCons (dVar 17) (dCons (dCall d_law_near (dCons (dVar 1) (dCons (dVar 17) dNil))) (dCons (dCall d_law_near (dCons (dVar 1) (dCons (dVar 17) dNil))) (dCons (dCall d_law_near (dCons (dVar 1) (dCons (dBin opIx (dVar 16) (dC (.int 0))) dNil))) dNil))))))
def q_11 : DS := dSet 16 e_11
def src_12 : DSrc := (enL (dCons (dBin opAdd (dVar 16) (dLst (dCons (dCall (d_law_any 5) (dCons (dVar 1) (dCons (dC (.int 3)) dNil))) dNil))) dNil))
def body_12 : DS := (dSeq (dPar [10, 19] (dCons (dCall d_law_error (dCons (dVar 4) (dCons (dVar 5) (dCons (dVar 6) (dCons (dVar 8) (dCons (dVar 9) dNil)))))) (dCons (dCall bRepr (dCons (dLst (dCons (dVar 8) (dCons (dVar 9) dNil))) dNil)) dNil))) (dSeq (dSet 20 (dLst (dCons (dCall d_barred_error (dCons (dVar 4) (dCons (dVar 6) (dCons (dVar 8) (dCons (dVar 9) dNil))))) dNil))) (dSeq (dIfS (dB (dBin opEq (dBin opMod (dVar 18) (dC (.int 3))) (dC (.int 0)))) (dDrop (dMth mAppend (dVar 20) (dCons (dCallK d_barred_error [3, 2, 1, 0] (dCons (dVar 9) (dCons (dVar 8) (dCons (dVar 6) (dCons (dVar 4) dNil))))) dNil))) dSkip) (dIfS (dOr (dB (dBin opNe (dCall bRepr (dCons (dVar 20) dNil)) (dCall bRepr (dCons (dBin opMul (dLst (dCons (dVar 10) dNil)) (dCall bLen (dCons (dVar 20) dNil))) dNil)))) (dB (dBin opNe (dCall bRepr (dCons (dLst (dCons (dVar 8) (dCons (dVar 9) dNil))) dNil)) (dVar 19)))) (dRet (dC (.bl false))) dSkip))))
def q_12 : DS := dFor src_12 (.tp [(.nm 18), (.nm 9)]) body_12
def e_13 : DE := (dCall d_law_draw (dCons (dVar 1) (dCons (dVar 3) dNil)))
def q_13 : DS := dSet 21 e_13
def e_14 : DE := (dCall d_law_longest (dCons (dVar 5) (dCons (dVar 6) (dCons (dVar 8) (dCons (dVar 21) dNil)))))
def q_14 : DS := dSet 10 e_14
def e_15 : DE := (dLst (dCons (dCall d_raised_wait (dCons (dVar 4) (dCons (dVar 6) (dCons (dVar 8) (dCons (dVar 21) dNil))))) dNil))
def q_15 : DS := dSet 20 e_15
def q_16 : DS := (dDrop (dMth mAppend (dVar 20) (dCons (dCallK d_raised_wait [3, 2, 1, 0] (dCons (dVar 21) (dCons (dVar 8) (dCons (dVar 6) (dCons (dVar 4) dNil))))) dNil)))
def e_17 : DE := (dCall d_law_pick (dCons (dVar 1) (dCons (dLst (dCons (dC .non) (dCons (dTup dNil) (dCons (dCall bList (dCons (dVar 8) dNil)) (dCons (dSl (dVar 8) dNoPart (dPart (dNeg (dC (.int 1))))) dNil))))) dNil)))
def q_17 : DS := dSet 22 e_17
def e_18 : DE := (dLst (dCons (dTup (dCons (dCall d_law_no_calm (dCons (dVar 1) (dCons (dVar 4) dNil))) (dCons (dVar 6) (dCons (dVar 8) (dCons (dCall d_law_draw (dCons (dVar 1) (dCons (dC (.int 3)) dNil))) dNil))))) (dCons (dTup (dCons (dVar 4) (dCons (dCall bList (dCons (dVar 6) dNil)) (dCons (dVar 8) (dCons (dC (.int 0)) dNil))))) dNil)))
def q_18 : DS := dSet 23 e_18
def e_19 : DE := (dCall d_law_pick (dCons (dVar 1) (dCons (dBin opAdd (dVar 23) (dLst (dCons (dTup (dCons (dVar 4) (dCons (dVar 6) (dCons (dVar 22) (dCons (dC (.int 0)) dNil))))) (dCons (dTup (dCons (dVar 4) (dCons (dVar 6) (dCons (dVar 22) (dCons (dC (.int 1)) dNil))))) (dCons (dTup (dCons (dVar 4) (dCons (dTup dNil) (dCons (dVar 8) (dCons (dC (.int 1)) dNil))))) dNil))))) dNil)))
def q_19 : DS := dSet 24 e_19
def q_20 : DS := (dIfS (dOr (dB (dBin opNe (dCall bRepr (dCons (dVar 20) dNil)) (dCall bRepr (dCons (dLst (dCons (dVar 10) (dCons (dVar 10) dNil))) dNil)))) (dNot (dB (dCall d_law_is_refused (dCons (dBin opIx (dVar 24) (dC (.int 0))) (dCons (dBin opIx (dVar 24) (dC (.int 1))) (dCons (dBin opIx (dVar 24) (dC (.int 2))) (dCons (dBin opIx (dVar 24) (dC (.int 3))) (dCons (dC (.int 0)) dNil))))))))) (dRet (dC (.bl false))) dSkip)
def e_21 : DE := (dCall d_law_pick (dCons (dVar 1) (dCons (dLst (dCons (dC .non) (dCons (dC (.bl true)) (dCons (dNeg (dC (.int 1))) (dCons (dVar 3) (dCons (dC (.str "0")) (dCons (dTup (dCons (dC (.int 0)) dNil)) (dCons (dLst (dCons (dC (.int 0)) dNil)) (dCons dDic0 (dCons (dBin opPow (dC (.int 10)) (dC (.int 30))) dNil)))))))))) dNil)))
def q_21 : DS := dSet 22 e_21
def q_22 : DS := (dIfS (dNot (dB (dCall d_law_is_refused (dCons (dVar 4) (dCons (dVar 6) (dCons (dVar 8) (dCons (dC (.int 1)) (dCons (dVar 22) dNil)))))))) (dRet (dC (.bl false))) dSkip)
def q_23 : DS := (dIfS (dB (dBin opNe (dCall bRepr (dCons (dVar 4) dNil)) (dVar 7))) (dRet (dC (.bl false))) dSkip)
def b_turn : DS := (dSeq q_0 (dSeq q_1 (dSeq q_2 (dSeq q_3 (dSeq q_4 (dSeq q_5 (dSeq q_6 (dSeq q_7 (dSeq q_8 (dSeq q_9 (dSeq q_10 (dSeq q_11 (dSeq q_12 (dSeq q_13 (dSeq q_14 (dSeq q_15 (dSeq q_16 (dSeq q_17 (dSeq q_18 (dSeq q_19 (dSeq q_20 (dSeq q_21 (dSeq q_22 q_23)))))))))))))))))))))))
theorem law_split : b_law = dSeq (dSet 1 (dCall d_law_deck (dCons (dVar 0) dNil))) (dSeq (dFor (rng1 (dCons (dC (.int 2)) dNil)) (.nm 2) b_turn) (dRet (dC (.bl true)))) := rfl
section
variable {δ : En} {S S' : Sto} {kd kg : Nat}
theorem s0 (Dk : Deck kd kg S) (h1 : δ[1]? = some (some (.cell kd))) : Ok (e_0 δ S) fun d S' => ∃ hands : Nat, d = .int (hands : Nat) ∧ 1 ≤ hands ∧ hands ≤ 5 ∧ Dw kd kg S S' := by
  simp [e_0, h1, lim_eq]
  refine Ok.imp (r_pick (Dk.push _) (get_push _ _) (Dk.fresh (Nat.le_refl _)) (by simp) (by simp)) ?_
  rintro r S1 ⟨hr, D1, k1⟩
  have k01 : Kp [kd, kg] S S1 := (Kp.app _ _ _).trans k1
  simp only [List.mem_cons, List.not_mem_nil, or_false] at hr
  rcases hr with rfl | rfl | rfl | rfl | rfl | rfl
  · exact ⟨1, rfl, by omega, by omega, D1, k01⟩
  · exact ⟨2, rfl, by omega, by omega, D1, k01⟩
  · exact ⟨2, rfl, by omega, by omega, D1, k01⟩
  · exact ⟨3, rfl, by omega, by omega, D1, k01⟩
  · exact ⟨4, rfl, by omega, by omega, D1, k01⟩
  · exact ⟨5, rfl, by omega, by omega, D1, k01⟩
theorem s1 (Dk : Deck kd kg S) (h1 : δ[1]? = some (some (.cell kd))) {hands : Nat} (h3 : δ[3]? = some (some (.int (hands : Nat)))) (hh1 : 1 ≤ hands) (hh5 : hands ≤ 5) :
    Ok (e_1 δ S) fun d S' => ∃ (R : Nat) (ws : List (List Stp)), d = houseD R ws ∧ HOk R ws ∧ ws.length = hands ∧ Dw kd kg S S' := by
  simp [e_1, h1, h3, lim_eq]
  have dr : Ok (d_law_draw [.cell kd, .int 5] S) fun r S' => ∃ i : Nat, r = .int (i : Nat) ∧ (1 ≤ 5 → i < 5) ∧ (i < 5 ∨ i = 0) ∧ Dw kd kg S S' := r_draw Dk (n := 5) (by omega)
  refine Ok.imp dr ?_
  rintro _ S1 ⟨i, rfl, hi, _, D1, k1⟩
  have hi5 := hi (by omega)
  rw [p_add, Ok_ok]
  have eR : (1 : Int) + (i : Int) = ((1 + i : Nat) : Int) := by omega
  rw [eR]
  have fin : ∀ (S2 : Sto) (m : Nat) (dm : D), dm = .int (m : Nat) → 2 ≤ m → m ≤ 24 → Dw kd kg S S2 → Ok (d_law_calm [.cell kd, .int (hands : Nat), .int ((1 + i : Nat) : Int), dm] S2) fun d S' => ∃ (R : Nat) (ws : List (List Stp)), d = houseD R ws ∧ HOk R ws ∧ ws.length = hands ∧ Dw kd kg S S' := by
    intro S2 m dm em hm2 hm24 ⟨D2, k2⟩
    refine Ok.imp (r_law_calm D2 (R := 1 + i) (by omega) (by omega) hh1 hh5 hm2 hm24 _ _ _ rfl rfl em) ?_
    rintro r S3 ⟨⟨D3, k3⟩, ws, rfl, H, hl⟩
    exact ⟨_, ws, rfl, H, hl, D3, k2.trans k3⟩
  by_cases h4 : (4 : Int) ≤ hands
  · exact Or.inl ⟨h4, fin S1 8 _ rfl (by omega) (by omega) ⟨D1, k1⟩⟩
  · refine Or.inr ⟨by omega, ?_⟩
    refine Ok.imp (r_pick (D1.push _) (get_push _ _) (D1.fresh (Nat.le_refl _)) (by simp) (by simp)) ?_
    rintro r S2 ⟨hr, D2, k2⟩
    have k02 : Kp [kd, kg] S S2 := (k1.push _).trans k2
    simp only [List.mem_cons, List.not_mem_nil, or_false] at hr
    rcases hr with rfl | rfl | rfl | rfl
    · exact fin S2 2 _ rfl (by omega) (by omega) ⟨D2, k02⟩
    · exact fin S2 6 _ rfl (by omega) (by omega) ⟨D2, k02⟩
    · exact fin S2 8 _ rfl (by omega) (by omega) ⟨D2, k02⟩
    · exact fin S2 24 _ rfl (by omega) (by omega) ⟨D2, k02⟩
/-- what holds of a turn's house, plan, ranks -/
structure Tn (kd kg : Nat) (S : Sto) (R : Nat) (ws : List (List Stp)) (p : Nat) (cs : List Nat) (rk : List Int) : Prop where
  dk : Deck kd kg S
  h : HOk R ws
  pl : PlanAt [kd, kg] S p ws cs
  rl : rk.length = ws.length
  nd : rk.Nodup
  sm : ∀ x ∈ rk, x.natAbs < 2 ^ 61
theorem Tn.mono {R p : Nat} {ws : List (List Stp)} {cs : List Nat} {rk : List Int} (t : Tn kd kg S R ws p cs rk) (d : Dw kd kg S S') : Tn kd kg S' R ws p cs rk := ⟨d.1, t.h, t.pl.mono d.2, t.rl, t.nd, t.sm⟩
theorem Tn.kp {R p : Nat} {ws : List (List Stp)} {cs : List Nat} {rk : List Int} (t : Tn kd kg S R ws p cs rk) (k : Kp [] S S') : Tn kd kg S' R ws p cs rk := t.mono ⟨t.dk.kp k, k.of⟩
theorem s2 (Dk : Deck kd kg S) (h1 : δ[1]? = some (some (.cell kd))) {R : Nat} {ws : List (List Stp)} (H : HOk R ws) (h3 : δ[3]? = some (some (.int (ws.length : Nat)))) (h4 : δ[4]? = some (some (houseD R ws))) :
    Ok (a_2 δ S) fun ds S' => ∃ (p : Nat) (cs : List Nat) (rk : List Int) (t : Str), ds = [.cell p, ranksD rk, .str t] ∧ Tn kd kg S' R ws p cs rk ∧ Kp [kd, kg] S S' ∧ ∀ S2, Kp [kd, kg] S' S2 → bRepr [houseD R ws] S2 = .ok (.str t) S2 := by
  have w5 := H.w5
  simp [a_2, h1, h3, h4]
  refine Ok.imp (r_law_plan H) ?_
  rintro _ S1 ⟨k1, p, cs, rfl, hp, hpc, hcl, hrow⟩
  have D1 := Dk.kp k1
  have P1 : PlanAt [kd, kg] S1 p ws cs := ⟨Dk.fresh hp, hpc, hcl, fun j c w a b => ⟨Dk.fresh (hrow j c w a b).1, (hrow j c w a b).2⟩⟩
  refine Ok.imp (r_law_ranked D1 w5 _ rfl) ?_
  rintro _ S2 ⟨⟨D2, k2⟩, rk, rfl, hl, nd, sm⟩
  obtain ⟨q, hq, hok, hrep⟩ := b_repr (K := [kd, kg]) (S := S2) (rd_house H) (by decide) (by decide)
  rw [hrep S2 (Kp.refl _ _)]
  exact ⟨p, cs, rk, q.shown, ⟨rfl, rfl, rfl⟩, ⟨D2, H, P1.mono k2, hl, nd, sm⟩, k1.of.trans k2, fun S3 k3 => hrep S3 k3⟩
theorem s3 {R p : Nat} {ws : List (List Stp)} {cs : List Nat} {rk : List Int} (T : Tn kd kg S R ws p cs rk) (h1 : δ[1]? = some (some (.cell kd))) (h4 : δ[4]? = some (some (houseD R ws))) (h5 : δ[5]? = some (some (.cell p))) (h6 : δ[6]? = some (some (ranksD rk))) :
    Ok (e_3 δ S) fun d S' => ∃ ra : List Cap, d = raisedD ra ∧ ra.length = R ∧ Small ra ∧ Dw kd kg S S' := by
  simp [e_3, h1, h4, h5, h6]
  refine Ok.imp (r_drawn_raised T.dk T.h T.pl T.rl T.sm _ rfl) ?_
  rintro _ S1 ⟨D1, ra, rfl, hl, hs⟩
  exact ⟨ra, rfl, hl, hs, D1⟩
theorem s5 {R p : Nat} {ws : List (List Stp)} {cs : List Nat} {rk : List Int} {ra : List Cap} (T : Tn kd kg S R ws p cs rk) (hra : ra.length = R) (h4 : δ[4]? = some (some (houseD R ws))) (h5 : δ[5]? = some (some (.cell p))) (h6 : δ[6]? = some (some (ranksD rk))) (h8 : δ[8]? = some (some (raisedD ra))) :
    Ok (e_5 δ S) fun d S' => Kp [] S S' ∧ ∃ (c : Nat) (fs : List D), d = .cell c ∧ S.length ≤ c ∧ S'[c]? = some (.lst fs) ∧ fs.length ≤ 1000 ∧ ∀ x ∈ fs, BrOk x := by
  simp [e_5, h4, h5, h6, h8]
  refine Ok.imp (r_breaches T.h T.pl hra T.rl) ?_
  rintro d S1 ⟨k, c, fs, a, b, e, f, g⟩
  exact ⟨k, c, a, b, fs, e, f, g⟩
theorem s6 {n : Nat} (Dk : Deck kd kg S) (h1 : δ[1]? = some (some (.cell kd))) (h3 : δ[3]? = some (some (.int (n : Nat)))) (hn1 : 1 ≤ n) (hn5 : n ≤ 5) :
    Ok (a_6 δ S) fun ds S' => ∃ l h : Nat, ds = [.int (l : Nat), .int (h : Nat)] ∧ l < n ∧ h < n ∧ Dw kd kg S S' := by
  simp [a_6, h1, h3]
  have hn : n ≤ 1000000 := by omega
  refine Ok.imp (r_draw Dk hn) ?_
  rintro _ S1 ⟨l, rfl, hl, _, D1, k1⟩
  refine Ok.imp (r_draw D1 hn) ?_
  rintro _ S2 ⟨h, rfl, hh, _, D2, k2⟩
  exact ⟨l, h, ⟨rfl, rfl⟩, hl hn1, hh hn1, D2, k1.trans k2⟩
theorem s7 {R p l : Nat} {ws : List (List Stp)} {cs : List Nat} {rk : List Int} {w : List Stp} (T : Tn kd kg S R ws p cs rk) (h1 : δ[1]? = some (some (.cell kd))) (h5 : δ[5]? = some (some (.cell p))) (h12 : δ[12]? = some (some (.int (l : Nat)))) (hw : ws[l]? = some w) :
    Ok (e_7 δ S) fun d S' => ∃ k : Nat, d = .int (k : Nat) ∧ k < w.length ∧ Dw kd kg S S' := by
  obtain ⟨c, rs, g1, g2, g3, g4, g5⟩ := T.pl.get hw
  have l1 := T.h.len1 w (List.mem_of_getElem? hw)
  have l2 := T.h.len w (List.mem_of_getElem? hw)
  simp [e_7, h1, h5, h12, T.pl.ix g1, b_lenL g3, g4]
  have hn : w.length ≤ 1000000 := by omega
  refine Ok.imp (r_draw T.dk hn) ?_
  rintro _ S1 ⟨k, rfl, hk, _, D1⟩
  exact ⟨k, rfl, hk l1, D1⟩
theorem s8 {R p l h k : Nat} {ws : List (List Stp)} {cs : List Nat} {rk : List Int} {w wh : List Stp} (T : Tn kd kg S R ws p cs rk) (h4 : δ[4]? = some (some (houseD R ws))) (h5 : δ[5]? = some (some (.cell p))) (h12 : δ[12]? = some (some (.int (l : Nat)))) (h13 : δ[13]? = some (some (.int (h : Nat)))) (h14 : δ[14]? = some (some (.int (k : Nat))))
    (hw : ws[l]? = some w) (hwh : ws[h]? = some wh) (hk : k < w.length) : Ok (e_8 δ S) fun d S' => S' = S ∧ ∃ o : Option Nat, d = natD o ∧ ∀ n, o = some n → n < 24 := by
  obtain ⟨c, rs, g1, g2, g3, g4, g5⟩ := T.pl.get hw
  obtain ⟨s, hs⟩ : ∃ s, w[k]? = some s := ⟨_, List.getElem?_eq_getElem hk⟩
  obtain ⟨z, hz⟩ := g5 k s hs
  have hin : ∀ u ∈ heldT w k, u.1 < R := fun u hu => T.h.inr w (List.mem_of_getElem? hw) u (heldT_mem k u hu)
  have l2 := T.h.len wh (List.mem_of_getElem? hwh)
  simp [e_8, h4, h5, h12, h13, h14, T.pl.ix g1, p_ixL g3 hz, r_law_entry T.pl hwh hin]
  refine ⟨_, rfl, fun n hn => ?_⟩
  have := entry_lt hn
  omega
theorem rd_n4 {K : List Nat} {k : Nat} {x : D} (h : N4 x) (hk : 1 ≤ k) : Rd K k 100 S x := by
  obtain ⟨a, b, c, e, rfl, ha, hb, hc, he⟩ := h
  refine rd_tup (k := 0) (w := 20) (fun x hx => ?_) hk (by show 4 * (20 + 1) ≤ 100; decide)
  simp only [List.mem_cons, List.not_mem_nil, or_false] at hx
  rcases hx with rfl | rfl | rfl | rfl <;> exact rdi (by omega) (by decide)
theorem n4_br {x : D} (h : BrOk x) : N4 x := by
  obtain ⟨a, b, c, d, e, h1, h2, h3, h4⟩ := h
  exact ⟨a, b, c, d, e, by omega, by omega, by omega, by omega⟩
theorem s9 {l h k : Nat} {o : Option Nat} (Dk : Deck kd kg S) (h1 : δ[1]? = some (some (.cell kd))) (h12 : δ[12]? = some (some (.int (l : Nat)))) (h13 : δ[13]? = some (some (.int (h : Nat)))) (h14 : δ[14]? = some (some (.int (k : Nat)))) (h15 : δ[15]? = some (some (natD o)))
    (hl : l < 100) (hh : h < 100) (hk : k < 100) (ho : ∀ n, o = some n → n < 100) :
    Ok (e_9 δ S) fun d S' => ∃ (c : Nat) (t0 t1 : D), d = .cell c ∧ S.length ≤ c ∧ S'[c]? = some (.lst [t0, t1, .tup [], .non]) ∧ N4 t0 ∧ N4 t1 ∧ Dw kd kg S S' := by
  have fin : ∀ t0, N4 t0 → Ok (d_law_draw [.cell kd, .int 8] S) fun x S1 => ∃ (c : Nat) (t0' t1 : D), D.cell S1.length = .cell c ∧ S.length ≤ c ∧ (S1 ++ [C.lst [t0, .tup [.int (l : Nat), .int (k : Nat), .int (h : Nat), x], .tup [], .non]])[c]? = some (.lst [t0', t1, .tup [], .non]) ∧ N4 t0' ∧ N4 t1 ∧ Dw kd kg S (S1 ++ [C.lst [t0, .tup [.int (l : Nat), .int (k : Nat), .int (h : Nat), x], .tup [], .non]]) := by
    intro t0 ht0
    have dr : Ok (d_law_draw [.cell kd, .int 8] S) fun r S' => ∃ i : Nat, r = .int (i : Nat) ∧ (1 ≤ 8 → i < 8) ∧ (i < 8 ∨ i = 0) ∧ Dw kd kg S S' := r_draw Dk (n := 8) (by omega)
    refine Ok.imp dr ?_
    rintro _ S1 ⟨i, rfl, hi, _, D1, k1⟩
    have hi8 := hi (by omega)
    exact ⟨S1.length, t0, _, rfl, k1.le, get_push _ _, ht0, ⟨l, k, h, i, rfl, by omega, by omega, by omega, by omega⟩, D1.push _, k1.push _⟩
  cases o with
  | none =>
    have h15' : δ[15]? = some (some .non) := h15
    simp [e_9, h1, h12, h13, h14, h15', lim_eq]
    refine Ok.imp (fin (.tup [.int (l : Nat), .int (k : Nat), .int (h : Nat), .int 0]) ⟨l, k, h, 0, rfl, by omega, by omega, by omega, by omega⟩) ?_
    rintro x S1 ⟨c, t0, t1, e1, e2, e3, e4, e5, e6⟩
    cases e1
    simp at e3
    obtain ⟨rfl, rfl⟩ := e3
    exact ⟨e2, _, _, ⟨rfl, rfl⟩, e4, e5, e6⟩
  | some n =>
    have h15' : δ[15]? = some (some (.int (n : Nat))) := h15
    have hn := ho n rfl
    simp [e_9, h1, h12, h13, h14, h15', lim_eq]
    refine Ok.imp (fin (.tup [.int (l : Nat), .int (k : Nat), .int (h : Nat), .int (n : Nat)]) ⟨l, k, h, n, rfl, by omega, by omega, by omega, by omega⟩) ?_
    rintro x S1 ⟨c, t0, t1, e1, e2, e3, e4, e5, e6⟩
    cases e1
    simp at e3
    obtain ⟨rfl, rfl⟩ := e3
    exact ⟨e2, _, _, ⟨rfl, rfl⟩, e4, e5, e6⟩
theorem s10 {cb cv : Nat} {fs r : List D} {t0 : D} (Dk : Deck kd kg S) (h1 : δ[1]? = some (some (.cell kd))) (h11 : δ[11]? = some (some (.cell cb))) (h16 : δ[16]? = some (some (.cell cv))) (hcb : S[cb]? = some (.lst fs)) (hb : cb ∉ [kd, kg]) (hl : fs.length ≤ 1000) (hall : ∀ x ∈ fs, BrOk x) (hcv : S[cv]? = some (.lst (t0 :: r))) (ht : N4 t0) :
    Ok (e_10 δ S) fun d S' => N4 d ∧ Dw kd kg S S' := by
  have e := p_neNil (S := S ++ [.lst []]) (k := 1) (w := 100) ((Kp.app [] S [.lst []]).get _ _ (by simp) hcb) (fun x hx => rd_n4 (n4_br (hall x hx)) (by decide)) (by decide) (get_push S _)
  simp [e_10, h1, h11, h16, lim_eq, e]
  by_cases hf : fs = []
  · simp [hf]
    have hcv2 : (S ++ [C.lst []])[cv]? = some (.lst (t0 :: r)) := (Kp.app [] S _).get _ _ (by simp) hcv
    have ix : opIx (.cell cv) (.int 0) (S ++ [C.lst []]) = .ok t0 (S ++ [C.lst []]) := p_ixL (n := 0) hcv2 rfl
    rw [ix]
    exact ⟨ht, Dk.push _, Kp.app _ _ _⟩
  · simp [hf]
    have hcb2 : (S ++ [C.lst []])[cb]? = some (.lst fs) := (Kp.app [] S _).get _ _ (by simp) hcb
    refine Ok.imp (r_pick (Dk.push _) hcb2 hb hf hl) ?_
    rintro d S1 ⟨hd, D1, k1⟩
    exact ⟨n4_br (hall d hd), D1, (Kp.app _ _ _).trans k1⟩
theorem s11 {cv : Nat} {own t0 t1 : D} (Dk : Deck kd kg S) (h1 : δ[1]? = some (some (.cell kd))) (h16 : δ[16]? = some (some (.cell cv))) (h17 : δ[17]? = some (some own)) (hcv : S[cv]? = some (.lst [t0, t1, .tup [], .non])) (hv : cv ∉ [kd, kg]) (ht0 : N4 t0) (ht1 : N4 t1) (hown : N4 own) :
    Ok (e_11 δ S) fun d S' => ∃ (c : Nat) (vs : List D), d = .cell c ∧ S.length ≤ c ∧ S'[c]? = some (.lst vs) ∧ vs.length = 8 ∧ (∀ x ∈ vs, Rd [kd, kg] 3 2600 S' x) ∧ Dw kd kg S S' := by
  simp [e_11, h1, h16, h17, lim_eq]
  refine Ok.imp (r_near Dk _ hown) ?_
  rintro n1 S1 ⟨⟨D1, k1⟩, r1⟩
  refine Ok.imp (r_near D1 _ hown) ?_
  rintro n2 S2 ⟨⟨D2, k2⟩, r2⟩
  have hcv2 := (k1.trans k2).get _ _ hv hcv
  have ix : opIx (.cell cv) (.int 0) S2 = .ok t0 S2 := p_ixL (n := 0) hcv2 rfl
  rw [ix, Ok_ok]
  refine Ok.imp (r_near D2 _ ht0) ?_
  rintro n3 S3 ⟨⟨D3, k3⟩, r3⟩
  have k03 := (k1.trans k2).trans k3
  have hcv3 : (S3 ++ [C.lst [own, n1, n2, n3]])[cv]? = some (.lst [t0, t1, .tup [], .non]) := (Kp.app [kd, kg] S3 _).get _ _ hv (k3.get _ _ hv hcv2)
  rw [p_addL hcv3 (get_push S3 _)]
  simp [lim_eq]
  have le := k03.le
  have kk : Kp [kd, kg] S3 (S3 ++ [C.lst [own, n1, n2, n3], C.lst [t0, t1, .tup [], .non, own, n1, n2, n3]]) := Kp.app _ _ _
  have all : ∀ x ∈ [t0, t1, D.tup [], D.non, own, n1, n2, n3], Rd [kd, kg] 3 2600 (S3 ++ [C.lst [own, n1, n2, n3], C.lst [t0, t1, .tup [], .non, own, n1, n2, n3]]) x := by
    intro x hx
    simp only [List.mem_cons, List.not_mem_nil, or_false] at hx
    rcases hx with rfl | rfl | rfl | rfl | rfl | rfl | rfl | rfl
    · exact (rd_n4 ht0 (by decide)).le (Nat.le_refl _) (by decide)
    · exact (rd_n4 ht1 (by decide)).le (Nat.le_refl _) (by decide)
    · exact rd_tup (k := 0) (w := 0) (fun x hx => by simp at hx) (by decide) (by simp)
    · exact rd_non
    · exact (rd_n4 hown (by decide)).le (Nat.le_refl _) (by decide)
    · exact ((r1.mono k2).mono k3).mono kk
    · exact (r2.mono k3).mono kk
    · exact r3.mono kk
  refine ⟨by omega, ?_, D3.push _, k03.push _⟩
  simpa using all
/-- the text of a list whose items read as data -/
theorem repr_lst {K : List Nat} {k w : Nat} {xs : List D} (h : ∀ x ∈ xs, Rd K k w S x) (hk : k + 1 ≤ 50) (hw : xs.length * (w + 1) ≤ 8000) : ∃ t : Str, ∀ (S2 : Sto) (c : Nat), Kp K S S2 → S2[c]? = some (.lst xs) → bRepr [.cell c] S2 = .ok (.str t) S2 := by
  obtain ⟨ps, g1, g2, g3, g4, g5, g6⟩ := rd_all h
  have ok : reprOk (.list ps) = true := by
    refine reprOk_of ?_ ?_ ?_ ?_
    · simpa only [PyData.canLay0] using g2
    · simpa only [PyData.showable] using g3
    · simp only [PyData.depth]
      omega
    · simp only [PyData.weight]
      omega
  refine ⟨PyData.shown (.list ps), fun S2 c kp hc => ?_⟩
  have e : toPy 60 S2 (.cell c) = some (.list ps) := by
    rw [toPy_succ_cell hc, g1 S2 kp 59 (by omega)]
    rfl
  unfold bRepr
  simp only [e, ok, if_true]
end
end Dn
set_option Elab.async false
set_option linter.all false
set_option maxRecDepth 100000
set_option maxHeartbeats 2000000
/-! Lv_k84: the loops of a turn. -/
noncomputable section
namespace Dn
open PySem L2
section
variable {δ : En} {S S' : Sto} {kd kg : Nat}
theorem t4 {Q : Po} {R : Nat} {ws : List (List Stp)} {v : D} (H : HOk R ws) (hlen : 10 < δ.length) (h4 : δ[4]? = some (some (houseD R ws))) (h9 : δ[9]? = some (some v)) (hv : Rd [] 4 2600 S v) (hq : ∀ d S', Kp [] S S' → Q.nx (δ.set 10 (some d)) S') : OkS (body_4 δ S) Q := by
  have hb := r_law_is_raised (S := S) (R := R) (ws := ws) (v := v)
  have main : ∀ T : D, (∀ S : Sto, Rd [] 0 20 S T) → T = (if raisedOk R v = true then .non else .str "form") → (if raisedOk R v = true then .non else .str "form") = T →
      Ok (d_raised_error [houseD R ws, v] S) fun x S1 => Ok (d_raised_error [houseD R ws, v] S1) fun x2 S2 => Ok (bRepr [.cell S2.length] (S2 ++ [.lst [x, x2]])) fun y S3 => Ok (bRepr [.cell S3.length] (S3 ++ [.lst [T, T]])) fun z S4 => Ok (opNe y z S4) fun d S5 => d = .bl false ∧ Kp [] S S5 := by
    intro T hT e1 e2
    refine Ok.imp (r_raised_error H hv (by decide) (by decide)) ?_
    rintro _ S1 ⟨rfl, k1⟩
    refine Ok.imp (r_raised_error H (hv.mono k1) (by decide) (by decide)) ?_
    rintro _ S2 ⟨rfl, k2⟩
    rw [e2]
    have two : ∀ x ∈ [T, T], Rd [] 0 20 S2 x := fun x hx => by
      simp only [List.mem_cons, List.not_mem_nil, or_false] at hx
      rcases hx with rfl | rfl <;> exact hT _
    obtain ⟨t, ht⟩ := repr_lst two (by decide) (by show 2 * (20 + 1) ≤ 8000; decide)
    rw [ht _ _ (Kp.app _ _ _) (get_push _ _), Ok_ok, ht _ _ ((Kp.app _ _ _).push _) (get_push _ _), Ok_ok]
    simp
    exact (k1.trans k2).trans (Kp.app _ _ _)
  unfold body_4
  rw [o_seq, o_set]
  cases hbv : raisedOk R v with
  | true =>
    have m := main .non (fun S => rd_non) (by rw [hbv]; rfl) (by rw [hbv]; rfl)
    simp [h4, h9, hlen, hb, hbv, lim_eq, permD]
    exact Ok.imp m fun x S1 h => Ok.imp h fun x2 S2 h => Ok.imp h fun y S3 h => Ok.imp h fun z S4 h => Ok.imp h fun d S5 ⟨e, k⟩ => Or.inl ⟨e, hq _ _ k⟩
  | false =>
    have m := main (.str "form") (fun S => rd_word (by decide +kernel) (by decide +kernel)) (by rw [hbv]; rfl) (by rw [hbv]; rfl)
    simp [h4, h9, hlen, hb, hbv, lim_eq, permD]
    exact Ok.imp m fun x S1 h => Ok.imp h fun x2 S2 h => Ok.imp h fun y S3 h => Ok.imp h fun z S4 h => Ok.imp h fun d S5 ⟨e, k⟩ => Or.inl ⟨e, hq _ _ k⟩
theorem any3 (Dk : Deck kd kg S) : Ok (d_law_any 5 [.cell kd, .int 3] S) fun r S' => Dw kd kg S S' ∧ Rd [kd, kg] 4 2600 S' r := by
  have h : Ok (d_law_any 5 [.cell kd, .int 3] S) fun r S' => Dw kd kg S S' ∧ Rd (List.range S.length) 4 (wAny 3) S' r := r_any 5 3 (by decide) S Dk
  refine Ok.imp h ?_
  rintro r S1 ⟨D1, h⟩
  refine ⟨D1, (h.anti fun c hc => ?_).le (Nat.le_refl _) (by decide)⟩
  have := Dk.lt
  simp at hc
  rw [List.mem_range]
  omega
theorem q4 {Q : Po} {R : Nat} {ws : List (List Stp)} {ra : List Cap} (Dk : Deck kd kg S) (H : HOk R ws) (hra : ra.length = R) (hs : Small ra) (hlen : δ.length = 25) (h1 : δ[1]? = some (some (.cell kd))) (h4 : δ[4]? = some (some (houseD R ws))) (h8 : δ[8]? = some (some (raisedD ra)))
    (hq : ∀ δ' S', δ'.length = δ.length → (∀ i, i ≠ 9 → i ≠ 10 → δ'[i]? = δ[i]?) → Dw kd kg S S' → Q.nx δ' S') : OkS (q_4 δ S) Q := by
  have hsrc : Ok (src_4 δ S) fun s S1 => ∃ vs, s = .seq (.tup vs) ∧ vs.length = 4 ∧ (∀ x ∈ vs, Rd [kd, kg] 4 2600 S1 x) ∧ Dw kd kg S S1 := by
    simp [src_4, h1, h8, lim_eq]
    refine Ok.imp (r_odd_raised Dk H.r1 H.r5 hra hs _ rfl) ?_
    rintro v2 S1 ⟨⟨D1, k1⟩, rd2⟩
    refine Ok.imp (r_odd_raised D1 H.r1 H.r5 hra hs _ rfl) ?_
    rintro v3 S2 ⟨⟨D2, k2⟩, rd3⟩
    refine Ok.imp (any3 D2) ?_
    rintro v4 S3 ⟨⟨D3, k3⟩, rd4⟩
    have r5 := H.r5
    exact ⟨⟨(rd_raised hs (by omega)).le (by decide) (by decide), ((rd2.mono k2).mono k3).le (by decide) (by decide), (rd3.mono k3).le (by decide) (by decide), rd4⟩, D3, (k1.trans k2).trans k3⟩
  obtain ⟨s, S1, e, vs, rfl, hl, hrd, D1, k1⟩ := hsrc.ex
  unfold q_4
  refine ok_for (s0 := .seq (.tup vs)) (N := 4) (item := fun i => vs[i]?.getD .non) (fun i δ' S' => δ'.length = δ.length ∧ (∀ j, j ≠ 9 → j ≠ 10 → δ'[j]? = δ[j]?) ∧ Deck kd kg S' ∧ Kp [kd, kg] S S' ∧ ∀ x ∈ vs, Rd [kd, kg] 4 2600 S' x) ?_ ?_ ?_ ?_ ?_
  · rw [e]
    exact ⟨rfl, rfl, fun _ _ _ => rfl, D1, k1, hrd⟩
  · intro i δ' S' h
    simp [Src.len, hl]
  · intro i δ' S' hi h
    simp [Src.item, hl, hi]
  · rintro i δ' S2 hi ⟨hl2, hag, D2, k2, hrd2⟩
    obtain ⟨x, hx⟩ : ∃ x, vs[i]? = some x := ⟨_, List.getElem?_eq_getElem (by omega)⟩
    refine ⟨_, set_nm, ?_⟩
    rw [hx, Option.getD_some]
    refine t4 (v := x) H ?_ ?_ ?_ (hrd2 x (List.mem_of_getElem? hx)).nil ?_
    · rw [List.length_set, hl2, hlen]
      decide
    · rw [List.getElem?_set_ne (by decide), hag 4 (by decide) (by decide)]
      exact h4
    · exact List.getElem?_set_self (by rw [hl2, hlen]; decide)
    · intro d S3 k3
      refine ⟨by rw [List.length_set, List.length_set]; exact hl2, fun j h9 h10 => ?_, D2.kp k3, k2.trans k3.of, fun y hy => (hrd2 y hy).mono k3.of⟩
      rw [List.getElem?_set_ne (Ne.symm h10), List.getElem?_set_ne (Ne.symm h9)]
      exact hag j h9 h10
  · rintro δ' S2 ⟨hl2, hag, D2, k2, _⟩
    exact hq δ' S2 hl2 hag ⟨D2, k2⟩
theorem errT_rd {ws : List (List Stp)} {rk : List Int} {ra : List Cap} {v : D} {K : List Nat} : Rd K 0 20 S (errT ws rk ra v) := by
  unfold errT
  split
  · unfold errN
    split
    · split
      · exact rd_word (by decide +kernel) (by decide +kernel)
      · split
        · exact rd_word (by decide +kernel) (by decide +kernel)
        · split
          · exact rd_non
          · exact rd_word (by decide +kernel) (by decide +kernel)
    · exact rd_non
  · exact rd_word (by decide +kernel) (by decide +kernel)
theorem tail12 {Tt v w8 : D} {sh : Str} {ct n : Nat} {xs : List D} {Pq Pr Pr' : Sto → Prop} (hn : n ≤ 2) (hT : ∀ S : Sto, Rd [] 0 20 S Tt) (hct : S[ct]? = some (.lst xs)) (hxs : (List.replicate n [Tt]).flatten = xs) (hxl : xs.length = n) (hall : ∀ x ∈ xs, x = Tt)
    (hsh : ∀ (S2 : Sto) (c : Nat), Kp [] S S2 → S2[c]? = some (.lst [w8, v]) → bRepr [.cell c] S2 = .ok (.str sh) S2) (hq : ∀ S', Kp [] S S' → Pq S') :
    Ok (bRepr [.cell ct] S) fun x S => Ok (bLen [.cell ct] (S ++ [C.lst [Tt]])) fun y S_1 => Ok (opMul (.cell S.length) y S_1) fun x_1 S1_1 => Ok (bRepr [x_1] S1_1) fun y S => Ok (opNe x y S) fun d S =>
      (d = .bl false ∧ Ok (bRepr [.cell S.length] (S ++ [C.lst [w8, v]])) fun x S => Ok (opNe x (.str sh) S) fun d S => d = .bl false ∧ Pq S ∨ d = .bl true ∧ Pr S) ∨ d = .bl true ∧ Pr' S := by
  have rdx : ∀ x ∈ xs, Rd [] 0 20 S x := fun x hx => by rw [hall x hx]; exact hT S
  obtain ⟨t, ht⟩ := repr_lst rdx (by decide) (by rw [hxl]; omega)
  rw [ht _ _ (Kp.refl _ _) hct, Ok_ok, b_lenL ((Kp.app [] S [C.lst [Tt]]).get _ _ (by simp) hct), Ok_ok]
  have em : opMul (.cell S.length) (.int (xs.length : Nat)) (S ++ [C.lst [Tt]]) = mkLst xs (S ++ [C.lst [Tt]]) := by
    unfold opMul
    have e : decide (0 ≤ ((n : Nat) : Int) ∧ ((n : Nat) : Int) ≤ 1000 ∧ [Tt].length ≤ 100) = true := decide_eq_true ⟨by omega, by omega, by simp⟩
    simp only [get_push, hxl, e, if_true, Int.toNat_natCast, hxs]
  rw [em, o_mkL]
  refine ⟨by rw [hxl, lim_eq]; omega, ?_⟩
  have k1 : Kp [] S ((S ++ [C.lst [Tt]]) ++ [C.lst xs]) := (Kp.app _ _ _).push _
  rw [ht _ _ k1 (get_push _ _), Ok_ok, p_neS, Ok_ok]
  refine Or.inl ⟨by simp, ?_⟩
  rw [hsh _ _ (k1.push _) (get_push _ _), Ok_ok, p_neS, Ok_ok]
  exact Or.inl ⟨by simp, hq _ (k1.push _)⟩
theorem t12 {Q : Po} {R p kk : Nat} {ws : List (List Stp)} {cs : List Nat} {rk : List Int} {ra : List Cap} {v : D} (T : Tn kd kg S R ws p cs rk) (hra : ra.length = R) (hs : Small ra) (hlen : δ.length = 25) (h4 : δ[4]? = some (some (houseD R ws))) (h5 : δ[5]? = some (some (.cell p))) (h6 : δ[6]? = some (some (ranksD rk))) (h8 : δ[8]? = some (some (raisedD ra)))
    (h9 : δ[9]? = some (some v)) (h18 : δ[18]? = some (some (.int (kk : Nat)))) (hv : Rd [kd, kg] 4 2600 S v) (hq : ∀ a b c S', Kp [] S S' → Q.nx (((δ.set 10 a).set 19 b).set 20 c) S') : OkS (body_12 δ S) Q := by
  have r5 := T.h.r5
  have told : ∀ S : Sto, Ok (d_told_right [houseD R ws, ranksD rk, raisedD ra] S) fun _ S' => Kp [] S S' := fun S => r_told_right T.h T.rl T.nd hra hs
  have l10 : 10 < δ.length := by rw [hlen]; decide
  have l19 : 19 < δ.length := by rw [hlen]; decide
  have l20 : 20 < δ.length := by rw [hlen]; decide
  unfold body_12
  rw [o_seq, o_par]
  simp [h4, h5, h6, h8, h9, h18, l10, l19, l20, lim_eq]
  refine Ok.imp (r_law_error T.h T.pl hra T.rl) ?_
  rintro _ S1 ⟨rfl, k1⟩
  have rdp : ∀ x ∈ [raisedD ra, v], Rd [] 4 2600 S1 x := fun x hx => by
    simp only [List.mem_cons, List.not_mem_nil, or_false] at hx
    rcases hx with rfl | rfl
    · exact (rd_raised hs (by omega)).le (by decide) (by decide)
    · exact (hv.mono k1.of).nil
  obtain ⟨sh, hsh⟩ := repr_lst rdp (by decide) (by show 2 * (2600 + 1) ≤ 8000; decide)
  rw [hsh _ _ (Kp.app _ _ _) (get_push _ _), Ok_ok]
  have ka : Kp [] S1 (S1 ++ [C.lst [raisedD ra, v]]) := Kp.app _ _ _
  refine Ok.imp (r_barred_error T.h hra T.rl (told _)) ?_
  rintro _ S2 ⟨rfl, k2⟩
  have k12 : Kp [] S1 S2 := ka.trans k2
  have k02 : Kp [] S S2 := k1.trans k12
  rw [p_mod (by decide), Ok_ok, p_eqI, Ok_ok]
  by_cases h3 : (kk : Int).fmod 3 = 0
  · refine Or.inr ⟨by simp [h3], isL_cell (get_push _ _), ?_⟩
    have k3 : Kp [] S1 (S2 ++ [C.lst [errT ws rk ra v]]) := k12.push _
    show Ok (d_barred_error [houseD R ws, ranksD rk, raisedD ra, v] _) _
    refine Ok.imp (r_barred_error T.h hra T.rl (told _)) ?_
    rintro _ S3 ⟨rfl, k4⟩
    have hc3 := k4.get _ _ (by simp) (get_push S2 (C.lst [errT ws rk ra v]))
    rw [m_app hc3 (by rw [lim_eq]; show 1 < 100000; decide), Ok_ok]
    have le2 := k02.le
    have k5 : Kp [] S (S3.set S2.length (.lst ([errT ws rk ra v] ++ [errT ws rk ra v]))) := ((k02.push _).trans k4).set (.inl le2) _
    have le12 := k12.le
    have k6 : Kp [] S1 (S3.set S2.length (.lst ([errT ws rk ra v] ++ [errT ws rk ra v]))) := (k3.trans k4).set (.inl le12) _
    exact tail12 (n := 2) (by decide) (fun S => errT_rd) (get_set hc3) rfl rfl (fun x hx => by simpa using hx) (fun S4 c kc hc => hsh S4 c (k6.trans kc) hc) (fun S4 kc => hq _ _ _ _ (k5.trans kc))
  · refine Or.inl ⟨by simp [h3], ?_⟩
    have k3 : Kp [] S1 (S2 ++ [C.lst [errT ws rk ra v]]) := k12.push _
    exact tail12 (n := 1) (by decide) (fun S => errT_rd) (get_push _ _) rfl rfl (fun x hx => by simpa using hx) (fun S4 c kc hc => hsh S4 c (k3.trans kc) hc) (fun S4 kc => hq _ _ _ _ ((k02.push _).trans kc))
theorem q12 {Q : Po} {R p cv : Nat} {ws : List (List Stp)} {cs : List Nat} {rk : List Int} {ra : List Cap} {vs : List D} (T : Tn kd kg S R ws p cs rk) (hra : ra.length = R) (hs : Small ra) (hlen : δ.length = 25) (h1 : δ[1]? = some (some (.cell kd))) (h4 : δ[4]? = some (some (houseD R ws))) (h5 : δ[5]? = some (some (.cell p))) (h6 : δ[6]? = some (some (ranksD rk))) (h8 : δ[8]? = some (some (raisedD ra)))
    (h16 : δ[16]? = some (some (.cell cv))) (hcv : S[cv]? = some (.lst vs)) (hv : cv ∉ [kd, kg]) (hvl : vs.length = 8) (hrd : ∀ x ∈ vs, Rd [kd, kg] 4 2600 S x) (hq : ∀ δ' S', δ'.length = δ.length → (∀ i, i ≠ 9 → i ≠ 10 → i ≠ 18 → i ≠ 19 → i ≠ 20 → δ'[i]? = δ[i]?) → Dw kd kg S S' → Q.nx δ' S') : OkS (q_12 δ S) Q := by
  have hsrc : Ok (src_12 δ S) fun s S1 => ∃ c us, s = .en (.cell c) ∧ S.length ≤ c ∧ S1[c]? = some (.lst us) ∧ us.length = 9 ∧ (∀ x ∈ us, Rd [kd, kg] 4 2600 S1 x) ∧ Dw kd kg S S1 := by
    simp [src_12, h1, h16, lim_eq]
    refine Ok.imp (any3 T.dk) ?_
    rintro v9 S1 ⟨⟨D1, k1⟩, rd⟩
    have hcv1 : (S1 ++ [C.lst [v9]])[cv]? = some (.lst vs) := (Kp.app [kd, kg] S1 _).get _ _ hv (k1.get _ _ hv hcv)
    rw [p_addL hcv1 (get_push S1 _)]
    simp [lim_eq, hvl]
    have ka : Kp [kd, kg] S1 (S1 ++ [C.lst [v9], C.lst (vs ++ [v9])]) := Kp.app _ _ _
    have le := k1.le
    have hg : (S1 ++ [C.lst [v9], C.lst (vs ++ [v9])])[S1.length + 1]? = some (.lst (vs ++ [v9])) := by
      rw [List.getElem?_append_right (by omega)]
      simp
    refine ⟨isL_cell hg, by omega, fun x hx => ?_, D1.push _, k1.push _⟩
    rcases hx with hx | hx
    · exact ((hrd x hx).mono k1).mono ka
    · rw [hx]
      exact rd.mono ka
  obtain ⟨s, S1, e, c, us, rfl, hc, hus, hul, hrd1, D1, k1⟩ := hsrc.ex
  have fc : c ∉ [kd, kg] := T.dk.fresh hc
  unfold q_12
  refine ok_for (s0 := .en (.cell c)) (N := 9) (item := fun i => .tup [.int (i : Nat), us[i]?.getD .non]) (fun i δ' S' => δ'.length = δ.length ∧ (∀ j, j ≠ 9 → j ≠ 10 → j ≠ 18 → j ≠ 19 → j ≠ 20 → δ'[j]? = δ[j]?) ∧ Deck kd kg S' ∧ Kp [kd, kg] S S' ∧ S'[c]? = some (.lst us) ∧ ∀ x ∈ us, Rd [kd, kg] 4 2600 S' x) ?_ ?_ ?_ ?_ ?_
  · rw [e]
    exact ⟨rfl, rfl, fun _ _ _ _ _ _ => rfl, D1, k1, hus, hrd1⟩
  · intro i δ' S' h
    simp [Src.len, it_cell h.2.2.2.2.1, hul]
  · intro i δ' S' hi h
    simp [Src.item, it_cell h.2.2.2.2.1, hul, hi]
  · rintro i δ' S2 hi ⟨hl2, hag, D2, k2, hus2, hrd2⟩
    obtain ⟨x, hx⟩ : ∃ x, us[i]? = some x := ⟨_, List.getElem?_eq_getElem (by omega)⟩
    rw [hx, Option.getD_some]
    refine ⟨(δ'.set 18 (some (.int (i : Nat)))).set 9 (some x), by simp, ?_⟩
    have T2 := T.mono (S' := S2) ⟨D2, k2⟩
    have hl3 : ((δ'.set 18 (some (.int (i : Nat)))).set 9 (some x)).length = 25 := by
      rw [List.length_set, List.length_set, hl2, hlen]
    have g : ∀ j, j ≠ 9 → j ≠ 10 → j ≠ 18 → j ≠ 19 → j ≠ 20 → ((δ'.set 18 (some (.int (i : Nat)))).set 9 (some x))[j]? = δ[j]? := fun j a b c d e => by
      rw [List.getElem?_set_ne (Ne.symm a), List.getElem?_set_ne (Ne.symm c)]
      exact hag j a b c d e
    refine t12 (v := x) (kk := i) T2 hra hs hl3 ?_ ?_ ?_ ?_ ?_ ?_ (hrd2 x (List.mem_of_getElem? hx)) ?_
    · rw [g 4 (by decide) (by decide) (by decide) (by decide) (by decide)]; exact h4
    · rw [g 5 (by decide) (by decide) (by decide) (by decide) (by decide)]; exact h5
    · rw [g 6 (by decide) (by decide) (by decide) (by decide) (by decide)]; exact h6
    · rw [g 8 (by decide) (by decide) (by decide) (by decide) (by decide)]; exact h8
    · exact List.getElem?_set_self (by rw [List.length_set, hl2, hlen]; decide)
    · rw [List.getElem?_set_ne (by decide)]
      exact List.getElem?_set_self (by rw [hl2, hlen]; decide)
    · intro a b c' S3 k3
      refine ⟨by rw [List.length_set, List.length_set, List.length_set, hl3, hlen], fun j a1 a2 a3 a4 a5 => ?_, D2.kp k3, k2.trans k3.of, k3.get _ _ (by simp) hus2, fun y hy => (hrd2 y hy).mono k3.of⟩
      rw [List.getElem?_set_ne (Ne.symm a5), List.getElem?_set_ne (Ne.symm a4), List.getElem?_set_ne (Ne.symm a2)]
      exact g j a1 a2 a3 a4 a5
  · rintro δ' S2 ⟨hl2, hag, D2, k2, _⟩
    exact hq δ' S2 hl2 hag ⟨D2, k2⟩
end
end Dn
set_option Elab.async false
set_option linter.all false
set_option maxRecDepth 100000
set_option maxHeartbeats 2000000
/-! Lx_k84: the end of a turn. -/
noncomputable section
namespace Dn
open PySem L2
section
variable {δ : En} {S S' : Sto} {kd kg : Nat}
theorem wait_small {R : Nat} {ws : List (List Stp)} {rk : List Int} {ra : List Cap} {q : Int} (H : HOk R ws) : (waitT ws rk ra q ws.length).natAbs < 2 ^ 11 := by
  have g := maxI_ge0 (((List.range ws.length).filter (lowB rk q)).map (lonA ws rk ra q))
  have m := maxI_mem 0 (((List.range ws.length).filter (lowB rk q)).map (lonA ws rk ra q))
  have e : waitT ws rk ra q ws.length = maxI (0 :: ((List.range ws.length).filter (lowB rk q)).map (lonA ws rk ra q)) := rfl
  rw [← e] at g m
  have le : waitT ws rk ra q ws.length ≤ 24 := by
    rcases List.mem_cons.mp m with m | m
    · omega
    · obtain ⟨i, hi, h⟩ := List.mem_map.mp m
      have hi2 := List.mem_range.mp (List.mem_filter.mp hi).1
      obtain ⟨w, hw⟩ : ∃ w, ws[i]? = some w := ⟨_, List.getElem?_eq_getElem hi2⟩
      have hl := H.len w (List.mem_of_getElem? hw)
      have e2 : lonA ws rk ra q i = lonT w (rk[i]?.getD 0) ra q := by simp [lonA, hw]
      have e3 := (stepR_le (bsT w (rk[i]?.getD 0) ra q w.length) 0 0 (by omega) (by omega)).1
      have e4 : (bsT w (rk[i]?.getD 0) ra q w.length).length = w.length := by simp [bsT]
      rw [e4] at e3
      have e5 : lonT w (rk[i]?.getD 0) ra q ≤ max 0 (0 + (w.length : Int)) := e3
      rw [← h, e2]
      omega
  omega
theorem s13 {n : Nat} (Dk : Deck kd kg S) (h1 : δ[1]? = some (some (.cell kd))) (h3 : δ[3]? = some (some (.int (n : Nat)))) (hn1 : 1 ≤ n) (hn5 : n ≤ 5) : Ok (e_13 δ S) fun d S' => ∃ h : Nat, d = .int (h : Nat) ∧ h < n ∧ Dw kd kg S S' := by
  simp [e_13, h1, h3]
  have hn : n ≤ 1000000 := by omega
  refine Ok.imp (r_draw Dk hn) ?_
  rintro _ S1 ⟨l, rfl, hl, _, D1⟩
  exact ⟨l, rfl, hl hn1, D1⟩
theorem s14 {R p h : Nat} {ws : List (List Stp)} {cs : List Nat} {rk : List Int} {ra : List Cap} {q : Int} (T : Tn kd kg S R ws p cs rk) (hra : ra.length = R) (h5 : δ[5]? = some (some (.cell p))) (h6 : δ[6]? = some (some (ranksD rk))) (h8 : δ[8]? = some (some (raisedD ra))) (h21 : δ[21]? = some (some (.int (h : Nat)))) (hq : rk[h]? = some q) :
    Ok (e_14 δ S) fun d S' => d = .int (waitT ws rk ra q ws.length) ∧ Kp [] S S' := by
  simp [e_14, h5, h6, h8, h21]
  exact r_law_longest T.h T.pl hra T.rl hq
theorem s15 {R p h : Nat} {ws : List (List Stp)} {cs : List Nat} {rk : List Int} {ra : List Cap} {q : Int} (T : Tn kd kg S R ws p cs rk) (hra : ra.length = R) (hs : Small ra) (h4 : δ[4]? = some (some (houseD R ws))) (h6 : δ[6]? = some (some (ranksD rk))) (h8 : δ[8]? = some (some (raisedD ra))) (h21 : δ[21]? = some (some (.int (h : Nat)))) (hq : rk[h]? = some q) :
    Ok (e_15 δ S) fun d S' => ∃ c, d = .cell c ∧ S.length ≤ c ∧ S'[c]? = some (.lst [.int (waitT ws rk ra q ws.length)]) ∧ Kp [] S S' := by
  simp [e_15, h4, h6, h8, h21, lim_eq]
  refine Ok.imp (r_raised_wait T.h hra T.rl hq (r_told_right T.h T.rl T.nd hra hs)) ?_
  rintro _ S1 ⟨rfl, k1⟩
  have le := k1.le
  simp
  exact ⟨le, k1.push _⟩
theorem s16 {Q : Po} {R p h c : Nat} {ws : List (List Stp)} {cs : List Nat} {rk : List Int} {ra : List Cap} {q : Int} (T : Tn kd kg S R ws p cs rk) (hra : ra.length = R) (hs : Small ra) (h4 : δ[4]? = some (some (houseD R ws))) (h6 : δ[6]? = some (some (ranksD rk))) (h8 : δ[8]? = some (some (raisedD ra))) (h21 : δ[21]? = some (some (.int (h : Nat)))) (hq : rk[h]? = some q)
    (h20 : δ[20]? = some (some (.cell c))) (hc : S[c]? = some (.lst [.int (waitT ws rk ra q ws.length)])) (hQ : ∀ S', Kp [c] S S' → S'[c]? = some (.lst [.int (waitT ws rk ra q ws.length), .int (waitT ws rk ra q ws.length)]) → Q.nx δ S') : OkS (q_16 δ S) Q := by
  unfold q_16
  rw [o_drop]
  simp [h4, h6, h8, h21, h20, isL_cell hc, permD]
  refine Ok.imp (r_raised_wait T.h hra T.rl hq (r_told_right T.h T.rl T.nd hra hs)) ?_
  rintro _ S1 ⟨rfl, k1⟩
  have hc1 := k1.get _ _ (by simp) hc
  rw [m_app hc1 (by rw [lim_eq]; show 1 < 100000; decide), Ok_ok]
  refine hQ _ (k1.of.set (.inr (by simp)) _) ?_
  rw [get_set hc1]
  rfl
/-- what is no raised at all -/
def OddOk (R : Nat) (d : D) : Prop := raisedOk R d = false ∧ ∀ S : Sto, isT d = true → Rd [] 3 90000 S d
theorem s17 {R : Nat} {ra : List Cap} (Dk : Deck kd kg S) (h1 : δ[1]? = some (some (.cell kd))) (h8 : δ[8]? = some (some (raisedD ra))) (hR : 1 ≤ R) (hR5 : R ≤ 5) (hra : ra.length = R) (hs : Small ra) : Ok (e_17 δ S) fun d S' => OddOk R d ∧ Dw kd kg S S' := by
  simp [e_17, h1, h8, raisedD, cut_last, lim_eq]
  have hg : (S ++ [C.lst (List.map capD ra), C.lst [D.non, D.tup [], D.cell S.length, D.tup (List.map capD ra).dropLast]])[S.length + 1]? = some (.lst [D.non, D.tup [], D.cell S.length, D.tup (List.map capD ra).dropLast]) := by
    rw [List.getElem?_append_right (by omega)]
    simp
  refine Ok.imp (r_pick (Dk.push _) hg (Dk.fresh (by omega)) (by simp) (by simp)) ?_
  rintro d S1 ⟨hd, D1, k1⟩
  refine ⟨?_, D1, (Kp.app _ _ _).trans k1⟩
  simp only [List.mem_cons, List.not_mem_nil, or_false] at hd
  rcases hd with rfl | rfl | rfl | rfl
  · exact ⟨rfl, fun S h => by cases h⟩
  · refine ⟨?_, fun S h => rd_tup (k := 0) (w := 0) (fun x hx => by simp at hx) (by decide) (by simp)⟩
    unfold raisedOk
    have : ¬ (0 = R) := by omega
    simp [this]
  · exact ⟨rfl, fun S h => by cases h⟩
  · refine ⟨?_, fun S h => rd_tup (k := 2) (w := 400) (fun x hx => ?_) (by decide) ?_⟩
    · unfold raisedOk
      have : ¬ ((List.map capD ra).dropLast.length = R) := by
        rw [List.length_dropLast, List.length_map]
        omega
      simp only [this, decide_false, Bool.false_and]
    · obtain ⟨p, hp, rfl⟩ := List.mem_map.mp ((List.dropLast_sublist _).subset hx)
      exact rd_cap (hs p hp)
    · rw [List.length_dropLast, List.length_map]
      omega
def Rf4 (d : D) : Prop := ∃ a b c w, d = .tup [a, b, c, w] ∧ RefOk a b c w (.int 0)
theorem s18 {R p : Nat} {ws : List (List Stp)} {cs : List Nat} {rk : List Int} {ra : List Cap} (T : Tn kd kg S R ws p cs rk) (h1 : δ[1]? = some (some (.cell kd))) (h4 : δ[4]? = some (some (houseD R ws))) (h6 : δ[6]? = some (some (ranksD rk))) (h8 : δ[8]? = some (some (raisedD ra))) :
    Ok (e_18 δ S) fun d S' => ∃ c x y, d = .cell c ∧ S.length ≤ c ∧ S'[c]? = some (.lst [x, y]) ∧ Rf4 x ∧ Rf4 y ∧ Dw kd kg S S' := by
  simp [e_18, h1, h4, h6, h8, lim_eq]
  refine Ok.imp (r_no_calm T.dk T.h _ rfl) ?_
  rintro nc S1 ⟨hnc, D1, k1⟩
  have dr : Ok (d_law_draw [.cell kd, .int 3] S1) fun r S' => ∃ i : Nat, r = .int (i : Nat) ∧ (1 ≤ 3 → i < 3) ∧ (i < 3 ∨ i = 0) ∧ Dw kd kg S1 S' := r_draw D1 (n := 3) (by omega)
  refine Ok.imp dr ?_
  rintro _ S2 ⟨i, rfl, hi, _, D2, k2⟩
  have hi3 := hi (by omega)
  have le := (k1.trans k2).le
  simp [ranksD, lim_eq]
  have hg : (S2 ++ [C.lst (List.map D.int rk), C.lst [D.tup [nc, D.tup (List.map D.int rk), raisedD ra, D.int (i : Nat)], D.tup [houseD R ws, D.cell S2.length, raisedD ra, D.int 0]]])[S2.length + 1]? =
      some (.lst [D.tup [nc, D.tup (List.map D.int rk), raisedD ra, D.int (i : Nat)], D.tup [houseD R ws, D.cell S2.length, raisedD ra, D.int 0]]) := by
    rw [List.getElem?_append_right (by omega)]
    simp
  exact ⟨by omega, _, _, ⟨rfl, rfl⟩, ⟨_, _, _, _, rfl, ref_calm hnc hi3⟩, ⟨_, _, _, _, rfl, ref_ranks (v := .cell S2.length) (i := 0) T.h (.inl rfl) (by omega)⟩, D2.push _, (k1.trans k2).push _⟩
theorem s19 {R p cb : Nat} {ws : List (List Stp)} {cs : List Nat} {rk : List Int} {ra : List Cap} {x y od : D} (T : Tn kd kg S R ws p cs rk) (h1 : δ[1]? = some (some (.cell kd))) (h4 : δ[4]? = some (some (houseD R ws))) (h6 : δ[6]? = some (some (ranksD rk))) (h8 : δ[8]? = some (some (raisedD ra))) (h22 : δ[22]? = some (some od)) (h23 : δ[23]? = some (some (.cell cb))) (hod : OddOk R od) (hcb : S[cb]? = some (.lst [x, y])) (hx : Rf4 x) (hy : Rf4 y) :
    Ok (e_19 δ S) fun d S' => Rf4 d ∧ Dw kd kg S S' := by
  simp [e_19, h1, h4, h6, h8, h22, h23, lim_eq]
  have hcb1 : (S ++ [C.lst [D.tup [houseD R ws, ranksD rk, od, D.int 0], D.tup [houseD R ws, ranksD rk, od, D.int 1], D.tup [houseD R ws, D.tup [], raisedD ra, D.int 1]]])[cb]? = some (.lst [x, y]) := (Kp.app [] S _).get _ _ (by simp) hcb
  rw [p_addL hcb1 (get_push S _)]
  simp [lim_eq]
  have hg : (S ++ [C.lst [D.tup [houseD R ws, ranksD rk, od, D.int 0], D.tup [houseD R ws, ranksD rk, od, D.int 1], D.tup [houseD R ws, D.tup [], raisedD ra, D.int 1]], C.lst [x, y, D.tup [houseD R ws, ranksD rk, od, D.int 0], D.tup [houseD R ws, ranksD rk, od, D.int 1], D.tup [houseD R ws, D.tup [], raisedD ra, D.int 1]]])[S.length + 1]? =
      some (.lst [x, y, D.tup [houseD R ws, ranksD rk, od, D.int 0], D.tup [houseD R ws, ranksD rk, od, D.int 1], D.tup [houseD R ws, D.tup [], raisedD ra, D.int 1]]) := by
    rw [List.getElem?_append_right (by omega)]
    simp
  refine Ok.imp (r_pick (T.dk.push _) hg (T.dk.fresh (by omega)) (by simp) (by simp)) ?_
  rintro d S1 ⟨hd, D1, k1⟩
  refine ⟨?_, D1, (Kp.app _ _ _).trans k1⟩
  simp only [List.mem_cons, List.not_mem_nil, or_false] at hd
  rcases hd with rfl | rfl | rfl | rfl | rfl
  · exact hx
  · exact hy
  · exact ⟨_, _, _, _, rfl, ref_raised (i := 0) T.h T.rl T.nd hod.1 hod.2 (by omega)⟩
  · exact ⟨_, _, _, _, rfl, ref_raised (i := 1) T.h T.rl T.nd hod.1 hod.2 (by omega)⟩
  · exact ⟨_, _, _, _, rfl, ref_ranks (i := 1) T.h (.inr rfl) (by omega)⟩
theorem s21 {n : Nat} (Dk : Deck kd kg S) (h1 : δ[1]? = some (some (.cell kd))) (h3 : δ[3]? = some (some (.int (n : Nat)))) (hn : n ≤ 5) : Ok (e_21 δ S) fun d S' => whole d n = false ∧ Dw kd kg S S' := by
  simp [e_21, h1, h3, lim_eq]
  rw [p_pow mpw30, Ok_ok]
  have hb : (1000 : Int) ≤ (10 : Int) ^ ((30 : Int).toNat) := by decide +kernel
  generalize (10 : Int) ^ ((30 : Int).toNat) = big at hb ⊢
  simp [lim_eq]
  have hg : (S ++ [C.lst [D.int 0], C.dic [], C.lst [D.non, D.bl true, D.int (-1), D.int (n : Nat), D.str (Str.ofString "0"), D.tup [D.int 0], D.cell S.length, D.cell (S.length + 1), D.int big]])[S.length + 2]? =
      some (.lst [D.non, D.bl true, D.int (-1), D.int (n : Nat), D.str (Str.ofString "0"), D.tup [D.int 0], D.cell S.length, D.cell (S.length + 1), D.int big]) := by
    rw [List.getElem?_append_right (by omega)]
    simp
  refine Ok.imp (r_pick (Dk.push _) hg (Dk.fresh (by omega)) (by simp) (by simp)) ?_
  rintro d S1 ⟨hd, D1, k1⟩
  refine ⟨?_, D1, (Kp.app _ _ _).trans k1⟩
  simp only [List.mem_cons, List.not_mem_nil, or_false] at hd
  rcases hd with rfl | rfl | rfl | rfl | rfl | rfl | rfl | rfl | rfl
  · rfl
  · rfl
  · unfold whole
    simp
  · unfold whole
    simp
  · rfl
  · rfl
  · rfl
  · rfl
  · unfold whole
    have : ¬ (0 ≤ big ∧ big < (n : Int)) := by omega
    exact decide_eq_false this
end
end Dn
set_option Elab.async false
set_option linter.all false
set_option maxRecDepth 100000
set_option maxHeartbeats 2000000
/-! Ly_k84: a turn, the law. -/
noncomputable section
namespace Dn
open PySem L2
section
variable {δ : En} {S S' : Sto} {kd kg : Nat}
theorem t20 {Q : Po} {R : Nat} {ws : List (List Stp)} {rk : List Int} {ra : List Cap} {q : Int} {c : Nat} {one : D} (H : HOk R ws) (h20 : δ[20]? = some (some (.cell c))) (h10 : δ[10]? = some (some (.int (waitT ws rk ra q ws.length)))) (h24 : δ[24]? = some (some one)) (hone : Rf4 one)
    (hc : S[c]? = some (.lst [.int (waitT ws rk ra q ws.length), .int (waitT ws rk ra q ws.length)])) (hQ : ∀ S', Kp [] S S' → Q.nx δ S') : OkS (q_20 δ S) Q := by
  obtain ⟨a, b, cc, w, rfl, hr⟩ := hone
  have sm := wait_small (R := R) (ws := ws) (rk := rk) (ra := ra) (q := q) H
  generalize waitT ws rk ra q ws.length = W at *
  have two : ∀ x ∈ [D.int W, D.int W], Rd [] 0 20 S x := fun x hx => by
    simp only [List.mem_cons, List.not_mem_nil, or_false] at hx
    rcases hx with rfl | rfl <;> exact rdi sm (by decide)
  obtain ⟨t, ht⟩ := repr_lst two (by decide) (by show 2 * (20 + 1) ≤ 8000; decide)
  unfold q_20
  simp [h20, h10, h24, lim_eq]
  rw [ht _ _ (Kp.refl _ _) hc, Ok_ok, ht _ _ (Kp.app _ _ _) (get_push _ _), Ok_ok, p_neS, Ok_ok]
  refine Or.inl ⟨by simp, ?_⟩
  refine Ok.imp (hr _) ?_
  rintro r S1 ⟨rfl, k1⟩
  simp
  exact hQ _ ((Kp.app _ _ _).trans k1)
theorem t22 {Q : Po} {R p : Nat} {ws : List (List Stp)} {cs : List Nat} {rk : List Int} {ra : List Cap} {od : D} (T : Tn kd kg S R ws p cs rk) (hra : ra.length = R) (hs : Small ra) (h4 : δ[4]? = some (some (houseD R ws))) (h6 : δ[6]? = some (some (ranksD rk))) (h8 : δ[8]? = some (some (raisedD ra))) (h22 : δ[22]? = some (some od)) (hod : whole od ws.length = false)
    (hQ : ∀ S', Kp [] S S' → Q.nx δ S') : OkS (q_22 δ S) Q := by
  unfold q_22
  simp [h4, h6, h8, h22]
  refine Ok.imp (ref_hand T.h T.rl T.nd hra hs hod S) ?_
  rintro r S1 ⟨rfl, k1⟩
  simp
  exact hQ _ k1
theorem t23 {Q : Po} {R : Nat} {ws : List (List Stp)} {t : Str} (h4 : δ[4]? = some (some (houseD R ws))) (h7 : δ[7]? = some (some (.str t))) (hrep : bRepr [houseD R ws] S = .ok (.str t) S) (hQ : Q.nx δ S) : OkS (q_23 δ S) Q := by
  unfold q_23
  simp [h4, h7, hrep]
  exact hQ
theorem stepSet {i : Nat} {e : DE} {rest : DS} {Q : Po} {P : D → Sto → Prop} (he : Ok (e δ S) P) (hk : ∀ d S' δ', P d S' → δ'.length = δ.length → (∀ j, j ≠ i → δ'[j]? = δ[j]?) → (i < δ.length → δ'[i]? = some (some d)) → OkS (rest δ' S') Q) : OkS (dSeq (dSet i e) rest δ S) Q := by
  rw [o_seq, o_set]
  refine Ok.imp he fun d S' h => ?_
  exact hk d S' _ h List.length_set (fun j hj => List.getElem?_set_ne (Ne.symm hj)) (fun hi => List.getElem?_set_self hi)
structure Ev (δ : En) (kd : Nat) (R : Nat) (ws : List (List Stp)) (p : Nat) (rk : List Int) (t : Str) (ra : List Cap) : Prop where
  len : δ.length = 25
  g1 : δ[1]? = some (some (.cell kd))
  g3 : δ[3]? = some (some (.int (ws.length : Nat)))
  g4 : δ[4]? = some (some (houseD R ws))
  g5 : δ[5]? = some (some (.cell p))
  g6 : δ[6]? = some (some (ranksD rk))
  g7 : δ[7]? = some (some (.str t))
  g8 : δ[8]? = some (some (raisedD ra))
theorem Ev.keep {δ' : En} {R p : Nat} {ws : List (List Stp)} {rk : List Int} {t : Str} {ra : List Cap} (e : Ev δ kd R ws p rk t ra) (hl : δ'.length = δ.length) (h : ∀ j, j ≤ 8 → δ'[j]? = δ[j]?) : Ev δ' kd R ws p rk t ra :=
  ⟨hl.trans e.len, (h 1 (by decide)).trans e.g1, (h 3 (by decide)).trans e.g3, (h 4 (by decide)).trans e.g4, (h 5 (by decide)).trans e.g5, (h 6 (by decide)).trans e.g6, (h 7 (by decide)).trans e.g7, (h 8 (by decide)).trans e.g8⟩
theorem r_turn {Q : Po} (Dk : Deck kd kg S) (hlen : δ.length = 25) (h1 : δ[1]? = some (some (.cell kd))) (hQ : ∀ δ' S', δ'.length = 25 → δ'[1]? = some (some (.cell kd)) → Deck kd kg S' → Q.nx δ' S') : OkS (b_turn δ S) Q := by
  unfold b_turn
  refine stepSet (s0 Dk h1) ?_
  rintro _ S1 δ1 ⟨hands, rfl, hh1, hh5, D1, k1⟩ l1 ag1 at1
  have a3 : δ1[3]? = some (some (.int (hands : Nat))) := at1 (by rw [hlen]; decide)
  have a1 : δ1[1]? = some (some (.cell kd)) := (ag1 1 (by decide)).trans h1
  have ln1 := l1.trans hlen
  refine stepSet (s1 D1 a1 a3 hh1 hh5) ?_
  rintro _ S2 δ2 ⟨R, ws, rfl, H, hwl, D2, k2⟩ l2 ag2 at2
  subst hwl
  have b4 : δ2[4]? = some (some (houseD R ws)) := at2 (by rw [ln1]; decide)
  have b1 : δ2[1]? = some (some (.cell kd)) := (ag2 1 (by decide)).trans a1
  have b3 : δ2[3]? = some (some (.int (ws.length : Nat))) := (ag2 3 (by decide)).trans a3
  have ln2 := l2.trans ln1
  rw [o_seq]
  unfold q_2
  rw [o_par]
  refine Ok.imp (s2 D2 b1 H b3 b4) ?_
  rintro _ S3 ⟨p, cs, rk, t, rfl, T3, k3, hrep⟩
  refine ⟨((δ2.set 5 (some (.cell p))).set 6 (some (ranksD rk))).set 7 (some (.str t)), by simp, ?_⟩
  obtain ⟨δ3, hδ3⟩ : ∃ δ3, ((δ2.set 5 (some (.cell p))).set 6 (some (ranksD rk))).set 7 (some (.str t)) = δ3 := ⟨_, rfl⟩
  have ln3 : δ3.length = 25 := by rw [← hδ3, List.length_set, List.length_set, List.length_set, ln2]
  have c1 : δ3[1]? = some (some (.cell kd)) := by rw [← hδ3, List.getElem?_set_ne (by decide), List.getElem?_set_ne (by decide), List.getElem?_set_ne (by decide)]; exact b1
  have c3 : δ3[3]? = some (some (.int (ws.length : Nat))) := by rw [← hδ3, List.getElem?_set_ne (by decide), List.getElem?_set_ne (by decide), List.getElem?_set_ne (by decide)]; exact b3
  have c4 : δ3[4]? = some (some (houseD R ws)) := by rw [← hδ3, List.getElem?_set_ne (by decide), List.getElem?_set_ne (by decide), List.getElem?_set_ne (by decide)]; exact b4
  have c5 : δ3[5]? = some (some (.cell p)) := by rw [← hδ3, List.getElem?_set_ne (by decide), List.getElem?_set_ne (by decide)]; exact List.getElem?_set_self (by rw [ln2]; decide)
  have c6 : δ3[6]? = some (some (ranksD rk)) := by rw [← hδ3, List.getElem?_set_ne (by decide)]; exact List.getElem?_set_self (by rw [List.length_set, ln2]; decide)
  have c7 : δ3[7]? = some (some (.str t)) := by rw [← hδ3]; exact List.getElem?_set_self (by rw [List.length_set, List.length_set, ln2]; decide)
  rw [hδ3]
  clear hδ3
  refine stepSet (s3 T3 c1 c4 c5 c6) ?_
  rintro _ S4 δ4 ⟨ra, rfl, hra, hs, d4⟩ l4 ag4 at4
  have E4 : Ev δ4 kd R ws p rk t ra := ⟨l4.trans ln3, (ag4 1 (by decide)).trans c1, (ag4 3 (by decide)).trans c3, (ag4 4 (by decide)).trans c4, (ag4 5 (by decide)).trans c5, (ag4 6 (by decide)).trans c6, (ag4 7 (by decide)).trans c7, at4 (by rw [ln3]; decide)⟩
  have T4 := T3.mono d4
  have w1 := H.w1
  have w5 := H.w5
  rw [o_seq]
  refine q4 T4.dk H hra hs E4.len E4.g1 E4.g4 E4.g8 ?_
  intro δ5 S5 l5 ag5 d5
  have E5 : Ev δ5 kd R ws p rk t ra := E4.keep l5 fun j hj => ag5 j (by omega) (by omega)
  have T5 := T4.mono d5
  refine stepSet (s5 T5 hra E5.g4 E5.g5 E5.g6 E5.g8) ?_
  rintro _ S6 δ6 ⟨k6, cb, fs, rfl, hcb, hfs, hfl, hfa⟩ l6 ag6 at6
  have E6 : Ev δ6 kd R ws p rk t ra := E5.keep l6 fun j hj => ag6 j (by omega)
  have x11 : δ6[11]? = some (some (.cell cb)) := at6 (by rw [E5.len]; decide)
  have T6 := T5.kp k6
  have fcb : cb ∉ [kd, kg] := T5.dk.fresh hcb
  rw [o_seq]
  unfold q_6
  rw [o_par]
  refine Ok.imp (s6 T6.dk E6.g1 E6.g3 w1 w5) ?_
  rintro _ S7 ⟨lo, hi, rfl, hlo, hhi, d7⟩
  refine ⟨(δ6.set 12 (some (.int (lo : Nat)))).set 13 (some (.int (hi : Nat))), by simp, ?_⟩
  obtain ⟨δ7, hδ7⟩ : ∃ δ7, (δ6.set 12 (some (.int (lo : Nat)))).set 13 (some (.int (hi : Nat))) = δ7 := ⟨_, rfl⟩
  have ag7 : ∀ j, j ≠ 12 → j ≠ 13 → δ7[j]? = δ6[j]? := fun j a b => by rw [← hδ7, List.getElem?_set_ne (Ne.symm b), List.getElem?_set_ne (Ne.symm a)]
  have l7 : δ7.length = δ6.length := by rw [← hδ7, List.length_set, List.length_set]
  have x12 : δ7[12]? = some (some (.int (lo : Nat))) := by rw [← hδ7, List.getElem?_set_ne (by decide)]; exact List.getElem?_set_self (by rw [E6.len]; decide)
  have x13 : δ7[13]? = some (some (.int (hi : Nat))) := by rw [← hδ7]; exact List.getElem?_set_self (by rw [List.length_set, E6.len]; decide)
  rw [hδ7]
  clear hδ7
  have E7 : Ev δ7 kd R ws p rk t ra := E6.keep l7 fun j hj => ag7 j (by omega) (by omega)
  have y11 := (ag7 11 (by decide) (by decide)).trans x11
  have T7 := T6.mono d7
  obtain ⟨w, hw⟩ : ∃ w, ws[lo]? = some w := ⟨_, List.getElem?_eq_getElem hlo⟩
  obtain ⟨wh, hwh⟩ : ∃ w, ws[hi]? = some w := ⟨_, List.getElem?_eq_getElem hhi⟩
  have hwlen := H.len w (List.mem_of_getElem? hw)
  refine stepSet (s7 T7 E7.g1 E7.g5 x12 hw) ?_
  rintro _ S8 δ8 ⟨pl, rfl, hpl, d8⟩ l8 ag8 at8
  have E8 : Ev δ8 kd R ws p rk t ra := E7.keep l8 fun j hj => ag8 j (by omega)
  have T8 := T7.mono d8
  have z14 : δ8[14]? = some (some (.int (pl : Nat))) := at8 (by rw [E7.len]; decide)
  have z12 := (ag8 12 (by decide)).trans x12
  have z13 := (ag8 13 (by decide)).trans x13
  have z11 := (ag8 11 (by decide)).trans y11
  refine stepSet (s8 T8 E8.g4 E8.g5 z12 z13 z14 hw hwh hpl) ?_
  rintro _ S9 δ9 ⟨rfl, o, rfl, ho⟩ l9 ag9 at9
  have E9 : Ev δ9 kd R ws p rk t ra := E8.keep l9 fun j hj => ag9 j (by omega)
  have v15 : δ9[15]? = some (some (natD o)) := at9 (by rw [E8.len]; decide)
  refine stepSet (s9 T8.dk E9.g1 ((ag9 12 (by decide)).trans z12) ((ag9 13 (by decide)).trans z13) ((ag9 14 (by decide)).trans z14) v15 (by omega) (by omega) (by omega) (fun n hn => by have := ho n hn; omega)) ?_
  rintro _ S10 δ10 ⟨cv, t0, t1, rfl, hcv, hcvs, n0, n1, d10⟩ l10 ag10 at10
  have E10 : Ev δ10 kd R ws p rk t ra := E9.keep l10 fun j hj => ag10 j (by omega)
  have T10 := T8.mono d10
  have u16 : δ10[16]? = some (some (.cell cv)) := at10 (by rw [E9.len]; decide)
  have u11 := (ag10 11 (by decide)).trans ((ag9 11 (by decide)).trans z11)
  have fcv : cv ∉ [kd, kg] := T8.dk.fresh hcv
  have hfs10 := d10.2.get _ _ fcb (d8.2.get _ _ fcb (d7.2.get _ _ fcb hfs))
  refine stepSet (s10 T10.dk E10.g1 u11 u16 hfs10 fcb hfl hfa hcvs n0) ?_
  rintro own S11 δ11 ⟨hown, d11⟩ l11 ag11 at11
  have E11 : Ev δ11 kd R ws p rk t ra := E10.keep l11 fun j hj => ag11 j (by omega)
  have T11 := T10.mono d11
  have r17 : δ11[17]? = some (some own) := at11 (by rw [E10.len]; decide)
  refine stepSet (s11 T11.dk E11.g1 ((ag11 16 (by decide)).trans u16) r17 (d11.2.get _ _ fcv hcvs) fcv n0 n1 hown) ?_
  rintro _ S12 δ12 ⟨c2, vs, rfl, hc2, hvs, hvl, hvr, d12⟩ l12 ag12 at12
  have E12 : Ev δ12 kd R ws p rk t ra := E11.keep l12 fun j hj => ag12 j (by omega)
  have T12 := T11.mono d12
  have p16 : δ12[16]? = some (some (.cell c2)) := at12 (by rw [E11.len]; decide)
  rw [o_seq]
  refine q12 T12 hra hs E12.len E12.g1 E12.g4 E12.g5 E12.g6 E12.g8 p16 hvs (T11.dk.fresh hc2) hvl (fun x hx => (hvr x hx).le (by decide) (Nat.le_refl _)) ?_
  intro δ13 S13 l13 ag13 d13
  have E13 : Ev δ13 kd R ws p rk t ra := E12.keep l13 fun j hj => ag13 j (by omega) (by omega) (by omega) (by omega) (by omega)
  have T13 := T12.mono d13
  refine stepSet (s13 T13.dk E13.g1 E13.g3 w1 w5) ?_
  rintro _ S14 δ14 ⟨hd, rfl, hhd, d14⟩ l14 ag14 at14
  have E14 : Ev δ14 kd R ws p rk t ra := E13.keep l14 fun j hj => ag14 j (by omega)
  have T14 := T13.mono d14
  have m21 : δ14[21]? = some (some (.int (hd : Nat))) := at14 (by rw [E13.len]; decide)
  obtain ⟨q, hq⟩ : ∃ q, rk[hd]? = some q := ⟨_, List.getElem?_eq_getElem (by rw [T14.rl]; exact hhd)⟩
  refine stepSet (s14 T14 hra E14.g5 E14.g6 E14.g8 m21 hq) ?_
  rintro _ S15 δ15 ⟨rfl, k15⟩ l15 ag15 at15
  have E15 : Ev δ15 kd R ws p rk t ra := E14.keep l15 fun j hj => ag15 j (by omega)
  have T15 := T14.kp k15
  have m10 : δ15[10]? = some (some (.int (waitT ws rk ra q ws.length))) := at15 (by rw [E14.len]; decide)
  have m21b := (ag15 21 (by decide)).trans m21
  refine stepSet (s15 T15 hra hs E15.g4 E15.g6 E15.g8 m21b hq) ?_
  rintro _ S16 δ16 ⟨ct, rfl, hct, hcts, k16⟩ l16 ag16 at16
  have E16 : Ev δ16 kd R ws p rk t ra := E15.keep l16 fun j hj => ag16 j (by omega)
  have T16 := T15.kp k16
  have m20 : δ16[20]? = some (some (.cell ct)) := at16 (by rw [E15.len]; decide)
  have fct : ct ∉ [kd, kg] := T15.dk.fresh hct
  rw [o_seq]
  refine s16 T16 hra hs E16.g4 E16.g6 E16.g8 ((ag16 21 (by decide)).trans m21b) hq m20 hcts ?_
  intro S17 k17 hct17
  have k015 := k16
  have d17 : Dw kd kg S15 S17 := ⟨T16.dk.keep fun n c hn e => k17.get n c (by
      rw [List.mem_singleton]
      rintro rfl
      exact fct (by rcases hn with rfl | rfl <;> simp)) e, ⟨Nat.le_trans k16.le k17.le, fun n c hn e => k17.get n c (by
      rw [List.mem_singleton]
      rintro rfl
      have := lt_of_get e
      omega) (k16.get n c (by simp) e)⟩⟩
  have T17 := T15.mono d17
  have m10b := (ag16 10 (by decide)).trans m10
  refine stepSet (s17 T17.dk E16.g1 E16.g8 H.r1 H.r5 hra hs) ?_
  rintro od S18 δ18 ⟨hod, d18⟩ l18 ag18 at18
  have E18 : Ev δ18 kd R ws p rk t ra := E16.keep l18 fun j hj => ag18 j (by omega)
  have T18 := T17.mono d18
  have o22 : δ18[22]? = some (some od) := at18 (by rw [E16.len]; decide)
  refine stepSet (s18 T18 E18.g1 E18.g4 E18.g6 E18.g8) ?_
  rintro _ S19 δ19 ⟨cbad, bx, byy, rfl, hcbad, hbads, hbx, hby, d19⟩ l19 ag19 at19
  have E19 : Ev δ19 kd R ws p rk t ra := E18.keep l19 fun j hj => ag19 j (by omega)
  have T19 := T18.mono d19
  have o23 : δ19[23]? = some (some (.cell cbad)) := at19 (by rw [E18.len]; decide)
  refine stepSet (s19 T19 E19.g1 E19.g4 E19.g6 E19.g8 ((ag19 22 (by decide)).trans o22) o23 hod hbads hbx hby) ?_
  rintro one S20 δ20 ⟨hone, d20⟩ l20 ag20 at20
  have E20 : Ev δ20 kd R ws p rk t ra := E19.keep l20 fun j hj => ag20 j (by omega)
  have T20 := T19.mono d20
  have o24 : δ20[24]? = some (some one) := at20 (by rw [E19.len]; decide)
  have s20' := (ag20 20 (by decide)).trans ((ag19 20 (by decide)).trans ((ag18 20 (by decide)).trans m20))
  have s10' := (ag20 10 (by decide)).trans ((ag19 10 (by decide)).trans ((ag18 10 (by decide)).trans m10b))
  have hct20 := d20.2.get _ _ fct (d19.2.get _ _ fct (d18.2.get _ _ fct hct17))
  rw [o_seq]
  refine t20 H s20' s10' o24 hone hct20 ?_
  intro S21 k21
  have T21 := T20.kp k21
  refine stepSet (s21 T21.dk E20.g1 E20.g3 w5) ?_
  rintro od2 S22 δ22 ⟨hod2, d22⟩ l22 ag22 at22
  have E22 : Ev δ22 kd R ws p rk t ra := E20.keep l22 fun j hj => ag22 j (by omega)
  have T22 := T21.mono d22
  have n22 : δ22[22]? = some (some od2) := at22 (by rw [E20.len]; decide)
  rw [o_seq]
  refine t22 T22 hra hs E22.g4 E22.g6 E22.g8 n22 hod2 ?_
  intro S23 k23
  have T23 := T22.kp k23
  have kall : Kp [kd, kg] S3 S23 := d4.2.trans (d5.2.trans (k6.of.trans (d7.2.trans (d8.2.trans (d10.2.trans (d11.2.trans (d12.2.trans (d13.2.trans (d14.2.trans (k15.of.trans (d17.2.trans (d18.2.trans (d19.2.trans (d20.2.trans (k21.of.trans (d22.2.trans k23.of))))))))))))))))
  exact t23 E22.g4 E22.g7 (hrep _ kall) (hQ _ _ E22.len E22.g1 T23.dk)
/-- THE PLAIN LAW -/
theorem law_true (ns : List Int) (h : ns.length ≤ 63) : ∃ S', d_law [.ro (ns.map .int)] [] = .ok (.bl true) S' := by
  have main : Ok (d_law [.ro (ns.map D.int)] []) fun r _ => r = .bl true := by
    unfold d_law
    rw [o_fn, law_split]
    refine ⟨rfl, ?_⟩
    have hd : Ok ((dCall d_law_deck (dCons (dVar 0) dNil)) (startD 25 [D.ro (ns.map D.int)]) []) fun r S' => r = .cell 0 ∧ Deck 0 1 S' := by
      simp [startD]
      exact r_law_deck
    refine stepSet hd ?_
    rintro _ S1 δ1 ⟨rfl, D1⟩ l1 ag1 at1
    have ln : δ1.length = 25 := by rw [l1]; rfl
    have g1 : δ1[1]? = some (some (.cell 0)) := at1 (by simp [startD])
    rw [o_seq]
    have hn : (2 : Nat) ≤ 1000000 := by decide
    refine ok_forR hn ?I ?_ ?_ ?_
    case I => exact fun _ δ S => δ.length = 25 ∧ δ[1]? = some (some (.cell 0)) ∧ Deck 0 1 S
    · simp
      exact ⟨ln, g1, D1⟩
    · rintro i δ S hi ⟨a, b, c⟩
      refine ⟨_, set_nm, ?_⟩
      refine r_turn c (by rw [List.length_set]; exact a) ?_ ?_
      · rw [List.getElem?_set_ne (by decide)]
        exact b
      · intro δ' S' a' b' c'
        exact ⟨a', b', c'⟩
    · rintro δ S ⟨a, b, c⟩
      simp
  obtain ⟨r, S', e, rfl⟩ := main.ex
  exact ⟨S', e⟩
end
end Dn
set_option Elab.async false
set_option linter.all false
set_option maxRecDepth 100000
set_option maxHeartbeats 0
open PySem PySem.W PySem.Calls PyProof.Rows
theorem PySem.Challenge.cw_manylocks_k84_ranks_for_rooms_and_breach_holds : PySem.Challenge.rw_manylocks_k84_ranks_for_rooms_and_breach.Holds := by
  w_on; o_law
  refine HandSHeadRun.head_any (r := OpenLaw.row PySem.Challenge.rw_manylocks_k84_ranks_for_rooms_and_breach) (q := view (OpenLaw.row PySem.Challenge.rw_manylocks_k84_ranks_for_rooms_and_breach).prog [58]) (H := Dn.hk) (ob := Dn.ob) (M := 4000) (loose := Dn.looseL) (d := HandSHeadRun.topDef (OpenLaw.row PySem.Challenge.rw_manylocks_k84_ranks_for_rooms_and_breach).prog 58) (kwd := []) Dn.ob_eq
    (by kernel_rfl) (fun s => by kernel_rfl) Dn.run (by kernel_rfl) (by kernel_rfl) (by kernel_rfl) (by rfl) (by first | assumption | decide +kernel) (by decide +kernel) ⟨rfl, rfl, rfl, rfl, rfl, by decide +kernel⟩ ?hw ?hc
  case hw => w_witness2
  case hc =>
    refine Dn.walkGE (l := PySem.Challenge.rw_manylocks_k84_ranks_for_rooms_and_breach) (n := 63) (k := 9) (x := "script") (g := Dn.d_law) rfl (by decide) (by kernel_rfl) ⟨rfl, by decide, by decide⟩ ?F Dn.law_true
    intro w mg fa h Y G hmg0
    obtain ⟨K, KX, c⟩ := Y
    have hmg : mg ("law" : PySem.Str) = some (.ref fa) := by
      have e : (HandSHeadRun.topDef (OpenLaw.row PySem.Challenge.rw_manylocks_k84_ranks_for_rooms_and_breach).prog 58).name = ("law" : PySem.Str) := by kernel_rfl
      rw [← e]
      exact hmg0
    obtain ⟨fd, cl, hb, hF⟩ := Dn.facts (P := (PySem.Challenge.rw_manylocks_k84_ranks_for_rooms_and_breach).prog) (w := w) KX G hmg c
    exact ⟨K, fd, cl, KX, hb, hF⟩
#print axioms PySem.Challenge.cw_manylocks_k84_ranks_for_rooms_and_breach_holds
