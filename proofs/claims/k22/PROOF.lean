import PyProof.Rows.All
import Wide.All
import OpenK.AllK
import Wide.FinOn
import HandS.ForMost
import HandS.Walk
import HandS.TupAny
import HandS.TupMul
import HandS.Conv
import HandS.Zip
import HandS.Wide
import HandS.Flow
import HandS.Style
import HandS.RaiseMore
import KE.SortData
import KE.DatumOrd
import KE.DataAny
import PyProof.ReprReads
import KE.GoesEnum
import HandS.IsInst
import HandS.Ends
import PyProof.ReprRoads
import PyProof.ReprLen
import HandS.Deep
import PySem.Challenge.RW_ferrybook_k22_costs_added_year_by_year
set_option Elab.async false
set_option linter.all false
set_option maxRecDepth 100000
set_option maxHeartbeats 4000000
namespace Y
open PySem PySem.Spec L2

abbrev D := PyData
abbrev Frag := PySem.W.Frag

/-! ### frozen data: it does not lean on the addresses in A -/
def WrT (K : Frag) (a : Addr) (xs : List V) : Prop :=
  ∃ (o : Obj) (its : Array Value) (n : Nat), K.lookup a = some o ∧ o.cls = .type "tuple" ∧ o.data = .seq its n ∧ its.size ≤ sizeLine ∧ Vals xs its.toList
abbrev szN : Nat := 16777216
def NdL (A : List Addr) (H : Hp) (a : Addr) (xs : List V) : Prop := (a ∉ A ∧ H a = some (.lst xs)) ∧ xs.length ≤ szN
def NdT (K : Frag) (A : List Addr) (H : Hp) (a : Addr) (xs : List V) : Prop := (a ∉ A ∧ H a = some (.tup xs) ∧ xs.length ≤ szN) ∨ WrT K a xs
mutual
inductive Fz (K : Frag) (A : List Addr) (H : Hp) : V → D → Prop
  | non : Fz K A H .non .none
  | bl (b : Bool) : Fz K A H (.bl b) (.bool b)
  | int (i : Int) : Fz K A H (.int i) (.int i)
  | str (x : Str) : Fz K A H (.str x) (.str x)
  | lst {a : Addr} {xs : List V} {ds : List D} : NdL A H a xs → FzL K A H xs ds → Fz K A H (.ref a) (.list ds)
  | tup {a : Addr} {xs : List V} {ds : List D} : NdT K A H a xs → FzL K A H xs ds → Fz K A H (.ref a) (.tuple ds)
inductive FzL (K : Frag) (A : List Addr) (H : Hp) : List V → List D → Prop
  | nil : FzL K A H [] []
  | cons {v : V} {vs : List V} {d : D} {ds : List D} : Fz K A H v d → FzL K A H vs ds → FzL K A H (v :: vs) (d :: ds)
end

/-- what is tracked outside A is as it was -/
def Fr (A : List Addr) (H H' : Hp) : Prop := ∀ b o, H b = some o → b ∉ A → H' b = some o
theorem Fr.refl (A : List Addr) (H : Hp) : Fr A H H := fun _ _ h _ => h
theorem Fr.trans {A : List Addr} {H H1 H2 : Hp} (a : Fr A H H1) (b : Fr A H1 H2) : Fr A H H2 := fun x o h n => b x o (a x o h n) n
theorem Fr.mono {A A' : List Addr} {H H' : Hp} (a : Fr A H H') (s : ∀ x ∈ A, x ∈ A') : Fr A' H H' := fun x o h n => a x o h fun z => n (s x z)
theorem Fr.new {A : List Addr} {H : Hp} {p : Addr} {o : HO} (h : H p = none) : Fr A H (upd H p o) := fun a u e _ => by
  rw [upd_ne (ne_of_none e h)]
  exact e
theorem Fr.at {A : List Addr} {H : Hp} {p : Addr} {o : HO} (h : p ∈ A) : Fr A H (upd H p o) := fun a u e n => by
  rw [upd_ne (fun z => n (by rw [z]; exact h))]
  exact e
theorem Fr.nil {A : List Addr} {H H' : Hp} (h : Fr [] H H') : Fr A H H' := h.mono fun _ z => by cases z
theorem Fr.some {H H' : Hp} {p : Addr} (e : Fr [] H H') (h : H p ≠ none) : H' p ≠ none := fun q => by
  cases h1 : H p with
  | none => exact h h1
  | some o => rw [e p o h1 (by simp)] at q; cases q
theorem Fr.back {H H' : Hp} {p : Addr} (e : Fr [] H H') (h : H' p = none) : H p = none := by
  cases h1 : H p with
  | none => rfl
  | some o =>
    have := e p o h1 (by simp)
    rw [h] at this; cases this

section
variable {K : Frag} {A A' : List Addr} {H H' : Hp} {a p : Addr} {xs : List V}
theorem rd_fr {u : HO} (f : Fr A H H') (n : a ∉ A) (h : Rd H a u) : Rd H' a u := by
  rcases h with h | ⟨o, h⟩
  · exact .inl (f _ _ h n)
  · exact .inr ⟨o, f _ _ h n⟩
theorem rd_some {u : HO} (h : Rd H a u) : H a ≠ none := by
  rcases h with h | ⟨o, h⟩ <;> (rw [h]; simp)
theorem NdL.sq (h : NdL A H a xs) : SqL K H a xs := .inl (.inl h.1.2)
theorem NdT.sq (h : NdT K A H a xs) : SqT K H a xs := h.elim (fun z => .inl (.inl z.2.1)) .inr
theorem NdT.sz (h : NdT K A H a xs) : xs.length ≤ szN := by
  rcases h with z | ⟨o, its, n, _, _, _, hz, v⟩
  · exact z.2.2
  · have := v.length
    rw [sizeLine_eq] at hz
    simp only [Array.length_toList] at this
    show xs.length ≤ 16777216
    omega
theorem NdL.fr (f : Fr A H H') (h : NdL A H a xs) : NdL A H' a xs := ⟨⟨h.1.1, f _ _ h.1.2 h.1.1⟩, h.2⟩
theorem NdT.fr (f : Fr A H H') (h : NdT K A H a xs) : NdT K A H' a xs := h.imp (fun z => ⟨z.1, f _ _ z.2.1 z.1, z.2.2⟩) id
theorem NdL.sub (s : ∀ x ∈ A', x ∈ A) (h : NdL A H a xs) : NdL A' H a xs := ⟨⟨fun q => h.1.1 (s _ q), h.1.2⟩, h.2⟩
theorem NdT.sub (s : ∀ x ∈ A', x ∈ A) (h : NdT K A H a xs) : NdT K A' H a xs := h.imp (fun z => ⟨fun q => z.1 (s _ q), z.2⟩) id
theorem NdL.any (s : ∀ x ∈ A', x ∈ A ∨ H x = none) (h : NdL A H a xs) : NdL A' H a xs := by
  refine ⟨⟨fun q => ?_, h.1.2⟩, h.2⟩
  rcases s a q with z | z
  · exact h.1.1 z
  · rw [h.1.2] at z; cases z
theorem NdT.any (s : ∀ x ∈ A', x ∈ A ∨ H x = none) (h : NdT K A H a xs) : NdT K A' H a xs := by
  refine h.imp (fun h => ⟨fun q => ?_, h.2⟩) id
  rcases s a q with z | z
  · exact h.1 z
  · rw [h.2.1] at z; cases z
end

section
variable {K : Frag} {A A' : List Addr} {H H' : Hp}
mutual
theorem Fz.fr (f : Fr A H H') : ∀ {v : V} {d : D}, Fz K A H v d → Fz K A H' v d
  | _, _, .non => .non
  | _, _, .bl b => .bl b
  | _, _, .int i => .int i
  | _, _, .str x => .str x
  | _, _, .lst n h => .lst (n.fr f) (FzL.fr f h)
  | _, _, .tup n h => .tup (n.fr f) (FzL.fr f h)
theorem FzL.fr (f : Fr A H H') : ∀ {vs : List V} {ds : List D}, FzL K A H vs ds → FzL K A H' vs ds
  | _, _, .nil => .nil
  | _, _, .cons a b => .cons (Fz.fr f a) (FzL.fr f b)
end
mutual
theorem Fz.sub (s : ∀ x ∈ A', x ∈ A) : ∀ {v : V} {d : D}, Fz K A H v d → Fz K A' H v d
  | _, _, .non => .non
  | _, _, .bl b => .bl b
  | _, _, .int i => .int i
  | _, _, .str x => .str x
  | _, _, .lst n h => .lst (n.sub s) (FzL.sub s h)
  | _, _, .tup n h => .tup (n.sub s) (FzL.sub s h)
theorem FzL.sub (s : ∀ x ∈ A', x ∈ A) : ∀ {vs : List V} {ds : List D}, FzL K A H vs ds → FzL K A' H vs ds
  | _, _, .nil => .nil
  | _, _, .cons a b => .cons (Fz.sub s a) (FzL.sub s b)
end
mutual
theorem Fz.any (s : ∀ x ∈ A', x ∈ A ∨ H x = none) : ∀ {v : V} {d : D}, Fz K A H v d → Fz K A' H v d
  | _, _, .non => .non
  | _, _, .bl b => .bl b
  | _, _, .int i => .int i
  | _, _, .str x => .str x
  | _, _, .lst n h => .lst (n.any s) (FzL.any s h)
  | _, _, .tup n h => .tup (n.any s) (FzL.any s h)
theorem FzL.any (s : ∀ x ∈ A', x ∈ A ∨ H x = none) : ∀ {vs : List V} {ds : List D}, FzL K A H vs ds → FzL K A' H vs ds
  | _, _, .nil => .nil
  | _, _, .cons a b => .cons (Fz.any s a) (FzL.any s b)
end
theorem more_any {p : Addr} (hp : H p = none) : ∀ x ∈ p :: A, x ∈ A ∨ H x = none := fun x hx => by
  rcases List.mem_cons.mp hx with e | hx
  · rw [e]; exact .inr hp
  · exact .inl hx
theorem Fz.more {p : Addr} (hp : H p = none) {v : V} {d : D} (h : Fz K A H v d) : Fz K (p :: A) H v d := h.any (more_any hp)
theorem FzL.more {p : Addr} (hp : H p = none) {vs : List V} {ds : List D} (h : FzL K A H vs ds) : FzL K (p :: A) H vs ds := h.any (more_any hp)
mutual
theorem Fz.dp : ∀ {v : V} {d : D}, Fz K A H v d → Dp K H v d
  | _, _, .non => .non
  | _, _, .bl b => .bl b
  | _, _, .int i => .int i
  | _, _, .str x => .str x
  | _, _, .lst n h => .lst n.sq (FzL.dp h)
  | _, _, .tup n h => .tup n.sq (FzL.dp h)
theorem FzL.dp : ∀ {vs : List V} {ds : List D}, FzL K A H vs ds → DpAll K H vs ds
  | _, _, .nil => .nil
  | _, _, .cons a b => .cons (Fz.dp a) (FzL.dp b)
end
/-- without lists -/
def lf : D → Bool
  | .list _ => false
  | .dict _ => false
  | .tuple ds => lfs ds
  | _ => true
where lfs : List D → Bool
  | [] => true
  | d :: ds => lf d && lfs ds
mutual
theorem Fz.up (hA : ∀ a ∈ A', ∃ xs, H a = some (.lst xs)) : ∀ {v : V} {d : D}, Fz K A H v d → lf d = true → Fz K (A ++ A') H v d
  | _, _, .non, _ => .non
  | _, _, .bl b, _ => .bl b
  | _, _, .int i, _ => .int i
  | _, _, .str x, _ => .str x
  | _, _, .lst n h, e => by simp [lf] at e
  | _, _, .tup (ds := ds) n h, e => by
    have e' : lf.lfs ds = true := by simpa [lf] using e
    refine .tup (n.imp (fun z => ⟨fun q => ?_, z.2⟩) id) (FzL.up hA h e')
    rcases List.mem_append.mp q with q | q
    · exact z.1 q
    · obtain ⟨ys, hy⟩ := hA _ q
      have r := z.2.1
      rw [hy] at r; cases r
theorem FzL.up (hA : ∀ a ∈ A', ∃ xs, H a = some (.lst xs)) : ∀ {vs : List V} {ds : List D}, FzL K A H vs ds → lf.lfs ds = true → FzL K (A ++ A') H vs ds
  | _, _, .nil, _ => .nil
  | _, _, .cons (d := d) (ds := ds) a b, e => by
    have e' : lf d = true ∧ lf.lfs ds = true := by simpa [lf.lfs] using e
    exact .cons (Fz.up hA a e'.1) (FzL.up hA b e'.2)
end
theorem FzL.length : ∀ {vs : List V} {ds : List D}, FzL K A H vs ds → vs.length = ds.length
  | _, _, .nil => rfl
  | _, _, .cons _ h => by simp [FzL.length h]
theorem FzL.get : ∀ {vs : List V} {ds : List D} {i : Nat} {v : V}, FzL K A H vs ds → vs[i]? = some v → ∃ d, ds[i]? = some d ∧ Fz K A H v d
  | _, _, _, _, .nil, e => by simp at e
  | _, _, 0, _, .cons a _, e => by simp at e; subst e; exact ⟨_, rfl, a⟩
  | _, _, i + 1, _, .cons _ h, e => by
    obtain ⟨d, h1, h2⟩ := FzL.get (i := i) h (by simpa using e)
    exact ⟨d, by simpa using h1, h2⟩
theorem FzL.get' : ∀ {vs : List V} {ds : List D} {i : Nat} {d : D}, FzL K A H vs ds → ds[i]? = some d → ∃ v, vs[i]? = some v ∧ Fz K A H v d
  | _, _, _, _, .nil, e => by simp at e
  | _, _, 0, _, .cons a _, e => by simp at e; subst e; exact ⟨_, rfl, a⟩
  | _, _, i + 1, _, .cons _ h, e => by
    obtain ⟨d, h1, h2⟩ := FzL.get' (i := i) h (by simpa using e)
    exact ⟨d, by simpa using h1, h2⟩
theorem FzL.append : ∀ {vs : List V} {ds : List D} {ws : List V} {es : List D}, FzL K A H vs ds → FzL K A H ws es → FzL K A H (vs ++ ws) (ds ++ es)
  | _, _, _, _, .nil, h => h
  | _, _, _, _, .cons a b, h => .cons a (FzL.append b h)
theorem FzL.set : ∀ {vs : List V} {ds : List D} {v : V} {d : D} (i : Nat), FzL K A H vs ds → Fz K A H v d → FzL K A H (vs.set i v) (ds.set i d)
  | _, _, _, _, _, .nil, _ => .nil
  | _, _, _, _, 0, .cons _ b, h => .cons h b
  | _, _, _, _, i + 1, .cons a b, h => .cons a (FzL.set i b h)
theorem FzL.take : ∀ {vs : List V} {ds : List D} (i : Nat), FzL K A H vs ds → FzL K A H (vs.take i) (ds.take i)
  | _, _, 0, _ => by simpa using FzL.nil
  | _, _, _ + 1, .nil => .nil
  | _, _, i + 1, .cons a b => .cons a (FzL.take i b)
theorem FzL.drop : ∀ {vs : List V} {ds : List D} (i : Nat), FzL K A H vs ds → FzL K A H (vs.drop i) (ds.drop i)
  | _, _, 0, h => h
  | _, _, _ + 1, .nil => .nil
  | _, _, i + 1, .cons _ b => FzL.drop i b
theorem FzL.rep {vs : List V} {ds : List D} (h : FzL K A H vs ds) : ∀ k : Nat, FzL K A H (List.replicate k vs).flatten (List.replicate k ds).flatten
  | 0 => .nil
  | k + 1 => by
    rw [List.replicate_succ, List.replicate_succ, List.flatten_cons, List.flatten_cons]
    exact h.append (h.rep k)
theorem FzL.rev {vs : List V} {ds : List D} (h : FzL K A H vs ds) : FzL K A H vs.reverse ds.reverse := by
  induction vs generalizing ds with
  | nil => cases h; exact .nil
  | cons v vs ih =>
    cases h with
    | cons a b =>
      rw [List.reverse_cons, List.reverse_cons]
      exact (ih b).append (.cons a .nil)
end
section
variable {K : Frag} {A : List Addr} {H : Hp} {v : V}
theorem Fz.int_inv {i : Int} (h : Fz K A H v (.int i)) : v = .int i := by cases h; rfl
theorem Fz.bl_inv {i : Bool} (h : Fz K A H v (.bool i)) : v = .bl i := by cases h; rfl
theorem Fz.str_inv {i : Str} (h : Fz K A H v (.str i)) : v = .str i := by cases h; rfl
theorem Fz.non_inv (h : Fz K A H v .none) : v = .non := by cases h; rfl
theorem Fz.lst_inv {ds : List D} (h : Fz K A H v (.list ds)) : ∃ a xs, v = .ref a ∧ NdL A H a xs ∧ FzL K A H xs ds := by cases h; exact ⟨_, _, rfl, by assumption, by assumption⟩
theorem Fz.tup_inv {ds : List D} (h : Fz K A H v (.tuple ds)) : ∃ a xs, v = .ref a ∧ NdT K A H a xs ∧ FzL K A H xs ds := by cases h; exact ⟨_, _, rfl, by assumption, by assumption⟩
end

/-! ### the slots and what they hold -/
def oa (σ : L2.St) (ow : List Nat) : List Addr := ow.filterMap fun (i : Nat) => match (σ[i]? : Option (Option V)) with
  | some (some (.ref a)) => some a
  | _ => none
theorem mem_oa {σ : L2.St} {ow : List Nat} {a : Addr} : a ∈ oa σ ow ↔ ∃ i ∈ ow, σ[i]? = some (some (.ref a)) := by
  unfold oa
  rw [List.mem_filterMap]
  constructor
  · rintro ⟨i, hi, h⟩
    refine ⟨i, hi, ?_⟩
    split at h
    · rename_i b e; rw [e]; cases h; rfl
    · cases h
  · rintro ⟨i, hi, h⟩
    exact ⟨i, hi, by rw [h]⟩

/-- A0: the callers' own lists; ex: lists being made; io: a list handed in that may be changed (slot 0) -/
structure Bd where
  A0 : List Addr
  ex : List Addr
  io : Option Addr
def Bd.base (B : Bd) : List Addr := B.A0 ++ B.ex
def Bd.full (B : Bd) (σ : L2.St) (ow : List Nat) : List Addr := B.base ++ oa σ ow
def Bd.plus (B : Bd) (q : Addr) : Bd := { B with ex := q :: B.ex }

structure Rel (K : Frag) (B : Bd) (H0 : Hp) (ow : List Nat) (σ : L2.St) (H : Hp) (γ : List (Option D)) : Prop where
  len : σ.length = γ.length
  one : ∀ (i j : Nat) (a : Addr), i ∈ ow → j ∈ ow → σ[i]? = some (some (V.ref a)) → σ[j]? = some (some (V.ref a)) → i = j
  fz : ∀ (i : Nat) (d : D), i ∉ ow → γ[i]? = some (some d) → ∃ v, σ[i]? = some (some v) ∧ Fz K (B.full σ ow) H v d
  own : ∀ (i : Nat) (d : D), i ∈ ow → γ[i]? = some (some d) → ∃ a vs ds, σ[i]? = some (some (V.ref a)) ∧ d = .list ds ∧ (H a = some (.lst vs) ∧ vs.length ≤ szN) ∧ FzL K (B.full σ ow) H vs ds
  trk : ∀ a ∈ oa σ ow, ∃ xs, H a = some (.lst xs)
  fr : Fr B.io.toList H0 H
  new : ∀ a ∈ oa σ ow, H0 a = none ∨ a ∈ B.io.toList
  a0 : ∀ a ∈ B.A0, H0 a ≠ none ∧ a ∉ B.io.toList
  xt : ∀ a ∈ B.ex, H a ≠ none ∧ a ∉ oa σ ow
  io : ∀ p, B.io = some p → 0 ∈ ow ∧ σ[0]? = some (some (V.ref p))
section
variable {K : Frag} {B : Bd} {H0 H H' : Hp} {ow : List Nat} {σ : L2.St} {γ : List (Option D)}
theorem Rel.base_trk (r : Rel K B H0 ow σ H γ) : ∀ a ∈ B.base, H a ≠ none := fun a h => by
  rcases List.mem_append.mp h with h | h
  · obtain ⟨n, m⟩ := r.a0 a h
    cases e : H0 a with
    | none => exact absurd e n
    | some o => rw [r.fr a o e m]; simp
  · exact (r.xt a h).1
theorem Rel.tracked (r : Rel K B H0 ow σ H γ) : ∀ a ∈ B.full σ ow, H a ≠ none := fun a h => by
  rcases List.mem_append.mp h with h | h
  · exact r.base_trk a h
  · obtain ⟨xs, e⟩ := r.trk a h
    rw [e]; simp
theorem Rel.apart (r : Rel K B H0 ow σ H γ) : ∀ a ∈ oa σ ow, a ∉ B.base := fun a h q => by
  rcases List.mem_append.mp q with q | q
  · obtain ⟨n1, n2⟩ := r.a0 a q
    rcases r.new a h with n | n
    · exact n1 n
    · exact n2 n
  · exact (r.xt a q).2 h
/-- the heap grows -/
theorem Rel.grow (r : Rel K B H0 ow σ H γ) (f : Fr [] H H') : Rel K B H0 ow σ H' γ :=
  ⟨r.len, r.one, fun i d a b => let ⟨v, e, z⟩ := r.fz i d a b; ⟨v, e, z.fr f.nil⟩, fun i d a b => let ⟨x, vs, ds, e1, e2, e3, e4⟩ := r.own i d a b; ⟨x, vs, ds, e1, e2, ⟨f _ _ e3.1 (by simp), e3.2⟩, e4.fr f.nil⟩,
    fun a h => let ⟨xs, e⟩ := r.trk a h; ⟨xs, f _ _ e (by simp)⟩, r.fr.trans f.nil, r.new, r.a0, fun a h => ⟨f.some (r.xt a h).1, (r.xt a h).2⟩, r.io⟩
/-- some slots are forgotten -/
theorem Rel.weak {γ' : List (Option D)} (r : Rel K B H0 ow σ H γ) (hl : γ'.length = γ.length) (h : ∀ (i : Nat) (d : D), γ'[i]? = some (some d) → γ[i]? = some (some d)) : Rel K B H0 ow σ H γ' :=
  ⟨by rw [hl]; exact r.len, r.one, fun i d a b => r.fz i d a (h i d b), fun i d a b => r.own i d a (h i d b), r.trk, r.fr, r.new, r.a0, r.xt, r.io⟩
/-- a list is being made at q -/
theorem Rel.plus {q : Addr} (r : Rel K B H0 ow σ H γ) (hq : H q = none) {o : HO} : Rel K (B.plus q) H0 ow σ (upd H q o) γ := by
  have hs : ∀ x ∈ (B.plus q).full σ ow, x ∈ q :: B.full σ ow := fun x hx => by
    simp only [Bd.full, Bd.base, Bd.plus, List.mem_append, List.mem_cons] at hx ⊢
    rcases hx with (h | h | h) | h
    · exact .inr (.inl (.inl h))
    · exact .inl h
    · exact .inr (.inl (.inr h))
    · exact .inr (.inr h)
  have nq : ∀ a, H a ≠ none → a ≠ q := fun a h e => h (by rw [e]; exact hq)
  refine ⟨r.len, r.one, fun i d a b => ?_, fun i d a b => ?_, fun a h => ?_, r.fr.trans (Fr.new hq), r.new, r.a0, fun a h => ?_, r.io⟩
  · obtain ⟨v, e, z⟩ := r.fz i d a b
    exact ⟨v, e, ((z.more hq).sub hs).fr (Fr.new hq)⟩
  · obtain ⟨x, vs, ds, e1, e2, e3, e4⟩ := r.own i d a b
    exact ⟨x, vs, ds, e1, e2, ⟨by rw [upd_ne (nq x (by rw [e3.1]; simp))]; exact e3.1, e3.2⟩, ((e4.more hq).sub hs).fr (Fr.new hq)⟩
  · obtain ⟨xs, e⟩ := r.trk a h
    exact ⟨xs, by rw [upd_ne (nq a (by rw [e]; simp))]; exact e⟩
  · rcases List.mem_cons.mp h with e | h
    · subst e
      refine ⟨by rw [upd_same]; simp, fun z => ?_⟩
      obtain ⟨xs, e⟩ := r.trk a z
      rw [hq] at e; cases e
    · obtain ⟨n, m⟩ := r.xt a h
      exact ⟨by rw [upd_ne (nq a n)]; exact n, m⟩
theorem full_plus {q : Addr} : ∀ x ∈ B.full σ ow, x ∈ (B.plus q).full σ ow := fun x hx => by
  simp only [Bd.full, Bd.base, Bd.plus, List.mem_append, List.mem_cons] at hx ⊢
  rcases hx with (h | h) | h
  · exact .inl (.inl h)
  · exact .inl (.inr (.inr h))
  · exact .inr h
theorem Rel.unplus {q : Addr} (r : Rel K (B.plus q) H0 ow σ H γ) : Rel K B H0 ow σ H γ :=
  ⟨r.len, r.one, fun i d a b => let ⟨v, e, z⟩ := r.fz i d a b; ⟨v, e, z.sub full_plus⟩, fun i d a b => let ⟨x, vs, ds, e1, e2, e3, e4⟩ := r.own i d a b; ⟨x, vs, ds, e1, e2, e3, e4.sub full_plus⟩,
    r.trk, r.fr, r.new, r.a0, fun a h => r.xt a (List.mem_cons_of_mem _ h), r.io⟩
/-- a list being made is written -/
theorem Rel.writeEx {q : Addr} {o : HO} (r : Rel K B H0 ow σ H γ) (hq : q ∈ B.ex) (hn : q ∉ B.io.toList) (h0 : H0 q = none) : Rel K B H0 ow σ (upd H q o) γ := by
  have nq : ∀ a, a ∈ oa σ ow → a ≠ q := fun a h e => (r.xt q hq).2 (e ▸ h)
  have hf : q ∈ B.full σ ow := List.mem_append_left _ (List.mem_append_right _ hq)
  refine ⟨r.len, r.one, fun i d a b => ?_, fun i d a b => ?_, fun a h => ?_, fun b o' e n => ?_, r.new, r.a0, fun a h => ?_, r.io⟩
  · obtain ⟨v, e, z⟩ := r.fz i d a b
    exact ⟨v, e, z.fr (Fr.at hf)⟩
  · obtain ⟨x, vs, ds, e1, e2, e3, e4⟩ := r.own i d a b
    exact ⟨x, vs, ds, e1, e2, ⟨by rw [upd_ne (nq x (mem_oa.mpr ⟨i, a, e1⟩))]; exact e3.1, e3.2⟩, e4.fr (Fr.at hf)⟩
  · obtain ⟨xs, e⟩ := r.trk a h
    exact ⟨xs, by rw [upd_ne (nq a h)]; exact e⟩
  · rw [upd_ne (fun z => by rw [z, h0] at e; cases e)]
    exact r.fr b o' e n
  · refine ⟨?_, (r.xt a h).2⟩
    by_cases e : a = q
    · rw [e, upd_same]; simp
    · rw [upd_ne e]; exact (r.xt a h).1
end
/-- γ' is γ with some slots forgotten -/
inductive Wk : List (Option D) → List (Option D) → Prop
  | nil : Wk [] []
  | k {d : Option D} {γ' γ : List (Option D)} : Wk γ' γ → Wk (d :: γ') (d :: γ)
  | f {d : Option D} {γ' γ : List (Option D)} : Wk γ' γ → Wk (none :: γ') (d :: γ)
theorem Wk.len : ∀ {γ' γ : List (Option D)}, Wk γ' γ → γ'.length = γ.length
  | _, _, .nil => rfl
  | _, _, .k h => by simp [h.len]
  | _, _, .f h => by simp [h.len]
theorem Wk.at : ∀ {γ' γ : List (Option D)}, Wk γ' γ → ∀ (i : Nat) (d : D), γ'[i]? = some (some d) → γ[i]? = some (some d)
  | _, _, .nil, _, _, h => h
  | _, _, .k h, 0, _, e => e
  | _, _, .k h, i + 1, d, e => by simpa using h.at i d (by simpa using e)
  | _, _, .f h, 0, _, e => by simp at e
  | _, _, .f h, i + 1, d, e => by simpa using h.at i d (by simpa using e)
theorem Rel.wk {K : Frag} {B : Bd} {H0 H : Hp} {ow : List Nat} {σ : L2.St} {γ γ' : List (Option D)} (r : Rel K B H0 ow σ H γ) (h : Wk γ' γ) : Rel K B H0 ow σ H γ' := r.weak h.len h.at
end Y
namespace Y
open PySem PySem.Spec L2

/-! ### codecs -/
@[reducible] def cI : Int → D := .int
@[reducible] def cB : Bool → D := .bool
@[reducible] def cS : Str → D := .str
@[reducible] def cN : Unit → D := fun _ => .none
@[reducible] def cD : D → D := fun d => d
@[reducible] def cT {α : Type} (c : α → D) : List α → D := fun xs => .tuple (xs.map c)
@[reducible] def cL {α : Type} (c : α → D) : List α → D := fun xs => .list (xs.map c)
@[reducible] def c0 : Unit → D := fun _ => .tuple []
@[reducible] def c1 {α : Type} (a : α → D) : α → D := fun p => .tuple [a p]
@[reducible] def c2 {α β : Type} (a : α → D) (b : β → D) : α × β → D := fun p => .tuple [a p.1, b p.2]
@[reducible] def c3 {α β γ : Type} (a : α → D) (b : β → D) (c : γ → D) : α × β × γ → D := fun p => .tuple [a p.1, b p.2.1, c p.2.2]
@[reducible] def c4 {α β γ δ : Type} (a : α → D) (b : β → D) (c : γ → D) (d : δ → D) : α × β × γ × δ → D := fun p => .tuple [a p.1, b p.2.1, c p.2.2.1, d p.2.2.2]
def cO {α : Type} (c : α → D) : Option α → D
  | .none => .none
  | .some x => c x
/-- arguments -/
@[reducible] def an : Unit → List D := fun _ => []
@[reducible] def ac {α β : Type} (a : α → D) (b : β → List D) : α × β → List D := fun p => a p.1 :: b p.2

/-! ### judgements -/
section
variable {E α β γ : Type}
def tS (K : Frag) (B : Bd) (ow : List Nat) (Γ : E → List (Option D)) (p s : Bool) (c : α → D) (G : E → Prop) (d : E → α) (u : E → E) : TE := fun σ H Q =>
  ∃ H0 ε, Rel K B H0 ow σ H (Γ ε) ∧ G ε ∧ ∀ v H', Fr (cond p [] (oa σ ow)) H H' → Rel K B H0 ow σ H' (Γ (u ε)) → Fz K (cond s (B.full σ ow) B.base) H' v (c (d ε)) → Q v H'
def tAs (K : Frag) (B : Bd) (ow : List Nat) (Γ : E → List (Option D)) (p s : Bool) (c : α → List D) (G : E → Prop) (d : E → α) (u : E → E) : TA := fun σ H Q =>
  ∃ H0 ε, Rel K B H0 ow σ H (Γ ε) ∧ G ε ∧ ∀ v H', Fr (cond p [] (oa σ ow)) H H' → Rel K B H0 ow σ H' (Γ (u ε)) → FzL K (cond s (B.full σ ow) B.base) H' v (c (d ε)) → Q v H'
def tTs (K : Frag) (B : Bd) (ow : List Nat) (Γ : E → List (Option D)) (p : Bool) (G : E → Prop) (d : E → Bool) (u : E → E) : TT := fun σ H Q =>
  ∃ H0 ε, Rel K B H0 ow σ H (Γ ε) ∧ G ε ∧ ∀ H', Fr (cond p [] (oa σ ow)) H H' → Rel K B H0 ow σ H' (Γ (u ε)) → Q (d ε) H'
structure De (X : Cx) (B : Bd) (ow : List Nat) (Γ : E → List (Option D)) (p s : Bool) (e : Expr) (c : α → D) (G : E → Prop) (d : E → α) (u : E → E) : Prop where
  pe : PE X e (tS X.K B ow Γ p s c G d u)
structure DA (X : Cx) (B : Bd) (ow : List Nat) (Γ : E → List (Option D)) (p s : Bool) (es : List Expr) (c : α → List D) (G : E → Prop) (d : E → α) (u : E → E) : Prop where
  pa : PA X es (tAs X.K B ow Γ p s c G d u)
structure Dt (X : Cx) (B : Bd) (ow : List Nat) (Γ : E → List (Option D)) (p : Bool) (e : Expr) (G : E → Prop) (d : E → Bool) (u : E → E) : Prop where
  pt : PT X e (tTs X.K B ow Γ p G d u)
structure Dw (X : Cx) (B : Bd) (ow : List Nat) (Γ : E → List (Option D)) (p : Bool) (e : Expr) (G : E → Prop) (d : E → Bool) (u : E → E) : Prop where
  pw : PW X e (tTs X.K B ow Γ p G d u)
end
theorem _root_.L2.PE.weaken {X : Cx} {e : Expr} {t t' : TE} (h : PE X e t) (w : ∀ σ H Q, t' σ H Q → t σ H Q) : PE X e t' := ⟨fun pins s σ H Q I q => h.run pins s σ H Q I (w σ H Q q)⟩
theorem _root_.L2.PT.weaken {X : Cx} {e : Expr} {t t' : TT} (h : PT X e t) (w : ∀ σ H Q, t' σ H Q → t σ H Q) : PT X e t' := ⟨fun pins s σ H Q I q => h.run pins s σ H Q I (w σ H Q q)⟩
theorem _root_.L2.PW.weaken {X : Cx} {e : Expr} {t t' : TT} (h : PW X e t) (w : ∀ σ H Q, t' σ H Q → t σ H Q) : PW X e t' := ⟨fun wh pins s σ H Q I q => h.run wh pins s σ H Q I (w σ H Q q)⟩
theorem _root_.L2.PA.weaken {X : Cx} {e : List Expr} {t t' : TA} (h : PA X e t) (w : ∀ σ H Q, t' σ H Q → t σ H Q) : PA X e t' := ⟨fun po pins s σ H Q I q => h.run po pins s σ H Q I (w σ H Q q)⟩
theorem _root_.L2.PS.weaken {X : Cx} {e : Stmt} {t t' : TS} (h : PS X e t) (w : ∀ D σ H, t' D σ H → t D σ H) : PS X e t' := ⟨fun pins s σ H D I q => h.run pins s σ H D I (w D σ H q)⟩
theorem _root_.L2.PSs.weaken {X : Cx} {e : List Stmt} {t t' : TS} (h : PSs X e t) (w : ∀ D σ H, t' D σ H → t D σ H) : PSs X e t' := ⟨fun pins s σ H D I q => h.run pins s σ H D I (w D σ H q)⟩

/-! ### operations on values -/
def Tr (A : List Addr) (H : Hp) : Prop := ∀ a ∈ A, H a ≠ none
theorem Tr.fr {A : List Addr} {H H' : Hp} (t : Tr A H) (f : Fr [] H H') : Tr A H' := fun a h => by
  cases e : H a with
  | none => exact absurd e (t a h)
  | some o => rw [f a o e (by simp)]; simp
theorem Tr.new {A : List Addr} {H : Hp} {p : Addr} (t : Tr A H) (h : H p = none) : p ∉ A := fun q => t p q h
section
variable {α β γ : Type}
def Op2 (K : Frag) (r : R2) (ca : α → D) (cb : β → D) (c : γ → D) (C : α → β → Prop) (f : α → β → γ) : Prop :=
  ∀ (A : List Addr) (H : Hp) (x : α) (y : β) (v w : V) (Q : VK), Tr A H → Fz K A H v (ca x) → Fz K A H w (cb y) → C x y → (∀ z H', Fr [] H H' → Fz K A H' z (c (f x y)) → Q z H') → r v w H Q
def Op1 (K : Frag) (r : V → Hp → VK → Prop) (ca : α → D) (c : γ → D) (C : α → Prop) (f : α → γ) : Prop :=
  ∀ (A : List Addr) (H : Hp) (x : α) (v : V) (Q : VK), Tr A H → Fz K A H v (ca x) → C x → (∀ z H', Fr [] H H' → Fz K A H' z (c (f x)) → Q z H') → r v H Q
def OpL (K : Frag) (r : List V → Hp → VK → Prop) (ca : α → List D) (c : γ → D) (C : α → Prop) (f : α → γ) : Prop :=
  ∀ (A : List Addr) (H : Hp) (x : α) (v : List V) (Q : VK), Tr A H → FzL K A H v (ca x) → C x → (∀ z H', Fr [] H H' → Fz K A H' z (c (f x)) → Q z H') → r v H Q
end

section
variable {X : Cx} {B : Bd} {ow : List Nat} {E α β γ : Type} {Γ : E → List (Option D)} {p p1 p2 s : Bool} {e e1 e2 e3 : Expr} {pos : Pos} {c : α → D} {ca : α → D} {cb : β → D} {cc : γ → D} {G G1 G2 : E → Prop} {d : E → α} {d1 : E → α} {d2 : E → β} {u u1 u2 : E → E}

theorem cond_fr {A : List Addr} {H H' : Hp} (h : Fr (cond p1 [] A) H H') (b : Bool) : Fr (cond (p1 && b) [] A) H H' := by
  cases p1 with
  | true => cases b with
    | true => exact h
    | false => exact Fr.nil h
  | false => exact h
theorem cond_fr2 {A : List Addr} {H H' : Hp} (h : Fr (cond p2 [] A) H H') (b : Bool) : Fr (cond (b && p2) [] A) H H' := by
  rw [Bool.and_comm]; exact cond_fr h b
theorem cond_fz {K : Frag} {A A0 O : List Addr} {H H' : Hp} {v : V} {x : D} (hO : ∀ a ∈ O, a ∈ A) (hs : (s || p2) = true) (f : Fr (cond p2 [] O) H H') (h : Fz K (cond s A A0) H v x) : Fz K (cond s A A0) H' v x := by
  cases p2 with
  | true => exact h.fr (Fr.nil f)
  | false => cases s with
    | true => exact h.fr (f.mono hO)
    | false => cases hs
theorem cond_fzl {K : Frag} {A A0 O : List Addr} {H H' : Hp} {v : List V} {x : List D} (hO : ∀ a ∈ O, a ∈ A) (hs : (s || p2) = true) (f : Fr (cond p2 [] O) H H') (h : FzL K (cond s A A0) H v x) : FzL K (cond s A A0) H' v x := by
  cases p2 with
  | true => exact h.fr (Fr.nil f)
  | false => cases s with
    | true => exact h.fr (f.mono hO)
    | false => cases hs
theorem Rel.tr {K : Frag} {H0 H : Hp} {σ : L2.St} {γ : List (Option D)} (r : Rel K B H0 ow σ H γ) (s : Bool) : Tr (cond s (B.full σ ow) B.base) H := fun a h => by
  cases s with
  | true => exact r.tracked a h
  | false => exact r.base_trk a h

/-- a value is known for less -/
theorem De.wk (h : De X B ow Γ p true e c G d u) : De X B ow Γ p false e c G d u := ⟨h.pe.weaken fun σ H Q ⟨H0, ε, r, g, k⟩ => ⟨H0, ε, r, g, fun v H' f r' z => k v H' f r' (z.sub fun a h => List.mem_append_left _ h)⟩⟩
theorem DA.wk {ca : α → List D} {es : List Expr} (h : DA X B ow Γ p true es ca G d u) : DA X B ow Γ p false es ca G d u := ⟨h.pa.weaken fun σ H Q ⟨H0, ε, r, g, k⟩ => ⟨H0, ε, r, g, fun v H' f r' z => k v H' f r' (z.sub fun a h => List.mem_append_left _ h)⟩⟩
/-- data without lists are known for all -/
theorem De.up (hl : ∀ x, lf (c x) = true) (h : De X B ow Γ p false e c G d u) : De X B ow Γ p true e c G d u := ⟨h.pe.weaken fun σ H Q ⟨H0, ε, r, g, k⟩ => ⟨H0, ε, r, g, fun v H' f r' z => k v H' f r' (z.up r'.trk (hl _))⟩⟩
/-- the guard is strengthened, the value told otherwise -/
theorem De.is {d' : E → α} {G' : E → Prop} (h : De X B ow Γ p s e c G d u) (hg : ∀ ε, G' ε → G ε) (hd : ∀ ε, G' ε → d ε = d' ε) : De X B ow Γ p s e c G' d' u :=
  ⟨h.pe.weaken fun σ H Q ⟨H0, ε, r, g, k⟩ => ⟨H0, ε, r, hg ε g, fun v H' f r' z => k v H' f r' (by rw [← hd ε g]; exact z)⟩⟩
/-- another codec -/
theorem De.as {α' : Type} {c' : α' → D} {g : α → α'} (hc : ∀ x, c x = c' (g x)) (h : De X B ow Γ p s e c G d u) : De X B ow Γ p s e c' G (fun ε => g (d ε)) u :=
  ⟨h.pe.weaken fun σ H Q ⟨H0, ε, r, gg, k⟩ => ⟨H0, ε, r, gg, fun v H' f r' z => k v H' f r' (by show Fz _ _ _ _ (c' (g (d ε))); rw [← hc]; exact z)⟩⟩

/-! ### names and constants -/
theorem d_var (i : Nat) {x : Str} (g : E → α) (c : α → D) (h : ∀ ε, (Γ ε)[i]? = some (some (c (g ε)))) (ho : i ∉ ow := by decide) (hN : X.N[i]? = some x := by rfl)
    (hv : Vis X.env.scope x := by first | exact Or.inl rfl | exact Or.inr (Or.inl rfl) | exact Or.inr (Or.inr rfl)) (hd : (x == ("__debug__" : Str)) = false := by decide)
    (hcd : (x == ("__classdict__" : Str)) = false := by decide) : De X B ow Γ true true (.Name x pos) c (fun _ => True) g (fun ε => ε) :=
  ⟨(pe_var hN hv hd hcd).weaken fun σ H Q ⟨H0, ε, r, _, k⟩ => by
    obtain ⟨v, e, z⟩ := r.fz i _ ho (h ε)
    exact ⟨v, e, k v H (Fr.refl _ _) r z⟩⟩
/-- a list of one's own, read -/
theorem d_own (i : Nat) {x : Str} (g : E → α) (c : α → D) (h : ∀ ε, (Γ ε)[i]? = some (some (c (g ε)))) (ho : i ∈ ow := by decide) (hN : X.N[i]? = some x := by rfl)
    (hv : Vis X.env.scope x := by first | exact Or.inl rfl | exact Or.inr (Or.inl rfl) | exact Or.inr (Or.inr rfl)) (hd : (x == ("__debug__" : Str)) = false := by decide)
    (hcd : (x == ("__classdict__" : Str)) = false := by decide) : De X B ow Γ true false (.Name x pos) c (fun _ => True) g (fun ε => ε) :=
  ⟨(pe_var hN hv hd hcd).weaken fun σ H Q ⟨H0, ε, r, _, k⟩ => by
    obtain ⟨a, vs, ds, e, ed, hl, z⟩ := r.own i _ ho (h ε)
    refine ⟨_, e, k _ H (Fr.refl _ _) r ?_⟩
    rw [ed]
    exact .lst ⟨⟨r.apart a (mem_oa.mpr ⟨i, ho, e⟩), hl.1⟩, hl.2⟩ (z.sub fun b q => List.mem_append_left _ q)⟩
theorem d_int {i j} : De X B ow Γ true true (.Constant (.int i) j pos) cI (fun _ => True) (fun _ => i) (fun ε => ε) := ⟨pe_int.weaken fun σ H Q ⟨_, ε, r, _, k⟩ => k _ H (Fr.refl _ _) r (.int i)⟩
theorem d_bl {b j} : De X B ow Γ true true (.Constant (.bool b) j pos) cB (fun _ => True) (fun _ => b) (fun ε => ε) := ⟨pe_bl.weaken fun σ H Q ⟨_, ε, r, _, k⟩ => k _ H (Fr.refl _ _) r (.bl b)⟩
theorem d_str {x j} : De X B ow Γ true true (.Constant (.str x) j pos) cS (fun _ => True) (fun _ => x) (fun ε => ε) := ⟨pe_str.weaken fun σ H Q ⟨_, ε, r, _, k⟩ => k _ H (Fr.refl _ _) r (.str x)⟩
theorem d_non {j} : De X B ow Γ true true (.Constant .none j pos) cN (fun _ => True) (fun _ => ()) (fun ε => ε) := ⟨pe_non.weaken fun σ H Q ⟨_, ε, r, _, k⟩ => k _ H (Fr.refl _ _) r .non⟩
/-- a constant of the module: k says what it is -/
theorem d_glob {x : Str} {v : V} {w : Value} {c : α → D} {a : α} (hm : X.mg x = some w) (r : RelV v w) (k : ∀ A H, Fz X.K A H v (c a)) (hg : Gl X x := by rfl) (hd : (x == ("__debug__" : Str)) = false := by decide) :
    De X B ow Γ true true (.Name x pos) c (fun _ => True) (fun _ => a) (fun ε => ε) := ⟨(pe_glob hg hm r hd).weaken fun σ H Q ⟨_, ε, r, _, q⟩ => q _ H (Fr.refl _ _) r (k _ _)⟩

/-! ### two operands -/
theorem tOp_of {K : Frag} {r : R2} {C : α → β → Prop} {f : α → β → γ} (hv : Op2 K r ca cb cc C f) (hs : (s || p2) = true) {σ : L2.St} {H : Hp} {Q : VK}
    (h : tS K B ow Γ (p1 && p2) s cc (fun ε => G1 ε ∧ G2 (u1 ε) ∧ C (d1 ε) (d2 (u1 ε))) (fun ε => f (d1 ε) (d2 (u1 ε))) (fun ε => u2 (u1 ε)) σ H Q) :
    tOp r (tS K B ow Γ p1 s ca G1 d1 u1) (tS K B ow Γ p2 s cb G2 d2 u2) σ H Q := by
  obtain ⟨H0, ε, rl, ⟨g1, g2, g3⟩, k⟩ := h
  refine ⟨H0, ε, rl, g1, fun v H1 f1 r1 z1 => ⟨H0, u1 ε, r1, g2, fun w H2 f2 r2 z2 => ?_⟩⟩
  exact hv _ H2 _ _ v w Q (r2.tr s) (cond_fz (fun a h => List.mem_append_right _ h) hs f2 z1) z2 g3 fun z H3 f3 z3 => k z H3 (((cond_fr f1 p2).trans (cond_fr2 f2 p1)).trans f3.nil) (r2.grow f3) z3
theorem d_op {op : Operator} {r : R2} {C : α → β → Prop} {f : α → β → γ} (ho : OpR X (binaryOp op) r) (hv : Op2 X.K r ca cb cc C f) (h1 : De X B ow Γ p1 s e1 ca G1 d1 u1) (h2 : De X B ow Γ p2 s e2 cb G2 d2 u2) (hs : (s || p2) = true := by rfl) :
    De X B ow Γ (p1 && p2) s (.BinOp e1 op e2 pos) cc (fun ε => G1 ε ∧ G2 (u1 ε) ∧ C (d1 ε) (d2 (u1 ε))) (fun ε => f (d1 ε) (d2 (u1 ε))) (fun ε => u2 (u1 ε)) :=
  ⟨(pe_op ho h1.pe h2.pe).weaken fun _ _ _ h => tOp_of hv hs h⟩
theorem d_cmp {op : CmpOp} {r : R2} {C : α → β → Prop} {f : α → β → γ} (ho : OpR X (compareOp op) r) (hv : Op2 X.K r ca cb cc C f) (h1 : De X B ow Γ p1 s e1 ca G1 d1 u1) (h2 : De X B ow Γ p2 s e2 cb G2 d2 u2) (hm : behindInMarks op e2 = false) (hs : (s || p2) = true := by rfl) :
    De X B ow Γ (p1 && p2) s (.Compare e1 [op] [e2] pos) cc (fun ε => G1 ε ∧ G2 (u1 ε) ∧ C (d1 ε) (d2 (u1 ε))) (fun ε => f (d1 ε) (d2 (u1 ε))) (fun ε => u2 (u1 ε)) :=
  ⟨(pe_cmpR ho h1.pe h2.pe hm).weaken fun _ _ _ h => tOp_of hv hs h⟩
theorem t_cmp {op : CmpOp} {r : R2} {C : α → β → Prop} {f : α → β → Bool} (ho : OpR X (compareOp op) r) (hv : Op2 X.K r ca cb cB C f) (h1 : De X B ow Γ p1 s e1 ca G1 d1 u1) (h2 : De X B ow Γ p2 s e2 cb G2 d2 u2) (hm : behindInMarks op e2 = false) (hs : (s || p2) = true := by rfl) :
    Dt X B ow Γ (p1 && p2) (.Compare e1 [op] [e2] pos) (fun ε => G1 ε ∧ G2 (u1 ε) ∧ C (d1 ε) (d2 (u1 ε))) (fun ε => f (d1 ε) (d2 (u1 ε))) (fun ε => u2 (u1 ε)) :=
  ⟨(pt_cmpR ho h1.pe h2.pe hm).weaken fun σ H Q ⟨H0, ε, rl, g, k⟩ => tOp_of (cc := cB) hv hs ⟨H0, ε, rl, g, fun v H' f r' z => ⟨_, z.bl_inv, k H' f r'⟩⟩⟩
theorem d_ix {r : R2} {C : α → β → Prop} {f : α → β → γ} (ho : IxR X r) (hv : Op2 X.K r ca cb cc C f) (h1 : De X B ow Γ p1 s e1 ca G1 d1 u1) (h2 : De X B ow Γ p2 s e2 cb G2 d2 u2) (hx : PlainIx e2 := by exact fun _ _ => rfl) (hs : (s || p2) = true := by rfl) :
    De X B ow Γ (p1 && p2) s (.Subscript e1 e2 pos) cc (fun ε => G1 ε ∧ G2 (u1 ε) ∧ C (d1 ε) (d2 (u1 ε))) (fun ε => f (d1 ε) (d2 (u1 ε))) (fun ε => u2 (u1 ε)) :=
  ⟨(pe_ix ho h1.pe h2.pe hx).weaken fun _ _ _ h => tOp_of hv hs h⟩
theorem d_un {op : UnaryOp} {r : V → Hp → VK → Prop} {C : α → Prop} {f : α → γ} (ho : UnR X (unaryOp op) r) (hv : Op1 X.K r ca cc C f) (h1 : De X B ow Γ p1 s e1 ca G1 d1 u1) :
    De X B ow Γ p1 s (.UnaryOp op e1 pos) cc (fun ε => G1 ε ∧ C (d1 ε)) (fun ε => f (d1 ε)) u1 :=
  ⟨(pe_un ho h1.pe).weaken fun σ H Q ⟨H0, ε, rl, ⟨g1, g2⟩, k⟩ => ⟨H0, ε, rl, g1, fun v H1 f1 r1 z1 => hv _ H1 _ v Q (r1.tr s) z1 g2 fun z H3 f3 z3 => k z H3 (f1.trans f3.nil) (r1.grow f3) z3⟩⟩

/-! ### argument lists -/
theorem a_nil : DA X B ow Γ true s [] an (fun _ => True) (fun _ => ()) (fun ε => ε) := ⟨pa_nil.weaken fun σ H Q ⟨_, ε, r, _, k⟩ => k _ H (Fr.refl _ _) r .nil⟩
theorem a_cons {es : List Expr} {cb : β → List D} (h1 : De X B ow Γ p1 s e1 ca G1 d1 u1) (h2 : DA X B ow Γ p2 s es cb G2 d2 u2) (hs : (s || p2) = true := by rfl) (hst : starEach (e1 :: es) X.env = (false, eval e1 X.env) :: starEach es X.env := by rfl) :
    DA X B ow Γ (p1 && p2) s (e1 :: es) (ac ca cb) (fun ε => G1 ε ∧ G2 (u1 ε)) (fun ε => (d1 ε, d2 (u1 ε))) (fun ε => u2 (u1 ε)) :=
  ⟨(pa_cons h1.pe h2.pa hst).weaken fun σ H Q ⟨H0, ε, rl, ⟨g1, g2⟩, k⟩ => ⟨H0, ε, rl, g1, fun v H1 f1 r1 z1 => ⟨H0, u1 ε, r1, g2, fun w H2 f2 r2 z2 => k _ H2 ((cond_fr f1 p2).trans (cond_fr2 f2 p1)) r2 (.cons (cond_fz (fun a h => List.mem_append_right _ h) hs f2 z1) z2)⟩⟩⟩
/-- a tuple, a list of written items -/
theorem d_tup {es : List Expr} {cs : α → List D} {x1} {ct : α → D} (hc : ∀ x, ct x = .tuple (cs x)) (hl : ∀ x, (cs x).length ≤ 1000) (h : DA X B ow Γ p s es cs G d u) : De X B ow Γ p s (.Tuple es x1 pos) ct G d u :=
  ⟨(pe_tup h.pa).weaken fun σ H Q ⟨H0, ε, rl, g, k⟩ => ⟨H0, ε, rl, g, fun vs H1 f1 r1 z1 => ⟨by rw [z1.length]; exact Nat.le_trans (hl _) (by decide), fun q hq => k _ _ (f1.trans (Fr.new hq)) (r1.grow (Fr.new hq)) (by
    rw [hc]
    exact .tup (.inl ⟨(r1.tr s).new hq, upd_same, by rw [z1.length]; exact Nat.le_trans (hl _) (by decide)⟩) (z1.fr (Fr.new hq)))⟩⟩⟩
theorem d_lst {es : List Expr} {cs : α → List D} {ct : α → D} (hc : ∀ x, ct x = .list (cs x)) (hl : ∀ x, (cs x).length ≤ 1000) (h : DA X B ow Γ p s es cs G d u) : De X B ow Γ p s (.List es pos) ct G d u :=
  ⟨(pe_lst h.pa).weaken fun σ H Q ⟨H0, ε, rl, g, k⟩ => ⟨H0, ε, rl, g, fun vs H1 f1 r1 z1 => ⟨by rw [z1.length]; exact Nat.le_trans (hl _) (by decide), fun q hq => k _ _ (f1.trans (Fr.new hq)) (r1.grow (Fr.new hq)) (by
    rw [hc]
    exact .lst ⟨⟨(r1.tr s).new hq, upd_same⟩, by rw [z1.length]; exact Nat.le_trans (hl _) (by decide)⟩ (z1.fr (Fr.new hq)))⟩⟩⟩
/-- a built-in called -/
theorem d_blt {x : Str} {id : String} {es : List Expr} {ca : α → List D} {r : List V → Hp → VK → Prop} {C : α → Prop} {f : α → γ} {px : Pos} (ho : CallR X (.builtin id) r) (hv : OpL X.K r ca cc C f) (hm : X.mg x = none) (hb : bootBuiltins x = some (.builtin id)) (h : DA X B ow Γ p s (e1 :: es) ca G d u)
    (hg : Gl X x := by rfl) (hn : x ≠ "__name__" := by decide) (hdb : (x == ("__debug__" : Str)) = false := by decide) (he : starEach (e1 :: es) X.env = (false, eval e1 X.env) :: starEach es X.env := by rfl) (hpl : (backTo pos (starEach es X.env)).any (·.1) = false := by rfl) :
    De X B ow Γ p s (.Call (.Name x px) (e1 :: es) [] pos) cc (fun ε => G ε ∧ C (d ε)) (fun ε => f (d ε)) u :=
  ⟨(pe_callB ho hg hm hb h.pa hn hdb he hpl).weaken fun σ H Q ⟨H0, ε, rl, ⟨g1, g2⟩, k⟩ => ⟨H0, ε, rl, g1, fun v H1 f1 r1 z1 => hv _ H1 _ v Q (r1.tr s) z1 g2 fun z H3 f3 z3 => k z H3 (f1.trans f3.nil) (r1.grow f3) z3⟩⟩
theorem d_ty {x : Str} {T : String} {es : List Expr} {ca : α → List D} {r : List V → Hp → VK → Prop} {C : α → Prop} {f : α → γ} {px : Pos} (ho : CallR X (.type T) r) (hv : OpL X.K r ca cc C f) (hm : X.mg x = none) (hb : bootBuiltins x = some (.type T)) (h : DA X B ow Γ p s (e1 :: es) ca G d u)
    (hg : Gl X x := by rfl) (hn : x ≠ "__name__" := by decide) (hdb : (x == ("__debug__" : Str)) = false := by decide) (he : starEach (e1 :: es) X.env = (false, eval e1 X.env) :: starEach es X.env := by rfl) (hpl : (backTo pos (starEach es X.env)).any (·.1) = false := by rfl) :
    De X B ow Γ p s (.Call (.Name x px) (e1 :: es) [] pos) cc (fun ε => G ε ∧ C (d ε)) (fun ε => f (d ε)) u :=
  ⟨(pe_callTy ho hg hm hb h.pa hn hdb he hpl).weaken fun σ H Q ⟨H0, ε, rl, ⟨g1, g2⟩, k⟩ => ⟨H0, ε, rl, g1, fun v H1 f1 r1 z1 => hv _ H1 _ v Q (r1.tr s) z1 g2 fun z H3 f3 z3 => k z H3 (f1.trans f3.nil) (r1.grow f3) z3⟩⟩

/-! ### tests -/
variable {t t1 t2 : E → Bool}
theorem t_val (h : De X B ow Γ p s e cB G t u) (he : ∀ whole, isTrue e X.env whole = (do let v ← whole; standAt e.pos; holding [v] (truthy v)) := by intro _; rfl) : Dt X B ow Γ p e G t u :=
  ⟨(pt_val h.pe he).weaken fun σ H Q ⟨H0, ε, rl, g, k⟩ => ⟨H0, ε, rl, g, fun v H1 f1 r1 z1 => ⟨_, z1.bl_inv, k H1 f1 r1⟩⟩⟩
theorem t_not (h : Dt X B ow Γ p e G t u) : Dt X B ow Γ p (.UnaryOp .Not e pos) G (fun ε => !t ε) u :=
  ⟨(pt_not h.pt).weaken fun σ H Q ⟨H0, ε, rl, g, k⟩ => ⟨H0, ε, rl, g, fun H1 f1 r1 => k H1 f1 r1⟩⟩
theorem w_and1 (h : Dt X B ow Γ p e G t u) : Dw X B ow Γ p (.BoolOp .And [e] pos) G t u := ⟨pw_and1 h.pt⟩
theorem w_or1 (h : Dt X B ow Γ p e G t u) : Dw X B ow Γ p (.BoolOp .Or [e] pos) G t u := ⟨pw_or1 h.pt⟩
theorem w_and {es : List Expr} (h1 : Dt X B ow Γ p1 e1 G1 t1 u1) (h2 : Dw X B ow Γ p2 (.BoolOp .And (e2 :: es) pos) G2 t2 u2) :
    Dw X B ow Γ (p1 && p2) (.BoolOp .And (e1 :: e2 :: es) pos) (fun ε => G1 ε ∧ (t1 ε = true → G2 (u1 ε))) (fun ε => t1 ε && t2 (u1 ε)) (fun ε => if t1 ε then u2 (u1 ε) else u1 ε) :=
  ⟨(pw_and h1.pt h2.pw).weaken fun σ H Q ⟨H0, ε, rl, ⟨g1, g2⟩, k⟩ => ⟨H0, ε, rl, g1, fun H1 f1 r1 => by
    cases h : t1 ε with
    | true =>
      refine ⟨H0, u1 ε, r1, g2 h, fun H2 f2 r2 => ?_⟩
      have := k H2 ((cond_fr f1 p2).trans (cond_fr2 f2 p1)) (by simpa [h] using r2)
      simpa [h] using this
    | false =>
      have := k H1 (cond_fr f1 p2) (by simpa [h] using r1)
      simpa [h] using this⟩⟩
theorem w_or {es : List Expr} (h1 : Dt X B ow Γ p1 e1 G1 t1 u1) (h2 : Dw X B ow Γ p2 (.BoolOp .Or (e2 :: es) pos) G2 t2 u2) :
    Dw X B ow Γ (p1 && p2) (.BoolOp .Or (e1 :: e2 :: es) pos) (fun ε => G1 ε ∧ (t1 ε = false → G2 (u1 ε))) (fun ε => t1 ε || t2 (u1 ε)) (fun ε => if t1 ε then u1 ε else u2 (u1 ε)) :=
  ⟨(pw_or h1.pt h2.pw).weaken fun σ H Q ⟨H0, ε, rl, ⟨g1, g2⟩, k⟩ => ⟨H0, ε, rl, g1, fun H1 f1 r1 => by
    cases h : t1 ε with
    | true =>
      have := k H1 (cond_fr f1 p2) (by simpa [h] using r1)
      simpa [h] using this
    | false =>
      refine ⟨H0, u1 ε, r1, g2 h, fun H2 f2 r2 => ?_⟩
      have := k H2 ((cond_fr f1 p2).trans (cond_fr2 f2 p1)) (by simpa [h] using r2)
      simpa [h] using this⟩⟩
theorem Dw.dt (h : Dw X B ow Γ p e G t u) : Dt X B ow Γ p e G t u := ⟨h.pw.pt⟩
/-- the environment behind a pure test is the one ahead -/
theorem Dt.pure (h : Dt X B ow Γ p e G t u) (hu : ∀ ε, u ε = ε) : Dt X B ow Γ p e G t (fun ε => ε) := by
  have : u = fun ε => ε := funext hu
  rw [← this]; exact h
theorem Dw.pure (h : Dw X B ow Γ p e G t u) (hu : ∀ ε, u ε = ε) : Dw X B ow Γ p e G t (fun ε => ε) := by
  have : u = fun ε => ε := funext hu
  rw [← this]; exact h
theorem Dt.is {t' : E → Bool} {G' : E → Prop} (h : Dt X B ow Γ p e G t u) (hg : ∀ ε, G' ε → G ε) (hd : ∀ ε, G' ε → t ε = t' ε) : Dt X B ow Γ p e G' t' u :=
  ⟨h.pt.weaken fun σ H Q ⟨H0, ε, r, g, k⟩ => ⟨H0, ε, r, hg ε g, fun H' f r' => by rw [hd ε g]; exact k H' f r'⟩⟩
end
theorem ite_same {E : Type} {b : Bool} (ε : E) : (if b = true then ε else ε) = ε := by cases b <;> rfl
end Y
namespace Y
open PySem PySem.Spec L2

/-! ### ints -/
section
variable {K : Frag} {γ : Type}
theorem v_I0 {c : γ → D} {g : Int → Int → V} {f : Int → Int → γ} (h : ∀ A H i j, Fz K A H (g i j) (c (f i j))) : Op2 K (rI0 g) cI cI c (fun _ _ => True) f := fun A H x y v w Q _ z1 z2 _ k => by
  cases z1.int_inv
  cases z2.int_inv
  exact ⟨x, y, rfl, rfl, k _ H (Fr.refl _ _) (h A H x y)⟩
theorem v_I {c : γ → D} {C : Int → Int → Prop} {g : Int → Int → V} {f : Int → Int → γ} (h : ∀ A H i j, Fz K A H (g i j) (c (f i j))) : Op2 K (rI C g) cI cI c C f := fun A H x y v w Q _ z1 z2 hc k => by
  cases z1.int_inv
  cases z2.int_inv
  exact ⟨x, y, rfl, rfl, hc, k _ H (Fr.refl _ _) (h A H x y)⟩
theorem v_add : Op2 K (rI0 fun i j => .int (i + j)) cI cI cI (fun _ _ => True) (fun i j => i + j) := v_I0 fun _ _ _ _ => .int _
theorem v_sub : Op2 K (rI0 fun i j => .int (i - j)) cI cI cI (fun _ _ => True) (fun i j => i - j) := v_I0 fun _ _ _ _ => .int _
theorem v_mul : Op2 K (rI CMul fun i j => .int (i * j)) cI cI cI CMul (fun i j => i * j) := v_I fun _ _ _ _ => .int _
theorem v_fdiv : Op2 K (rI CDivW fun i j => .int (i / j)) cI cI cI CDivW (fun i j => i / j) := v_I fun _ _ _ _ => .int _
theorem v_mod : Op2 K (rI (fun _ j => 0 < j) fun i j => .int (i % j)) cI cI cI (fun _ j => 0 < j) (fun i j => i % j) := v_I fun _ _ _ _ => .int _
theorem v_pow : Op2 K (rI CPow fun i j => .int (i ^ j.toNat)) cI cI cI CPow (fun i j => i ^ j.toNat) := v_I fun _ _ _ _ => .int _
theorem v_lt : Op2 K (rI0 fun i j => .bl (decide (i < j))) cI cI cB (fun _ _ => True) (fun i j => decide (i < j)) := v_I0 fun _ _ _ _ => .bl _
theorem v_le : Op2 K (rI0 fun i j => .bl (decide (i ≤ j))) cI cI cB (fun _ _ => True) (fun i j => decide (i ≤ j)) := v_I0 fun _ _ _ _ => .bl _
theorem v_gt : Op2 K (rI0 fun i j => .bl (decide (j < i))) cI cI cB (fun _ _ => True) (fun i j => decide (j < i)) := v_I0 fun _ _ _ _ => .bl _
theorem v_ge : Op2 K (rI0 fun i j => .bl (decide (j ≤ i))) cI cI cB (fun _ _ => True) (fun i j => decide (j ≤ i)) := v_I0 fun _ _ _ _ => .bl _
theorem v_eqI : Op2 K rEq cI cI cB (fun _ _ => True) (fun i j => decide (i = j)) := fun A H x y v w Q _ z1 z2 _ k => by
  cases z1.int_inv
  cases z2.int_inv
  refine ⟨rfl, k _ H (Fr.refl _ _) ?_⟩
  have e : decide (V.int x = V.int y) = decide (x = y) := decide_eq_decide.mpr ⟨fun h => V.int.inj h, fun h => by rw [h]⟩
  rw [e]
  exact .bl _
theorem v_neI : Op2 K rNe cI cI cB (fun _ _ => True) (fun i j => !decide (i = j)) := fun A H x y v w Q _ z1 z2 _ k => by
  cases z1.int_inv
  cases z2.int_inv
  refine ⟨rfl, k _ H (Fr.refl _ _) ?_⟩
  have e : decide (V.int x = V.int y) = decide (x = y) := decide_eq_decide.mpr ⟨fun h => V.int.inj h, fun h => by rw [h]⟩
  rw [e]
  exact .bl _
theorem v_eqB : Op2 K rEq cB cB cB (fun _ _ => True) (fun i j => decide (i = j)) := fun A H x y v w Q _ z1 z2 _ k => by
  cases z1.bl_inv
  cases z2.bl_inv
  refine ⟨rfl, k _ H (Fr.refl _ _) ?_⟩
  have e : decide (V.bl x = V.bl y) = decide (x = y) := decide_eq_decide.mpr ⟨fun h => V.bl.inj h, fun h => by rw [h]⟩
  rw [e]
  exact .bl _
theorem v_neB : Op2 K rNe cB cB cB (fun _ _ => True) (fun i j => !decide (i = j)) := fun A H x y v w Q _ z1 z2 _ k => by
  cases z1.bl_inv
  cases z2.bl_inv
  refine ⟨rfl, k _ H (Fr.refl _ _) ?_⟩
  have e : decide (V.bl x = V.bl y) = decide (x = y) := decide_eq_decide.mpr ⟨fun h => V.bl.inj h, fun h => by rw [h]⟩
  rw [e]
  exact .bl _
theorem v_eqS : Op2 K rEq cS cS cB (fun _ _ => True) (fun i j => decide (i = j)) := fun A H x y v w Q _ z1 z2 _ k => by
  cases z1.str_inv
  cases z2.str_inv
  refine ⟨rfl, k _ H (Fr.refl _ _) ?_⟩
  have e : decide (V.str x = V.str y) = decide (x = y) := decide_eq_decide.mpr ⟨fun h => V.str.inj h, fun h => by rw [h]⟩
  rw [e]
  exact .bl _
theorem v_neS : Op2 K rNe cS cS cB (fun _ _ => True) (fun i j => !decide (i = j)) := fun A H x y v w Q _ z1 z2 _ k => by
  cases z1.str_inv
  cases z2.str_inv
  refine ⟨rfl, k _ H (Fr.refl _ _) ?_⟩
  have e : decide (V.str x = V.str y) = decide (x = y) := decide_eq_decide.mpr ⟨fun h => V.str.inj h, fun h => by rw [h]⟩
  rw [e]
  exact .bl _
theorem v_neg : Op1 K (rU fun i => .int (-i)) cI cI (fun _ => True) (fun i => -i) := fun A H x v Q _ z1 _ k => by
  cases z1.int_inv
  exact ⟨x, rfl, k _ H (Fr.refl _ _) (.int _)⟩
end

/-! ### sequences: lists and tuples -/
/-- c is a list's or a tuple's codec, its items' one ce -/
def IsSq {α : Type} (c : List α → D) (ce : α → D) : Prop := (∀ xs, c xs = .list (xs.map ce)) ∨ ∀ xs, c xs = .tuple (xs.map ce)
theorem sq_L {α : Type} {ce : α → D} : IsSq (cL ce) ce := .inl fun _ => rfl
theorem sq_T {α : Type} {ce : α → D} : IsSq (cT ce) ce := .inr fun _ => rfl
section
variable {K : Frag} {A : List Addr} {H : Hp} {v : V} {α β γ : Type}
theorem IsSq.inv {c : List α → D} {ce : α → D} (h : IsSq c ce) {xs : List α} (z : Fz K A H v (c xs)) : ∃ a vs, v = .ref a ∧ (SqL K H a vs ∨ SqT K H a vs) ∧ FzL K A H vs (xs.map ce) ∧ vs.length = xs.length ∧ vs.length ≤ szN := by
  rcases h with h | h
  · rw [h] at z
    obtain ⟨a, vs, e, n, l⟩ := z.lst_inv
    exact ⟨a, vs, e, .inl n.sq, l, by simpa using l.length, n.2⟩
  · rw [h] at z
    obtain ⟨a, vs, e, n, l⟩ := z.tup_inv
    exact ⟨a, vs, e, .inr n.sq, l, by simpa using l.length, n.sz⟩
theorem fzl1 {ds : List D} {vs : List V} {d : D} (h : FzL K A H vs [d]) : ∃ v, vs = [v] ∧ Fz K A H v d := by
  cases h with | cons a b => cases b; exact ⟨_, rfl, a⟩
theorem fzl2 {ds : List D} {vs : List V} {d d' : D} (h : FzL K A H vs [d, d']) : ∃ v w, vs = [v, w] ∧ Fz K A H v d ∧ Fz K A H w d' := by
  cases h with | cons a b => cases b with | cons a' b' => cases b'; exact ⟨_, _, rfl, a, a'⟩
theorem fzl_ints : ∀ {vs : List V} {xs : List Int}, FzL K A H vs (xs.map cI) → vs = xs.map V.int
  | _, [], .nil => rfl
  | _, x :: xs, .cons a b => by rw [a.int_inv, fzl_ints b]; rfl
theorem fzl_bls : ∀ {vs : List V} {xs : List Bool}, FzL K A H vs (xs.map cB) → vs = xs.map V.bl
  | _, [], .nil => rfl
  | _, x :: xs, .cons a b => by rw [a.bl_inv, fzl_bls b]; rfl
theorem fzl_strs : ∀ {vs : List V} {xs : List Str}, FzL K A H vs (xs.map cS) → vs = xs.map V.str
  | _, [], .nil => rfl
  | _, x :: xs, .cons a b => by rw [a.str_inv, fzl_strs b]; rfl
theorem ints_fzl : ∀ (xs : List Int), FzL K A H (xs.map V.int) (xs.map cI)
  | [] => .nil
  | x :: xs => .cons (.int x) (ints_fzl xs)

/-- len -/
def rLenQ (K : Frag) : List V → Hp → VK → Prop := fun xs H Q => ∃ p ys, xs = [.ref p] ∧ (SqL K H p ys ∨ SqT K H p ys) ∧ Q (.int ys.length) H
theorem v_len {c : List α → D} {ce : α → D} (hc : IsSq c ce) : OpL K (rLenQ K) (ac c an) cI (fun _ => True) (fun q => (q.1.length : Int)) := fun A H q vs Q _ z _ k => by
  obtain ⟨v, rfl, z1⟩ := fzl1 (ds := []) z
  obtain ⟨a, ws, rfl, hs, l, e, sz⟩ := hc.inv z1
  refine ⟨a, ws, rfl, hs, k _ H (Fr.refl _ _) ?_⟩
  rw [e]
  exact .int _
theorem v_lenS : OpL K (fun xs H Q => ∃ z, xs = [.str z] ∧ z.length ≤ sizeLine ∧ Q (.int z.length) H) (ac cS an) cI (fun q => q.1.length ≤ 16777216) (fun q => (q.1.length : Int)) := fun A H q vs Q _ z hc k => by
  obtain ⟨v, rfl, z1⟩ := fzl1 (ds := []) z
  cases z1.str_inv
  exact ⟨_, rfl, by rw [sizeLine_eq]; exact hc, k _ H (Fr.refl _ _) (.int _)⟩
/-- abs, int, max, min of two -/
theorem v_abs : OpL K (fun xs H Q => ∃ i, xs = [.int i] ∧ Q (.int (if i < 0 then -i else i)) H) (ac cI an) cI (fun _ => True) (fun q => (q.1.natAbs : Int)) := fun A H q vs Q _ z _ k => by
  obtain ⟨v, rfl, z1⟩ := fzl1 (ds := []) z
  cases z1.int_inv
  refine ⟨_, rfl, k _ H (Fr.refl _ _) ?_⟩
  have e : (if q.1 < 0 then -q.1 else q.1) = (q.1.natAbs : Int) := by split <;> omega
  rw [e]
  exact .int _
theorem v_int : OpL K (fun xs H Q => (∃ i, xs = [.int i] ∧ Q (.int i) H) ∨ ∃ k, xs = [.bl k] ∧ Q (.int (if k then 1 else 0)) H) (ac cI an) cI (fun _ => True) (fun q => q.1) := fun A H q vs Q _ z _ k => by
  obtain ⟨v, rfl, z1⟩ := fzl1 (ds := []) z
  cases z1.int_inv
  exact .inl ⟨_, rfl, k _ H (Fr.refl _ _) (.int _)⟩
theorem v_max2 : OpL K (fun xs H Q => ∃ i j, xs = [.int i, .int j] ∧ Q (.int (if j > i then j else i)) H) (ac cI (ac cI an)) cI (fun _ => True) (fun q => max q.1 q.2.1) := fun A H q vs Q _ z _ k => by
  obtain ⟨v, w, rfl, z1, z2⟩ := fzl2 (ds := []) z
  cases z1.int_inv
  cases z2.int_inv
  refine ⟨_, _, rfl, k _ H (Fr.refl _ _) ?_⟩
  have e : (if q.2.1 > q.1 then q.2.1 else q.1) = max q.1 q.2.1 := by split <;> omega
  rw [e]
  exact .int _
theorem v_min2 : OpL K (fun xs H Q => ∃ i j, xs = [.int i, .int j] ∧ Q (.int (if j < i then j else i)) H) (ac cI (ac cI an)) cI (fun _ => True) (fun q => min q.1 q.2.1) := fun A H q vs Q _ z _ k => by
  obtain ⟨v, w, rfl, z1, z2⟩ := fzl2 (ds := []) z
  cases z1.int_inv
  cases z2.int_inv
  refine ⟨_, _, rfl, k _ H (Fr.refl _ _) ?_⟩
  have e : (if q.2.1 < q.1 then q.2.1 else q.1) = min q.1 q.2.1 := by split <;> omega
  rw [e]
  exact .int _
/-- min, max of a list of ints -/
def minI : List Int → Int
  | [] => 0
  | x :: xs => xs.foldl min x
def maxI : List Int → Int
  | [] => 0
  | x :: xs => xs.foldl max x
theorem foldl_min_spec : ∀ (xs : List Int) (x : Int), (xs.foldl min x = x ∨ xs.foldl min x ∈ xs) ∧ xs.foldl min x ≤ x ∧ ∀ y ∈ xs, xs.foldl min x ≤ y
  | [], x => ⟨.inl rfl, Int.le_refl _, fun _ h => by cases h⟩
  | y :: xs, x => by
    obtain ⟨h1, h2, h3⟩ := foldl_min_spec xs (min x y)
    simp only [List.foldl_cons, List.mem_cons]
    refine ⟨?_, by omega, ?_⟩
    · rcases h1 with h | h
      · by_cases hxy : x ≤ y
        · left; omega
        · right; left; omega
      · right; right; exact h
    · rintro z (rfl | hz)
      · omega
      · exact h3 z hz
theorem foldl_max_spec : ∀ (xs : List Int) (x : Int), (xs.foldl max x = x ∨ xs.foldl max x ∈ xs) ∧ x ≤ xs.foldl max x ∧ ∀ y ∈ xs, y ≤ xs.foldl max x
  | [], x => ⟨.inl rfl, Int.le_refl _, fun _ h => by cases h⟩
  | y :: xs, x => by
    obtain ⟨h1, h2, h3⟩ := foldl_max_spec xs (max x y)
    simp only [List.foldl_cons, List.mem_cons]
    refine ⟨?_, by omega, ?_⟩
    · rcases h1 with h | h
      · by_cases hxy : y ≤ x
        · left; omega
        · right; left; omega
      · right; right; exact h
    · rintro z (rfl | hz)
      · omega
      · exact h3 z hz
theorem minI_mem {xs : List Int} (h : xs ≠ []) : minI xs ∈ xs := by
  cases xs with
  | nil => exact absurd rfl h
  | cons x xs =>
    rcases (foldl_min_spec xs x).1 with e | e
    · show xs.foldl min x ∈ _; rw [e]; exact List.mem_cons_self
    · exact List.mem_cons_of_mem _ e
theorem minI_le {xs : List Int} {y : Int} (h : y ∈ xs) : minI xs ≤ y := by
  cases xs with
  | nil => cases h
  | cons x xs =>
    obtain ⟨_, h2, h3⟩ := foldl_min_spec xs x
    rcases List.mem_cons.mp h with rfl | h
    · exact h2
    · exact h3 y h
theorem maxI_mem {xs : List Int} (h : xs ≠ []) : maxI xs ∈ xs := by
  cases xs with
  | nil => exact absurd rfl h
  | cons x xs =>
    rcases (foldl_max_spec xs x).1 with e | e
    · show xs.foldl max x ∈ _; rw [e]; exact List.mem_cons_self
    · exact List.mem_cons_of_mem _ e
theorem le_maxI {xs : List Int} {y : Int} (h : y ∈ xs) : y ≤ maxI xs := by
  cases xs with
  | nil => cases h
  | cons x xs =>
    obtain ⟨_, h2, h3⟩ := foldl_max_spec xs x
    rcases List.mem_cons.mp h with rfl | h
    · exact h2
    · exact h3 y h
theorem v_minL : OpL K (rMin K) (ac (cL cI) an) cI (fun q => q.1 ≠ []) (fun q => minI q.1) := fun A H q vs Q _ z hc k => by
  obtain ⟨v, rfl, z1⟩ := fzl1 (ds := []) z
  obtain ⟨a, ws, rfl, n, l⟩ := z1.lst_inv
  cases fzl_ints l
  refine ⟨a, q.1, rfl, n.sq, List.length_pos_iff.mpr hc, fun m h1 h2 => k _ H (Fr.refl _ _) ?_⟩
  have e : m = minI q.1 := Int.le_antisymm (h2 _ (minI_mem hc)) (minI_le h1)
  rw [e]
  exact .int _
theorem v_maxL : OpL K (rMax K) (ac (cL cI) an) cI (fun q => q.1 ≠ []) (fun q => maxI q.1) := fun A H q vs Q _ z hc k => by
  obtain ⟨v, rfl, z1⟩ := fzl1 (ds := []) z
  obtain ⟨a, ws, rfl, n, l⟩ := z1.lst_inv
  cases fzl_ints l
  refine ⟨a, q.1, rfl, n.sq, List.length_pos_iff.mpr hc, fun m h1 h2 => k _ H (Fr.refl _ _) ?_⟩
  have e : m = maxI q.1 := Int.le_antisymm (le_maxI h1) (h2 _ (maxI_mem hc))
  rw [e]
  exact .int _
theorem v_sumL : OpL K (rSum K) (ac (cL cI) an) cI (fun _ => True) (fun q => q.1.sum) := fun A H q vs Q _ z hc k => by
  obtain ⟨v, rfl, z1⟩ := fzl1 (ds := []) z
  obtain ⟨a, ws, rfl, n, l⟩ := z1.lst_inv
  cases fzl_ints l
  exact ⟨a, q.1, rfl, n.sq, k _ H (Fr.refl _ _) (.int _)⟩
theorem v_allL : OpL K (rAll K) (ac (cL cB) an) cB (fun _ => True) (fun q => q.1.all id) := fun A H q vs Q _ z hc k => by
  obtain ⟨v, rfl, z1⟩ := fzl1 (ds := []) z
  obtain ⟨a, ws, rfl, n, l⟩ := z1.lst_inv
  cases fzl_bls l
  exact ⟨a, q.1, rfl, n.sq, k _ H (Fr.refl _ _) (.bl _)⟩
theorem v_anyL : OpL K (rAny K) (ac (cL cB) an) cB (fun _ => True) (fun q => q.1.any id) := fun A H q vs Q _ z hc k => by
  obtain ⟨v, rfl, z1⟩ := fzl1 (ds := []) z
  obtain ⟨a, ws, rfl, n, l⟩ := z1.lst_inv
  cases fzl_bls l
  exact ⟨a, q.1, rfl, n.sq, k _ H (Fr.refl _ _) (.bl _)⟩
/-- tuple(..), list(..) -/
def rTupleOf (K : Frag) : List V → Hp → VK → Prop := fun xs H Q => ∃ p ys, xs = [.ref p] ∧ ((SqL K H p ys ∧ ∀ l, H l = none → Q (.ref l) (upd H l (.tup ys))) ∨ (SqT K H p ys ∧ Q (.ref p) H))
def rListOf (K : Frag) : List V → Hp → VK → Prop := fun xs H Q => ∃ p ys, xs = [.ref p] ∧ (SqL K H p ys ∨ SqT K H p ys) ∧ ∀ l, H l = none → Q (.ref l) (upd H l (.lst ys))
theorem v_tuple {c : List α → D} {ce : α → D} (hc : IsSq c ce) : OpL K (rTupleOf K) (ac c an) (cT ce) (fun _ => True) (fun q => q.1) := fun A H q vs Q t z _ k => by
  obtain ⟨v, rfl, z1⟩ := fzl1 (ds := []) z
  rcases hc with h | h
  · have z2 : Fz K A H v (.list (q.1.map ce)) := by rw [← h]; exact z1
    obtain ⟨a, ws, rfl, n, l⟩ := z2.lst_inv
    exact ⟨a, ws, rfl, .inl ⟨n.sq, fun p hp => k _ _ (Fr.new hp) (.tup (.inl ⟨t.new hp, upd_same, n.2⟩) (l.fr (Fr.new hp)))⟩⟩
  · have z2 : Fz K A H v (.tuple (q.1.map ce)) := by rw [← h]; exact z1
    obtain ⟨a, ws, rfl, n, l⟩ := z2.tup_inv
    exact ⟨a, ws, rfl, .inr ⟨n.sq, k _ H (Fr.refl _ _) (.tup n l)⟩⟩
theorem v_list {c : List α → D} {ce : α → D} (hc : IsSq c ce) : OpL K (rListOf K) (ac c an) (cL ce) (fun _ => True) (fun q => q.1) := fun A H q vs Q t z _ k => by
  obtain ⟨v, rfl, z1⟩ := fzl1 (ds := []) z
  obtain ⟨a, ws, rfl, hs, l, e, sz⟩ := hc.inv z1
  exact ⟨a, ws, rfl, hs, fun p hp => k _ _ (Fr.new hp) (.lst ⟨⟨t.new hp, upd_same⟩, sz⟩ (l.fr (Fr.new hp)))⟩

/-! ### an item by its place -/
def ixD [Inhabited α] (xs : List α) (i : Int) : α := (atI xs i).getD default
theorem atI_map {f : α → β} {xs : List α} {i : Int} : atI (xs.map f) i = (atI xs i).map f := by
  unfold atI
  rw [List.length_map]
  cases ixN xs.length i with
  | none => rfl
  | some j => simp
theorem FzL.atI {vs : List V} {ds : List D} {i : Int} {d : D} (h : FzL K A H vs ds) (e : L2.atI ds i = some d) : ∃ v, L2.atI vs i = some v ∧ Fz K A H v d := by
  unfold L2.atI at e ⊢
  rw [← h.length] at e
  cases q : ixN vs.length i with
  | none => rw [q] at e; simp at e
  | some j =>
    rw [q] at e
    obtain ⟨v, e1, z⟩ := h.get' (i := j) (d := d) (by simpa using e)
    exact ⟨v, by simpa using e1, z⟩
def CIx {α : Type} (xs : List α) (i : Int) : Prop := -(xs.length : Int) ≤ i ∧ i < xs.length
theorem CIx.at [Inhabited α] {xs : List α} {i : Int} (h : CIx xs i) : atI xs i = some (ixD xs i) := by
  obtain ⟨h1, h2⟩ := h
  unfold ixD atI ixN
  by_cases h0 : 0 ≤ i
  · rw [if_pos h0, if_pos h2]
    have : i.toNat < xs.length := by omega
    simp [this]
  · rw [if_neg h0, if_pos h1]
    have : (i + xs.length).toNat < xs.length := by omega
    simp [this]
theorem v_ixL [Inhabited α] {ce : α → D} : Op2 K (rIxL K) (cL ce) cI ce CIx ixD := fun A H x y v w Q t z1 z2 hc k => by
  obtain ⟨a, vs, rfl, n, l⟩ := z1.lst_inv
  cases z2.int_inv
  obtain ⟨u, e, z⟩ := l.atI (i := y) (d := ce (ixD x y)) (by rw [atI_map, hc.at]; rfl)
  exact ⟨a, vs, y, u, rfl, rfl, n.sq, e, k _ H (Fr.refl _ _) z⟩
theorem v_ixT [Inhabited α] {ce : α → D} : Op2 K (rIxT K) (cT ce) cI ce CIx ixD := fun A H x y v w Q t z1 z2 hc k => by
  obtain ⟨a, vs, rfl, n, l⟩ := z1.tup_inv
  cases z2.int_inv
  obtain ⟨u, e, z⟩ := l.atI (i := y) (d := ce (ixD x y)) (by rw [atI_map, hc.at]; rfl)
  exact ⟨a, vs, y, u, rfl, rfl, n.sq, e, k _ H (Fr.refl _ _) z⟩
/-- a sign of a text -/
def ixS (x : Str) (i : Int) : Str := ⟨#[ixD x.cps.toList i]⟩
theorem v_ixS : Op2 K rIxS cS cI cS (fun x i => x.length ≤ 16777216 ∧ CIx x.cps.toList i) ixS := fun A H x y v w Q t z1 z2 hc k => by
  cases z1.str_inv
  cases z2.int_inv
  exact ⟨x, y, _, rfl, rfl, by rw [sizeLine_eq]; exact hc.1, hc.2.at, k _ H (Fr.refl _ _) (.str _)⟩
end
/-- the n-th part of a tuple of a known form -/
def rPrj (K : Frag) (n : Int) : R2 := fun x y H Q => y = .int n ∧ ∃ p xs v, x = .ref p ∧ SqT K H p xs ∧ atI xs n = some v ∧ Q v H
section
variable {X : Cx} {B : Bd} {ow : List Nat} {E α β γ : Type} {Γ : E → List (Option D)} {p s : Bool} {e : Expr} {pos : Pos} {G : E → Prop} {d : E → α} {u : E → E}
theorem d_prj {b : Expr} (n : Int) {c : α → D} {cb : β → D} (g : α → β) (hc : ∀ x, ∃ ds, c x = .tuple ds ∧ atI ds n = some (cb (g x))) (h : De X B ow Γ p s e c G d u)
    (hb : De X B ow Γ true true b cI (fun _ => True) (fun _ => n) (fun ε => ε)) (hx : PlainIx b := by exact fun _ _ => rfl) : De X B ow Γ p s (.Subscript e b pos) cb G (fun ε => g (d ε)) u :=
  ⟨(pe_ix (pos := pos) ix_tup h.pe hb.pe hx).weaken fun σ H Q ⟨H0, ε, rl, g1, k⟩ => ⟨H0, ε, rl, g1, fun v H1 f1 r1 z1 => ⟨H0, u ε, r1, trivial, fun w H2 f2 r2 z2 => by
    obtain ⟨ds, e1, e2⟩ := hc (d ε)
    rw [e1] at z1
    obtain ⟨a, vs, rfl, nd, l⟩ := z1.tup_inv
    cases z2.int_inv
    obtain ⟨v', e3, z⟩ := l.atI e2
    have f2' : Fr [] H1 H2 := f2
    exact ⟨a, vs, n, v', rfl, rfl, (nd.fr f2'.nil).sq, e3, k _ H2 (f1.trans f2'.nil) r2 (z.fr f2'.nil)⟩⟩⟩⟩
theorem d_neg1 {n : Int} {j p1 p2} : De X B ow Γ true true (.UnaryOp .USub (.Constant (.int n) j p1) p2) cI (fun _ => True) (fun _ => -n) (fun ε => ε) := (d_un un_neg v_neg d_int).is (fun _ _ => ⟨trivial, trivial⟩) fun _ _ => rfl
end
end Y
namespace Y
open PySem PySem.Spec PyProof.Rows L2

/-! ### defs, called where nothing is being shown (no repr runs) -/
structure FnG (P : Program) (w : World) (K : Frag) (mg : Str → Option Value) (base : Heap) (k : Nat) (f : Addr) (fd : FuncData) (ps : List Str) (sp : Sp) : Prop where
  len : ∀ vs H Q E, sp vs H Q E → vs.length = ps.length
  run : ∀ (A : Around) (outer : List Env) (s : Shared) (H : Hp) (args : Args) (us : List Value) (vs : List V) (Q : VK) (E : XK), Room k A → A.guards = some [] → Env0 P w K mg base A outer s H →
    BindsTo s fd args (ps.zip us) → Vals vs us → sp vs H Q E → codeAny (model P w) A (.call (.ref f) args) (CR CX0 outer P w H s Q E) s
theorem FnG.mono {P : Program} {w : World} {K : Frag} {mg : Str → Option Value} {base : Heap} {j k : Nat} {f : Addr} {fd : FuncData} {ps : List Str} {sp : Sp} (F : FnG P w K mg base j f fd ps sp) (h : j ≤ k) : FnG P w K mg base k f fd ps sp :=
  ⟨F.len, fun A outer s H args us vs Q E hr => F.run A outer s H args us vs Q E (hr.mono h)⟩
theorem FnG.imp {P : Program} {w : World} {K : Frag} {mg : Str → Option Value} {base : Heap} {k : Nat} {f : Addr} {fd : FuncData} {ps : List Str} {sp sp' : Sp} (F : FnG P w K mg base k f fd ps sp) (h : ∀ vs H Q E, sp' vs H Q E → sp vs H Q E) :
    FnG P w K mg base k f fd ps sp' :=
  ⟨fun vs H Q E q => F.len vs H Q E (h vs H Q E q), fun A outer s H args us vs Q E hr hg he hb hv q => F.run A outer s H args us vs Q E hr hg he hb hv (h vs H Q E q)⟩

section
variable {P : Program} {w : World} {K : Frag} {mg : Str → Option Value} {base : Heap} {k : Nat} {f : Addr} {fd : FuncData} {x qual : Str} {st : Stmt} {N ps : List Str} {sp : Sp}
/-- a def by its body -/
theorem fnG (F : Fun K x qual st f fd) (S : FnScope N ps (defScope st)) (len : ∀ vs H Q E, sp vs H Q E → vs.length = ps.length)
    (hbody : ∀ (cdv : Value) (A : Around) (outer : List Env) (s : Shared) (H : Hp) (vs : List V) (Q : VK) (E : XK), Room k (A.deeper (envOfC qual (defScope st) s.heap.objs.size f cdv)) → A.guards = some [] → sp vs H Q E →
      ∃ t, PSs (cxOf CX0 P w K mg base N qual (defScope st) f cdv A outer s H E).nox (defBody st) t ∧ t { nx := fun _ H' => Q .non H', rt := Q } (start N vs) H) : FnG P w K mg base (k + 1) f fd ps sp := by
  obtain ⟨oc, od, kV, doc, pm, an, cdv, ct, osl, rfl, lk, hcd⟩ := F.ex
  constructor
  · exact len
  intro A outer s H args us vs Q E hr hg e0 hb r hsp
  have hl := len _ _ _ _ hsp
  have KX : K.In s.heap := e0.mod.kin.keeps fun b o e => (e0.bs b o e).1
  have lim : s.heap.NoLimit := e0.mod.nolimit.keeps fun b o e => (e0.bs b o e).1
  have hkd : ∀ y ∈ ps.zip us, (defScope st).names.lookup y.1 = some .local ∨ ((defScope st).names.lookup y.1 = some .cell ∧ ((cellsFrom (s.heap.objs.size + 1) (defScope st).names []).lookup y.1).isSome = true) := by
    rintro ⟨n, v⟩ hy
    rcases S.par n (List.of_mem_zip hy).1 with q | q
    · exact .inl q
    · exact .inr ⟨q, PySem.W.cellsFrom_some _ _ _ (.inl q)⟩
  refine codeAny_call_function hr.depth (KX _ _ lk) rfl S.co S.gen rfl (PySem.W.codeRec_of KX hcd) (hb _ _ _ _ ?_)
  refine wpAny_newFunctionEnv_cells S.kind hkd fun env he s1 y => ?_
  subst he
  refine ⟨lim.keeps y.toInCall.keep, codeAny_func ?_⟩
  obtain ⟨t, ht0, hq⟩ := hbody cdv A outer s H vs Q E (hr.deeper _) hg hsp
  have ht := ht0.nox
  have I := inv_start (CX := CX0) (mg := mg) (base := base) (E := E) S hr.hd e0 hl r y
  refine wpAny_mono (ht.run [] s1 (start N vs) H _ I hq) (fun fl s' hs => ?_) fun e s' hs => hs
  cases fl with
  | ret u =>
    obtain ⟨v, σ', H', J, rv, q⟩ := hs
    exact ⟨v, H', J.os, J.bare, J.base, J.hok, rv, q⟩
  | next =>
    obtain ⟨σ', H', J, q⟩ := hs
    exact ⟨V.non, H', J.os, J.bare, J.base, J.hok, rfl, q⟩
  | brk => obtain ⟨_, _, _, q⟩ := hs; exact False.elim q
  | cont => obtain ⟨_, _, _, q⟩ := hs; exact False.elim q
end
section
variable {X : Cx} {k : Nat} {f : Addr} {fd : FuncData} {ps : List Str} {sp : Sp} {x : Str} {p pos : Pos} {e : Expr} {es : List Expr} {t : TA}
theorem runG {pins : List (Addr × Obj)} {σ : L2.St} {H : Hp} {s : Shared} {Q : VK} {us : List Value} {vs : List V} (F : FnG X.prog X.w X.K X.mg X.base k f fd ps sp) (hr : Room k X.A) (hgd : X.A.guards = some []) (hb : Binds X.K fd ps [])
    (I : Inv X pins σ H s) (r : Vals vs us) (h : sp vs H Q E0) : wpAny (model X.prog X.w) X.A (call (.ref f) us) (EP X pins σ Q) X.xe s := by
  have hl : us.length = ps.length := by rw [← r.length]; exact F.len _ _ _ _ h
  have hb' := hb s us I.kIn (by simpa using hl)
  rw [List.append_nil] at hb'
  refine wpAny_call (codeAny_mono (F.run X.A X.stack s H ⟨us, []⟩ us vs Q E0 hr hgd I.env0 hb' r h) fun r s' hq => ?_)
  cases r with
  | error e => exact (show False from hq).elim
  | ok fl =>
    cases fl with
    | ret u => exact I.after hq
    | next => exact False.elim hq
    | brk => exact False.elim hq
    | cont => exact False.elim hq
def tCallG (sp : Sp) (t : TA) : TE := fun σ H Q => t σ H fun vs H1 => sp vs H1 Q E0
theorem pe_callG (F : FnG X.prog X.w X.K X.mg X.base k f fd ps sp) (hr : Room k X.A) (hgd : X.A.guards = some []) (hm : X.mg x = some (.ref f)) (hk : PySem.W.keepIn X.K (.ref f) = true) (hb : Binds X.K fd ps []) (ha : PA X (e :: es) t)
    (hg : Gl X x := by rfl) (hdb : (x == ("__debug__" : Str)) = false := by decide) (he : starEach (e :: es) X.env = (false, eval e X.env) :: starEach es X.env := by rfl) (hpl : (backTo pos (starEach es X.env)).any (·.1) = false := by rfl) :
    PE X (.Call (.Name x p) (e :: es) [] pos) (tCallG sp t) := by
  constructor
  intro pins s σ H Q I h
  refine wpAny_Call_Name_kw (ld_glob I hg hm ?_ hdb)
  refine PySem.W.callWith_K (h₀ := X.base) I.ok.mod.kin hk (thn (ha.run pos pins s σ H _ I h) fun us s1 ⟨vs, H1, I1, r, q⟩ => ⟨I1.kIn, ?_⟩) he hpl
  exact runG F hr hgd hb I1 r q
end
end Y
namespace Y
open PySem PySem.Spec L2

/-! ### promises -/
section
variable {α β τ : Type}
def spP (K : Frag) (cs : α → List D) (c : β → D) (G : α → Prop) (f : α → β) : Sp := fun vs H Q _ => ∃ (A : List Addr) (a : α), Tr A H ∧ FzL K A H vs (cs a) ∧ G a ∧ ∀ v H', Fr [] H H' → Fz K A H' v (c (f a)) → Q v H'
/-- the first argument a list that may be changed -/
def spS (K : Frag) (cs : α → List D) (ci : τ → List D) (c : β → D) (G : α × τ → Prop) (f : α × τ → β × τ) : Sp := fun vs H Q _ => ∃ (A : List Addr) (p : Addr) (us ws : List V) (a : α) (t : τ), Tr A H ∧ p ∉ A ∧ vs = .ref p :: ws ∧ (H p = some (.lst us) ∧ us.length ≤ szN) ∧
  FzL K (A ++ [p]) H us (ci t) ∧ FzL K (A ++ [p]) H ws (cs a) ∧ G (a, t) ∧ ∀ v H' us', Fr [p] H H' → H' p = some (.lst us') → us'.length ≤ szN → FzL K (A ++ [p]) H' us' (ci (f (a, t)).2) → Fz K (A ++ [p]) H' v (c (f (a, t)).1) → Q v H'
end

/-! ### slots set -/
section
variable {K : Frag} {B : Bd} {H0 H H' : Hp} {ow : List Nat} {σ : L2.St} {γ : List (Option D)}
theorem oa_set {i : Nat} {x : Option V} (h : i ∉ ow) : oa (σ.set i x) ow = oa σ ow := by
  unfold oa
  induction ow with
  | nil => rfl
  | cons j l ih =>
    have hj : i ≠ j := fun e => h (by rw [e]; exact List.mem_cons_self)
    rw [List.filterMap_cons, List.filterMap_cons, List.getElem?_set_ne hj, ih fun z => h (List.mem_cons_of_mem _ z)]
theorem set_inv {α : Type} {l : List (Option α)} {i j : Nat} {x y : Option α} (h : (l.set i x)[j]? = some y) : (i = j ∧ x = y ∧ i < l.length) ∨ (i ≠ j ∧ l[j]? = some y) := by
  by_cases e : i = j
  · subst e
    have hl : i < l.length := by
      have := (List.getElem?_eq_some_iff.mp h).1
      simpa using this
    rw [List.getElem?_set_self hl] at h
    exact .inl ⟨rfl, by injection h, hl⟩
  · rw [List.getElem?_set_ne e] at h
    exact .inr ⟨e, h⟩
/-- a frozen value into a slot -/
theorem Rel.set {i : Nat} {v : V} {d : D} (r : Rel K B H0 ow σ H γ) (hi : i ∉ ow) (z : Fz K (B.full σ ow) H v d) : Rel K B H0 ow (σ.set i (some v)) H (γ.set i (some d)) := by
  have eo : oa (σ.set i (some v)) ow = oa σ ow := oa_set hi
  have ef : B.full (σ.set i (some v)) ow = B.full σ ow := by unfold Bd.full; rw [eo]
  have nj : ∀ {j : Nat}, j ∈ ow → i ≠ j := fun hj e => hi (e ▸ hj)
  refine ⟨by simpa using r.len, fun j k a hj hk e1 e2 => ?_, fun j d' hj e => ?_, fun j d' hj e => ?_, by rw [eo]; exact r.trk, r.fr, by rw [eo]; exact r.new, r.a0, by rw [eo]; exact r.xt, fun p hp => ?_⟩
  · rw [List.getElem?_set_ne (nj hj)] at e1
    rw [List.getElem?_set_ne (nj hk)] at e2
    exact r.one j k a hj hk e1 e2
  · rw [ef]
    rcases set_inv e with ⟨rfl, e', hl⟩ | ⟨ne, e'⟩
    · have hl' : i < σ.length := by rw [r.len]; exact hl
      injection e' with e'
      subst e'
      exact ⟨v, by rw [List.getElem?_set_self hl'], z⟩
    · obtain ⟨w, h1, h2⟩ := r.fz j d' hj e'
      exact ⟨w, by rw [List.getElem?_set_ne ne]; exact h1, h2⟩
  · rw [ef]
    rw [List.getElem?_set_ne (nj hj)] at e
    obtain ⟨a, vs, ds, h1, h2⟩ := r.own j d' hj e
    exact ⟨a, vs, ds, by rw [List.getElem?_set_ne (nj hj)]; exact h1, h2⟩
  · obtain ⟨h1, h2⟩ := r.io p hp
    exact ⟨h1, by rw [List.getElem?_set_ne (nj h1)]; exact h2⟩
theorem mem_full {a : Addr} : a ∈ B.full σ ow ↔ a ∈ B.base ∨ a ∈ oa σ ow := List.mem_append
/-- fewer slots are one's own: those left out are forgotten, or frozen -/
theorem Rel.drop {ow' : List Nat} {γ' : List (Option D)} (r : Rel K B H0 ow σ H γ) (hs : ∀ i ∈ ow', i ∈ ow) (hio : B.io ≠ none → 0 ∈ ow') (w : Wk γ' γ) (hd : ∀ i ∈ ow, i ∉ ow' → γ'[i]? = some none) : Rel K B H0 ow' σ H γ' := by
  have so : ∀ a ∈ oa σ ow', a ∈ oa σ ow := fun a h => by
    obtain ⟨i, h1, h2⟩ := mem_oa.mp h
    exact mem_oa.mpr ⟨i, hs i h1, h2⟩
  have sf : ∀ a ∈ B.full σ ow', a ∈ B.full σ ow := fun a h => mem_full.mpr ((mem_full.mp h).imp id (so a))
  have r := r.wk w
  refine ⟨r.len, fun i j a hi hj => r.one i j a (hs i hi) (hs j hj), fun i d hi e => ?_, fun i d hi e => ?_, fun a h => r.trk a (so a h), r.fr, fun a h => r.new a (so a h), r.a0, fun a h => ⟨(r.xt a h).1, fun z => (r.xt a h).2 (so a z)⟩, fun p hp => ⟨hio (by rw [hp]; simp), (r.io p hp).2⟩⟩
  · by_cases hi' : i ∈ ow
    · rw [hd i hi' hi] at e; cases e
    · obtain ⟨v, e1, z⟩ := r.fz i d hi' e
      exact ⟨v, e1, z.sub sf⟩
  · obtain ⟨a, vs, ds, e1, e2, e3, e4⟩ := r.own i d (hs i hi) e
    exact ⟨a, vs, ds, e1, e2, e3, e4.sub sf⟩
/-- a list of one's own is changed no more -/
theorem Rel.freeze {ow' : List Nat} (r : Rel K B H0 ow σ H γ) (hs : ∀ i ∈ ow', i ∈ ow) (hio : B.io ≠ none → 0 ∈ ow') : Rel K B H0 ow' σ H γ := by
  have so : ∀ a ∈ oa σ ow', a ∈ oa σ ow := fun a h => by
    obtain ⟨i, h1, h2⟩ := mem_oa.mp h
    exact mem_oa.mpr ⟨i, hs i h1, h2⟩
  have sf : ∀ a ∈ B.full σ ow', a ∈ B.full σ ow := fun a h => mem_full.mpr ((mem_full.mp h).imp id (so a))
  refine ⟨r.len, fun i j a hi hj => r.one i j a (hs i hi) (hs j hj), fun i d hi e => ?_, fun i d hi e => ?_, fun a h => r.trk a (so a h), r.fr, fun a h => r.new a (so a h), r.a0, fun a h => ⟨(r.xt a h).1, fun z => (r.xt a h).2 (so a z)⟩, fun p hp => ⟨hio (by rw [hp]; simp), (r.io p hp).2⟩⟩
  · by_cases hi' : i ∈ ow
    · obtain ⟨a, vs, ds, e1, e2, e3, e4⟩ := r.own i d hi' e
      rw [e2]
      refine ⟨_, e1, .lst ⟨⟨fun q => ?_, e3.1⟩, e3.2⟩ (e4.sub sf)⟩
      have ha : a ∈ oa σ ow := mem_oa.mpr ⟨i, hi', e1⟩
      rcases mem_full.mp q with q | q
      · exact r.apart a ha q
      · obtain ⟨j, hj, ej⟩ := mem_oa.mp q
        exact hi (r.one i j a hi' (hs j hj) e1 ej ▸ hj)
    · obtain ⟨v, e1, z⟩ := r.fz i d hi' e
      exact ⟨v, e1, z.sub sf⟩
  · obtain ⟨a, vs, ds, e1, e2, e3, e4⟩ := r.own i d (hs i hi) e
    exact ⟨a, vs, ds, e1, e2, e3, e4.sub sf⟩
/-- a new list, known to nobody, into a slot of one's own -/
theorem Rel.setOwn {i : Nat} {q : Addr} {vs : List V} {ds : List D} {ow' : List Nat} (r : Rel K (B.plus q) H0 ow σ H γ) (hq : H q = some (.lst vs)) (hz : vs.length ≤ szN) (hn : H0 q = none) (hb : q ∉ B.base) (z : FzL K ((B.plus q).full σ ow) H vs ds)
    (hi : i < γ.length) (h' : ∀ j, j ∈ ow' ↔ j ∈ ow ∨ j = i) (h0 : B.io ≠ none → i ≠ 0) : Rel K B H0 ow' (σ.set i (some (.ref q))) H (γ.set i (some (.list ds))) := by
  have hl : i < σ.length := by rw [r.len]; exact hi
  have nq : ∀ a ∈ oa σ ow, a ≠ q := fun a h e => (r.xt q (by simp [Bd.plus])).2 (e ▸ h)
  have so : ∀ a ∈ oa (σ.set i (some (.ref q))) ow', a = q ∨ a ∈ oa σ ow := fun a h => by
    obtain ⟨j, h1, h2⟩ := mem_oa.mp h
    rcases set_inv h2 with ⟨rfl, e, _⟩ | ⟨ne, e⟩
    · left; injection e with e; injection e with e; exact e.symm
    · right
      rcases (h' j).mp h1 with h | h
      · exact mem_oa.mpr ⟨j, h, e⟩
      · exact absurd h.symm ne
  have sf : ∀ a ∈ B.full (σ.set i (some (.ref q))) ow', a ∈ (B.plus q).full σ ow := fun a h => by
    simp only [Bd.full, Bd.base, Bd.plus, List.mem_append, List.mem_cons] at h ⊢
    rcases h with (h | h) | h
    · exact .inl (.inl h)
    · exact .inl (.inr (.inr h))
    · rcases so a h with h | h
      · exact .inl (.inr (.inl h))
      · exact .inr h
  refine ⟨by simpa using r.len, fun j k a hj hk e1 e2 => ?_, fun j d' hj e => ?_, fun j d' hj e => ?_, fun a h => ?_, r.fr, fun a h => ?_, r.a0, fun a h => ?_, fun p hp => ?_⟩
  · rcases set_inv e1 with ⟨rfl, e3, _⟩ | ⟨ne, e3⟩
    · rcases set_inv e2 with ⟨rfl, _, _⟩ | ⟨ne2, e4⟩
      · rfl
      · injection e3 with e3; injection e3 with e3; subst e3
        rcases (h' k).mp hk with h | h
        · exact absurd rfl (nq _ (mem_oa.mpr ⟨k, h, e4⟩))
        · exact h.symm
    · rcases set_inv e2 with ⟨rfl, e4, _⟩ | ⟨ne2, e4⟩
      · injection e4 with e4; injection e4 with e4; subst e4
        rcases (h' j).mp hj with h | h
        · exact absurd rfl (nq _ (mem_oa.mpr ⟨j, h, e3⟩))
        · exact h
      · rcases (h' j).mp hj with h | h
        · rcases (h' k).mp hk with h2 | h2
          · exact r.one j k a h h2 e3 e4
          · exact absurd h2.symm ne2
        · exact absurd h.symm ne
  · have hj2 : j ∉ ow := fun z => hj ((h' j).mpr (.inl z))
    have hji : i ≠ j := fun z => hj ((h' j).mpr (.inr z.symm))
    rw [List.getElem?_set_ne hji] at e
    obtain ⟨w, h1, h2⟩ := r.fz j d' hj2 e
    exact ⟨w, by rw [List.getElem?_set_ne hji]; exact h1, h2.sub sf⟩
  · by_cases hji : i = j
    · subst hji
      rw [List.getElem?_set_self hi] at e
      injection e with e; injection e with e; subst e
      exact ⟨q, vs, ds, by rw [List.getElem?_set_self hl], rfl, ⟨hq, hz⟩, z.sub sf⟩
    · rw [List.getElem?_set_ne hji] at e
      rcases (h' j).mp hj with h | h
      · obtain ⟨a, vs', ds', e1, e2, e3, e4⟩ := r.own j d' h e
        exact ⟨a, vs', ds', by rw [List.getElem?_set_ne hji]; exact e1, e2, e3, e4.sub sf⟩
      · exact absurd h.symm hji
  · rcases so a h with rfl | h
    · exact ⟨vs, hq⟩
    · exact r.trk a h
  · rcases so a h with rfl | h
    · exact .inl hn
    · exact r.new a h
  · refine ⟨(r.xt a (List.mem_cons_of_mem _ h)).1, fun z2 => ?_⟩
    rcases so a z2 with rfl | z2
    · exact hb (List.mem_append_right _ h)
    · exact (r.xt a (List.mem_cons_of_mem _ h)).2 z2
  · obtain ⟨h1, h2⟩ := r.io p hp
    have hi0 : i ≠ 0 := h0 (by rw [hp]; simp)
    exact ⟨(h' 0).mpr (.inl h1), by rw [List.getElem?_set_ne hi0]; exact h2⟩
/-- a list of one's own is written -/
theorem Rel.write {i : Nat} {q : Addr} {vs : List V} {ds : List D} (r : Rel K B H0 ow σ H γ) (hi : i ∈ ow) (hq : σ[i]? = some (some (.ref q))) (hf : Fr [q] H H') (hv : H' q = some (.lst vs)) (hz : vs.length ≤ szN) (z : FzL K (B.full σ ow) H' vs ds) :
    Rel K B H0 ow σ H' (γ.set i (some (.list ds))) := by
  have qo : q ∈ oa σ ow := mem_oa.mpr ⟨i, hi, hq⟩
  have qf : q ∈ B.full σ ow := mem_full.mpr (.inr qo)
  have f' : Fr (B.full σ ow) H H' := hf.mono fun x hx => by rw [List.mem_singleton.mp hx]; exact qf
  have ne1 : ∀ {a : Addr}, a ≠ q → a ∉ [q] := fun h z => h (List.mem_singleton.mp z)
  refine ⟨by simpa using r.len, r.one, fun j d' hj e => ?_, fun j d' hj e => ?_, fun a h => ?_, fun b o e n => ?_, r.new, r.a0, fun a h => ?_, r.io⟩
  · have hji : i ≠ j := fun z => hj (z ▸ hi)
    rw [List.getElem?_set_ne hji] at e
    obtain ⟨w, h1, h2⟩ := r.fz j d' hj e
    exact ⟨w, h1, h2.fr f'⟩
  · by_cases hji : i = j
    · subst hji
      rcases set_inv e with ⟨_, e, _⟩ | ⟨ne, _⟩
      · injection e with e; subst e
        exact ⟨q, vs, ds, hq, rfl, ⟨hv, hz⟩, z⟩
      · exact absurd rfl ne
    · rw [List.getElem?_set_ne hji] at e
      obtain ⟨a, vs', ds', e1, e2, e3, e4⟩ := r.own j d' hj e
      have na : a ≠ q := fun e => hji (r.one i j q hi hj hq (e ▸ e1))
      exact ⟨a, vs', ds', e1, e2, ⟨hf _ _ e3.1 (ne1 na), e3.2⟩, e4.fr f'⟩
  · by_cases e : a = q
    · rw [e]; exact ⟨vs, hv⟩
    · obtain ⟨xs, e2⟩ := r.trk a h
      exact ⟨xs, hf _ _ e2 (ne1 e)⟩
  · have nb : b ≠ q := fun z2 => by
      subst z2
      rcases r.new b qo with h | h
      · rw [h] at e; cases e
      · exact n h
    exact hf b o (r.fr b o e n) (ne1 nb)
  · refine ⟨?_, (r.xt a h).2⟩
    have nb : a ≠ q := fun z2 => (r.xt a h).2 (z2 ▸ qo)
    have := (r.xt a h).1
    cases e : H a with
    | none => exact absurd e this
    | some o => rw [hf a o e (ne1 nb)]; simp
end

/-! ### calls -/
section
variable {X : Cx} {B : Bd} {ow : List Nat} {E α β τ : Type} {Γ : E → List (Option D)} {p s : Bool} {e : Expr} {es : List Expr} {pos px py : Pos} {G : E → Prop} {d : E → α} {u : E → E} {k : Nat} {f : Addr} {fd : FuncData} {ps : List Str} {x y : Str}
  {cs : α → List D} {c : β → D} {Gf : α → Prop} {fm : α → β}
theorem d_call (F : FnG X.prog X.w X.K X.mg X.base k f fd ps (spP X.K cs c Gf fm)) (hr : Room k X.A) (hgd : X.A.guards = some []) (hm : X.mg x = some (.ref f)) (hk : PySem.W.keepIn X.K (.ref f) = true) (hb : Binds X.K fd ps []) (h : DA X B ow Γ p s (e :: es) cs G d u)
    (hg : Gl X x := by rfl) (hdb : (x == ("__debug__" : Str)) = false := by decide) (he : starEach (e :: es) X.env = (false, eval e X.env) :: starEach es X.env := by rfl) (hpl : (backTo pos (starEach es X.env)).any (·.1) = false := by rfl) :
    De X B ow Γ p s (.Call (.Name x px) (e :: es) [] pos) c (fun ε => G ε ∧ Gf (d ε)) (fun ε => fm (d ε)) u :=
  ⟨(pe_callG F hr hgd hm hk hb h.pa hg hdb he hpl).weaken fun σ H Q ⟨H0, ε, rl, ⟨g1, g2⟩, kk⟩ => ⟨H0, ε, rl, g1, fun vs H1 f1 r1 z1 =>
    ⟨_, d ε, r1.tr s, z1, g2, fun v H' f' z' => kk v H' (f1.trans f'.nil) (r1.grow f') z'⟩⟩⟩
variable {ci : τ → List D} {GS : α × τ → Prop} {fS : α × τ → β × τ}
theorem d_callS (j : Nat) (gt : E → τ) (put : E → τ → E) (hget : ∀ ε, (Γ ε)[j]? = some (some (.list (ci (gt ε))))) (hput : ∀ ε t, Γ (put ε t) = (Γ ε).set j (some (.list (ci t)))) (F : FnG X.prog X.w X.K X.mg X.base k f fd ps (spS X.K cs ci c GS fS))
    (hr : Room k X.A) (hgd : X.A.guards = some []) (hm : X.mg x = some (.ref f)) (hk : PySem.W.keepIn X.K (.ref f) = true) (hb : Binds X.K fd ps []) (h : DA X B ow Γ p true es cs G d u) (hj : j ∈ ow := by decide) (hN : X.N[j]? = some y := by rfl)
    (hv : Vis X.env.scope y := by first | exact Or.inl rfl | exact Or.inr (Or.inl rfl) | exact Or.inr (Or.inr rfl)) (hd : (y == ("__debug__" : Str)) = false := by decide) (hcd : (y == ("__classdict__" : Str)) = false := by decide)
    (hst : starEach (.Name y py :: es) X.env = (false, eval (.Name y py) X.env) :: starEach es X.env := by rfl)
    (hg : Gl X x := by rfl) (hdb : (x == ("__debug__" : Str)) = false := by decide) (hpl : (backTo pos (starEach es X.env)).any (·.1) = false := by rfl) :
    De X B ow Γ false true (.Call (.Name x px) (.Name y py :: es) [] pos) c (fun ε => G ε ∧ GS (d ε, gt (u ε))) (fun ε => (fS (d ε, gt (u ε))).1) (fun ε => put (u ε) (fS (d ε, gt (u ε))).2) :=
  ⟨(pe_callG F hr hgd hm hk hb (pa_cons (pe_var hN hv hd hcd) h.pa hst) hg hdb hst hpl).weaken fun σ H Q ⟨H0, ε, rl, ⟨g1, g2⟩, kk⟩ => by
    obtain ⟨a, vs, ds, e1, e2, e3, e4⟩ := rl.own j _ hj (hget ε)
    refine ⟨_, e1, H0, ε, rl, g1, fun ws H1 f1 r1 z1 => ?_⟩
    obtain ⟨a', us, ds', e1', e2', e3', e4'⟩ := r1.own j _ hj (hget (u ε))
    have ea : a' = a := by rw [e1] at e1'; injection e1' with q; injection q with q; injection q with q; exact q.symm
    subst ea
    injection e2' with e2'
    have ho : a' ∈ oa σ ow := mem_oa.mpr ⟨j, hj, e1⟩
    have s1 : ∀ b ∈ (B.full σ ow).filter (fun b => decide (b ≠ a')) ++ [a'], b ∈ B.full σ ow := fun b hb => by
      rcases List.mem_append.mp hb with h | h
      · exact (List.mem_filter.mp h).1
      · rw [List.mem_singleton.mp h]; exact mem_full.mpr (.inr ho)
    have s2 : ∀ b ∈ B.full σ ow, b ∈ (B.full σ ow).filter (fun b => decide (b ≠ a')) ++ [a'] := fun b hb => by
      by_cases q : b = a'
      · subst q; exact List.mem_append_right _ (List.mem_singleton.mpr rfl)
      · exact List.mem_append_left _ (List.mem_filter.mpr ⟨hb, decide_eq_true q⟩)
    refine ⟨(B.full σ ow).filter (fun b => decide (b ≠ a')), a', us, ws, d ε, gt (u ε), fun b hb => r1.tracked b (List.mem_filter.mp hb).1, fun q => by simpa using (List.mem_filter.mp q).2, rfl, e3', ?_, FzL.sub s1 z1, g2, fun v H' us' f' h' hz z2 z3 => ?_⟩
    · rw [e2']; exact e4'.sub s1
    · refine kk v H' (Fr.trans (A := oa σ ow) ?_ (f'.mono fun b hb => by rw [List.mem_singleton.mp hb]; exact ho)) ?_ (z3.sub s2)
      · cases p with
        | true => exact Fr.nil f1
        | false => exact f1
      · rw [hput]
        exact r1.write hj e1 f' h' hz (z2.sub s2)⟩
end
end Y
namespace Y
open PySem PySem.Spec L2

/-! ### a new list -/
section
variable {E α β : Type}
def tFs (K : Frag) (B : Bd) (ow : List Nat) (Γ : E → List (Option D)) (p : Bool) (c : α → D) (G : E → Prop) (d : E → List α) (u : E → E) : TE := fun σ H Q =>
  ∃ H0 ε, Rel K B H0 ow σ H (Γ ε) ∧ G ε ∧ ∀ q H' vs, H q = none → Fr (cond p [] (oa σ ow)) H H' → Rel K (B.plus q) H0 ow σ H' (Γ (u ε)) → H' q = some (.lst vs) → vs.length ≤ szN → FzL K ((B.plus q).full σ ow) H' vs ((d ε).map c) → Q (.ref q) H'
structure DL (X : Cx) (B : Bd) (ow : List Nat) (Γ : E → List (Option D)) (p : Bool) (e : Expr) (c : α → D) (G : E → Prop) (d : E → List α) (u : E → E) : Prop where
  pe : PE X e (tFs X.K B ow Γ p c G d u)
end
theorem Rel.h0 {K : Frag} {B : Bd} {H0 H : Hp} {ow : List Nat} {σ : L2.St} {γ : List (Option D)} (r : Rel K B H0 ow σ H γ) {q : Addr} (h : H q = none) : H0 q = none ∨ q ∈ B.io.toList := by
  by_cases hq : q ∈ B.io.toList
  · exact .inr hq
  · left
    cases e : H0 q with
    | none => rfl
    | some o => rw [r.fr q o e hq] at h; cases h
theorem Rel.notio {K : Frag} {B : Bd} {H0 H : Hp} {ow : List Nat} {σ : L2.St} {γ : List (Option D)} (r : Rel K B H0 ow σ H γ) {q : Addr} (h : H q = none) : q ∉ B.io.toList := fun hq => by
  cases hb : B.io with
  | none => rw [hb] at hq; simp at hq
  | some p =>
    rw [hb] at hq
    have e : q = p := by simpa using hq
    obtain ⟨h1, h2⟩ := r.io p hb
    obtain ⟨xs, e2⟩ := r.trk p (mem_oa.mpr ⟨0, h1, h2⟩)
    rw [e, e2] at h; cases h
section
variable {X : Cx} {B : Bd} {ow : List Nat} {E α β γ : Type} {Γ : E → List (Option D)} {p s : Bool} {e : Expr} {es : List Expr} {pos : Pos} {c : α → D} {G : E → Prop} {d : E → List α} {u : E → E}
theorem DL.de (h : DL X B ow Γ p e c G d u) : De X B ow Γ p true e (cL c) G d u := ⟨h.pe.weaken fun σ H Q ⟨H0, ε, rl, g, k⟩ => ⟨H0, ε, rl, g, fun q H' vs hq f r hv hz z => k _ H' f r.unplus (by
  refine .lst ⟨⟨fun h => ?_, hv⟩, hz⟩ (z.sub full_plus)
  rcases mem_full.mp h with h | h
  · exact rl.base_trk q h hq
  · exact (r.xt q (by simp [Bd.plus])).2 h)⟩⟩
/-- forms that make a list of values -/
theorem DL.of {t : TE} {m : L2.St → Hp → (List V → Hp → Prop) → Prop} (ht : PE X e t) (h : ∀ σ H Q, m σ H (fun vs H1 => ∀ q, H1 q = none → Q (.ref q) (upd H1 q (.lst vs))) → t σ H Q)
    (hm : ∀ σ H (H0 : Hp) ε Q, Rel X.K B H0 ow σ H (Γ ε) → G ε → (∀ vs H1, Fr (cond p [] (oa σ ow)) H H1 → Rel X.K B H0 ow σ H1 (Γ (u ε)) → vs.length ≤ szN → FzL X.K (B.full σ ow) H1 vs ((d ε).map c) → Q vs H1) → m σ H Q)
    (hk : ∀ σ H H1, Fr (cond p [] (oa σ ow)) H H1 → ∀ q, H1 q = none → H q = none) : DL X B ow Γ p e c G d u :=
  ⟨ht.weaken fun σ H Q ⟨H0, ε, rl, g, k⟩ => h σ H Q (hm σ H H0 ε _ rl g fun vs H1 f1 r1 hz z1 q hq => k q _ vs (hk σ H H1 f1 q hq) (f1.trans (Fr.new hq)) (r1.plus hq) upd_same hz (by
    have z2 : FzL X.K (q :: B.full σ ow) H1 vs ((d ε).map c) := z1.more hq
    refine (z2.sub fun x hx => ?_).fr (Fr.new hq)
    simp only [Bd.full, Bd.base, Bd.plus, List.mem_append, List.mem_cons] at hx ⊢
    rcases hx with (h | h | h) | h
    · exact .inr (.inl (.inl h))
    · exact .inl h
    · exact .inr (.inl (.inr h))
    · exact .inr (.inr h)))⟩
theorem tracked_back {H H1 : Hp} {A : List Addr} (hA : ∀ a ∈ A, H1 a ≠ none) (f : Fr A H H1) {q : Addr} (hq : H1 q = none) : H q = none := by
  cases e : H q with
  | none => rfl
  | some o => rw [f q o e fun z => hA q z hq] at hq; cases hq
end

/-! ### statements -/
inductive Out (N R S : Type) where
  | nx (n : N) | rt (r : R) | bk (s : S) | ct (s : S)
@[reducible] def Out.bind {N M R S : Type} (o : Out N R S) (k : N → Out M R S) : Out M R S := match o with
  | .nx n => k n
  | .rt r => .rt r
  | .bk s => .bk s
  | .ct s => .ct s
def EX {R : Type} (K : Frag) (B : Bd) (cr : R → D) (ci : R → List D) (H0 : Hp) (r : R) (v : V) (H' : Hp) : Prop :=
  Fr B.io.toList H0 H' ∧ Fz K (B.base ++ B.io.toList) H' v (cr r) ∧ ∀ p, B.io = some p → ∃ us, (H' p = some (.lst us) ∧ us.length ≤ szN) ∧ FzL K (B.base ++ B.io.toList) H' us (ci r)
section
variable {E N R S : Type}
def tSS (K : Frag) (B : Bd) (ow : List Nat) (Γ : E → List (Option D)) (cr : R → D) (ci : R → List D) (owS : List Nat) (ΓS : S → List (Option D)) (G : E → Prop) (d : E → Out N R S) (ow' : List Nat) (Γ' : N → List (Option D)) : TS := fun Dn σ H =>
  ∃ H0 ε, Rel K B H0 ow σ H (Γ ε) ∧ G ε ∧ match d ε with
    | .nx n => ∀ σ' H', Rel K B H0 ow' σ' H' (Γ' n) → Dn.nx σ' H'
    | .rt r => ∀ v H', EX K B cr ci H0 r v H' → Dn.rt v H'
    | .bk s => ∀ σ' H', Rel K B H0 owS σ' H' (ΓS s) → Dn.bk σ' H'
    | .ct s => ∀ σ' H', Rel K B H0 owS σ' H' (ΓS s) → Dn.ct σ' H'
structure Ds (X : Cx) (B : Bd) (ow : List Nat) (Γ : E → List (Option D)) (cr : R → D) (ci : R → List D) (owS : List Nat) (ΓS : S → List (Option D)) (st : Stmt) (G : E → Prop) (d : E → Out N R S) (ow' : List Nat) (Γ' : N → List (Option D)) : Prop where
  ps : PS X st (tSS X.K B ow Γ cr ci owS ΓS G d ow' Γ')
structure Dss (X : Cx) (B : Bd) (ow : List Nat) (Γ : E → List (Option D)) (cr : R → D) (ci : R → List D) (owS : List Nat) (ΓS : S → List (Option D)) (sts : List Stmt) (G : E → Prop) (d : E → Out N R S) (ow' : List Nat) (Γ' : N → List (Option D)) : Prop where
  pss : PSs X sts (tSS X.K B ow Γ cr ci owS ΓS G d ow' Γ')
end
section
variable {X : Cx} {B : Bd} {ow ow1 ow2 ow' owS : List Nat} {E E2 N N1 R S α β τ : Type} {Γ : E → List (Option D)} {Γ1 : N1 → List (Option D)} {Γ' : N → List (Option D)} {ΓS : S → List (Option D)} {cr : R → D} {ci : R → List D}
  {st : Stmt} {sts : List Stmt} {G G1 : E → Prop} {G2 : N1 → Prop} {d : E → Out N R S} {d1 : E → Out N1 R S} {d2 : N1 → Out N R S} {pos px : Pos} {e : Expr} {p s : Bool} {u : E → E}
theorem s_nil : Dss X B ow Γ cr ci owS ΓS [] (fun _ => True) (fun ε => .nx ε) ow Γ := ⟨pss_nil.weaken fun Dn σ H ⟨H0, ε, rl, _, k⟩ => k σ H rl⟩
theorem s_one (h : Ds X B ow Γ cr ci owS ΓS st G d ow' Γ') : Dss X B ow Γ cr ci owS ΓS [st] G d ow' Γ' := ⟨pss_one h.ps⟩
/-- a statement that goes on, the rest -/
theorem s_cons {f : E → N1} (h1 : Ds X B ow Γ cr ci owS ΓS st G1 (fun ε => .nx (f ε)) ow1 Γ1) (h2 : Dss X B ow1 Γ1 cr ci owS ΓS sts G2 d2 ow' Γ') : Dss X B ow Γ cr ci owS ΓS (st :: sts) (fun ε => G1 ε ∧ G2 (f ε)) (fun ε => d2 (f ε)) ow' Γ' :=
  ⟨(pss_cons h1.ps h2.pss).weaken fun Dn σ H ⟨H0, ε, rl, ⟨g1, g2⟩, k⟩ => ⟨H0, ε, rl, g1, fun σ' H' r' => ⟨H0, f ε, r', g2, k⟩⟩⟩
/-- a statement that may leave, the rest -/
theorem s_consM (h1 : Ds X B ow Γ cr ci owS ΓS st G1 d1 ow1 Γ1) (h2 : Dss X B ow1 Γ1 cr ci owS ΓS sts G2 d2 ow' Γ') : Dss X B ow Γ cr ci owS ΓS (st :: sts) (fun ε => G1 ε ∧ ∀ n, d1 ε = .nx n → G2 n) (fun ε => (d1 ε).bind d2) ow' Γ' :=
  ⟨(pss_cons h1.ps h2.pss).weaken fun Dn σ H ⟨H0, ε, rl, ⟨g1, g2⟩, k⟩ => ⟨H0, ε, rl, g1, by
    cases h : d1 ε with
    | nx n => simp only [h, Out.bind] at k; exact fun σ' H' r' => ⟨H0, n, r', g2 n h, k⟩
    | rt r => simp only [h, Out.bind] at k; exact k
    | bk r => simp only [h, Out.bind] at k; exact k
    | ct r => simp only [h, Out.bind] at k; exact k⟩⟩
/-- the slots told otherwise ahead of it -/
theorem s_conv {Γ2 : E2 → List (Option D)} {G : E2 → Prop} {d : E2 → Out N R S} (f : E → E2) (hc : ∀ (H0 : Hp) ε σ H, Rel X.K B H0 ow σ H (Γ ε) → Rel X.K B H0 ow2 σ H (Γ2 (f ε))) (h : Dss X B ow2 Γ2 cr ci owS ΓS sts G d ow' Γ') :
    Dss X B ow Γ cr ci owS ΓS sts (fun ε => G (f ε)) (fun ε => d (f ε)) ow' Γ' :=
  ⟨h.pss.weaken fun Dn σ H ⟨H0, ε, rl, g, k⟩ => ⟨H0, f ε, hc H0 ε σ H rl, g, k⟩⟩
theorem Dss.is {d' : E → Out N R S} {G' : E → Prop} (h : Dss X B ow Γ cr ci owS ΓS sts G d ow' Γ') (hg : ∀ ε, G' ε → G ε) (hd : ∀ ε, G' ε → d ε = d' ε) : Dss X B ow Γ cr ci owS ΓS sts G' d' ow' Γ' :=
  ⟨h.pss.weaken fun Dn σ H ⟨H0, ε, rl, g, k⟩ => ⟨H0, ε, rl, hg ε g, by rw [hd ε g]; exact k⟩⟩
/-- what follows is told with fewer slots -/
theorem Dss.wk {f : E → N} {N2 : Type} {Γ2 : N2 → List (Option D)} (g : E → N2) (hc : ∀ (H0 : Hp) ε σ H, Rel X.K B H0 ow' σ H (Γ' (f ε)) → Rel X.K B H0 ow2 σ H (Γ2 (g ε))) (h : Dss X B ow Γ cr ci owS ΓS sts G (fun ε => .nx (f ε)) ow' Γ') : Dss X B ow Γ cr ci owS ΓS sts G (fun ε => .nx (g ε)) ow2 Γ2 :=
  ⟨h.pss.weaken fun Dn σ H ⟨H0, ε, rl, gg, k⟩ => ⟨H0, ε, rl, gg, fun σ' H' r' => k σ' H' (hc H0 ε σ' H' r')⟩⟩
/-- never reached -/
theorem s_no : Ds X B ow Γ cr ci owS ΓS st (fun _ => False) d ow' Γ' := ⟨ps_never.weaken fun Dn σ H ⟨_, _, _, g, _⟩ => g⟩
theorem ss_no : Dss X B ow Γ cr ci owS ΓS sts (fun _ => False) d ow' Γ' := ⟨pss_never.weaken fun Dn σ H ⟨_, _, _, g, _⟩ => g⟩
theorem s_pass : Ds X B ow Γ cr ci owS ΓS (.Pass pos) (fun _ => True) (fun ε => .nx ε) ow Γ := ⟨ps_pass.weaken fun Dn σ H ⟨H0, ε, rl, _, k⟩ => k σ H rl⟩

/-! stores -/
theorem s_asg {x : Str} {c : α → D} {dv : E → α} (i : Nat) (he : De X B ow Γ p true e c G dv u) (hio : i ∉ ow := by decide) (hi : X.N[i]? = some x := by rfl) (hx : Loc X.env.scope x := by first | exact .inl rfl | exact .inr rfl) (hN : X.N.Nodup := by assumption)
    (hs : swapsWith e (some (.Name x px)) pos.line X.env = pure false := by rfl) (hf : X.fn x = true ∨ X.env.scope.names.lookup x = some .local := by first | exact .inl rfl | exact .inr rfl) :
    Ds X B ow Γ cr ci owS ΓS (.Assign [.Name x px] e pos) G (fun ε => .nx (u ε, dv ε)) ow (fun q : E × α => (Γ q.1).set i (some (c q.2))) :=
  ⟨(ps_set (pos' := px) (pos := pos) hN hi hx he.pe hs hf).weaken fun Dn σ H ⟨H0, ε, rl, g, k⟩ => ⟨H0, ε, rl, g, fun v H' f r z => k _ H' (r.set hio z)⟩⟩
theorem s_own {x : Str} {c : α → D} {dv : E → List α} (i : Nat) (he : DL X B ow Γ p e c G dv u) (hl : ∀ ε, i < (Γ ε).length) (h' : ∀ j, j ∈ ow' ↔ j ∈ ow ∨ j = i) (h0 : B.io ≠ none → i ≠ 0) (hi : X.N[i]? = some x := by rfl) (hx : Loc X.env.scope x := by first | exact .inl rfl | exact .inr rfl)
    (hN : X.N.Nodup := by assumption) (hs : swapsWith e (some (.Name x px)) pos.line X.env = pure false := by rfl) (hf : X.fn x = true ∨ X.env.scope.names.lookup x = some .local := by first | exact .inl rfl | exact .inr rfl) :
    Ds X B ow Γ cr ci owS ΓS (.Assign [.Name x px] e pos) G (fun ε => .nx (u ε, dv ε)) ow' (fun q : E × List α => (Γ q.1).set i (some (.list (q.2.map c)))) :=
  ⟨(ps_set (pos' := px) (pos := pos) hN hi hx he.pe hs hf).weaken fun Dn σ H ⟨H0, ε, rl, g, k⟩ => ⟨H0, ε, rl, g, fun q H' vs hq f r hv hz z => k _ H' (r.setOwn hv hz (by
    rcases rl.h0 hq with h | h
    · exact h
    · exact absurd h (rl.notio hq)) (fun h => rl.base_trk q h hq) z (hl _) h' h0)⟩⟩
theorem s_par {x y : Str} {a b : Expr} {cs : τ → List D} {ca : α → D} {cb : β → D} {dv : E → τ} {ga : τ → α} {gb : τ → β} {py pt : Pos} {kt k2 pt2} (i j : Nat) (h : DA X B ow Γ p true [a, b] cs G dv u) (hcs : ∀ t, cs t = [ca (ga t), cb (gb t)])
    (hw : swappedStores [.Tuple [.Name x px, .Name y py] kt pt] (.Tuple [a, b] k2 pt2) X.env = pure (some [x, y])) (hij : i ≠ j := by decide) (hio : i ∉ ow := by decide) (hjo : j ∉ ow := by decide)
    (hi : X.N[i]? = some x := by rfl) (hj : X.N[j]? = some y := by rfl) (hx : X.env.scope.names.lookup x = some .local := by rfl) (hy : X.env.scope.names.lookup y = some .local := by rfl) (hN : X.N.Nodup := by assumption) (hc : X.calm = true := by rfl)
    (hs : swapsWithSole [.Tuple [.Name x px, .Name y py] kt pt] (.Tuple [a, b] k2 pt2) pos.line X.env = pure false := by rfl) :
    Ds X B ow Γ cr ci owS ΓS (.Assign [.Tuple [.Name x px, .Name y py] kt pt] (.Tuple [a, b] k2 pt2) pos) G (fun ε => .nx ((u ε, ga (dv ε)), gb (dv ε))) ow (fun q : (E × α) × β => ((Γ q.1.1).set i (some (ca q.1.2))).set j (some (cb q.2))) :=
  ⟨(ps_par hc hN hi hj hij hx hy h.pa hw hs).weaken fun Dn σ H ⟨H0, ε, rl, g, k⟩ => ⟨H0, ε, rl, g, fun vs H' f r z => by
    have z' : FzL X.K (B.full σ ow) H' vs [ca (ga (dv ε)), cb (gb (dv ε))] := by rw [← hcs]; exact z
    obtain ⟨v, w, rfl, z1, z2⟩ := fzl2 (ds := []) z'
    refine ⟨v, w, rfl, k _ H' ((r.set hio z1).set hjo ?_)⟩
    unfold Bd.full
    rw [oa_set hio]
    exact z2⟩⟩
/-- x += e of ints -/
theorem s_aug {x : Str} {op : Operator} {f : Int → Int → Int} {gx : E → Int} {dv : E → Int} (i : Nat) (ho : PIp X op (ipI f)) (hg : ∀ ε, (Γ ε)[i]? = some (some (cI (gx ε)))) (he : De X B ow Γ true true e cI G dv (fun ε => ε)) (hio : i ∉ ow := by decide) (hi : X.N[i]? = some x := by rfl)
    (hx : Loc X.env.scope x := by first | exact .inl rfl | exact .inr rfl) (hN : X.N.Nodup := by assumption) (hf : X.fn x = true ∨ X.env.scope.names.lookup x = some .local := by first | exact .inl rfl | exact .inr rfl) :
    Ds X B ow Γ cr ci owS ΓS (.AugAssign (.Name x px) op e pos) G (fun ε => .nx (ε, f (gx ε) (dv ε))) ow (fun q : E × Int => (Γ q.1).set i (some (cI q.2))) :=
  ⟨(ps_aug (pos' := px) (pos := pos) hN hi hx he.pe ho hf).weaken fun Dn σ H ⟨H0, ε, rl, g, k⟩ => by
    obtain ⟨v, e1, z1⟩ := rl.fz i _ hio (hg ε)
    cases z1.int_inv
    refine ⟨_, e1, H0, ε, rl, g, fun w H' f' r z2 => ?_⟩
    cases z2.int_inv
    exact ⟨_, _, rfl, rfl, k _ H' (r.set hio (.int _))⟩⟩
theorem s_drop {c : α → D} {dv : E → α} (he : De X B ow Γ p s e c G dv u) (hs : swapsWith e none pos.line X.env = pure false := by rfl) : Ds X B ow Γ cr ci owS ΓS (.Expr e pos) G (fun ε => .nx (u ε)) ow Γ :=
  ⟨(ps_expr he.pe hs).weaken fun Dn σ H ⟨H0, ε, rl, g, k⟩ => ⟨H0, ε, rl, g, fun v H' f r z => k _ H' r⟩⟩
theorem s_ret {c : α → D} {dv : E → α} {r : α → E → R} (hcr : ∀ a ε, cr (r a ε) = c a) (hb : B.io = none) (he : De X B ow Γ p s e c G dv u) : Ds X B ow Γ cr ci owS ΓS (.Return (some e) pos) G (fun ε => .rt (r (dv ε) (u ε))) ow' Γ' :=
  ⟨(ps_ret he.pe).weaken fun Dn σ H ⟨H0, ε, rl, g, k⟩ => ⟨H0, ε, rl, g, fun v H' f r' z => k v H' ⟨r'.fr, by
    rw [hcr, hb]
    refine z.sub fun a ha => ?_
    have ha' : a ∈ B.base := by simpa using ha
    cases s with
    | true => exact List.mem_append_left _ ha'
    | false => exact ha', fun p hp => by rw [hb] at hp; cases hp⟩⟩⟩
theorem s_retS {c : α → D} {dv : E → α} {r : α → E → R} (hcr : ∀ a ε, cr (r a ε) = c a) (hci : ∀ a ε, (Γ ε)[0]? = some (some (.list (ci (r a ε))))) (he : De X B ow Γ p true e c G dv u) : Ds X B ow Γ cr ci owS ΓS (.Return (some e) pos) G (fun ε => .rt (r (dv ε) (u ε))) ow' Γ' :=
  ⟨(ps_ret he.pe).weaken fun Dn σ H ⟨H0, ε, rl, g, k⟩ => ⟨H0, ε, rl, g, fun v H' f r' z => by
    have sub : ∀ a ∈ B.base ++ B.io.toList, a ∈ B.full σ ow := fun a ha => by
      rcases List.mem_append.mp ha with ha | ha
      · exact List.mem_append_left _ ha
      · cases hb : B.io with
        | none => rw [hb] at ha; simp at ha
        | some q =>
          rw [hb] at ha
          have e : a = q := by simpa using ha
          obtain ⟨h1, h2⟩ := r'.io q hb
          rw [e]
          exact mem_full.mpr (.inr (mem_oa.mpr ⟨0, h1, h2⟩))
    refine k v H' ⟨r'.fr, by rw [hcr]; exact z.sub sub, fun q hq => ?_⟩
    obtain ⟨h1, h2⟩ := r'.io q hq
    obtain ⟨a, vs, ds, e1, e2, e3, e4⟩ := r'.own 0 _ h1 (hci (dv ε) (u ε))
    rw [h2] at e1
    injection e1 with e1; injection e1 with e1; injection e1 with e1
    injection e2 with e2
    subst e1
    exact ⟨vs, e3, by rw [e2]; exact e4.sub sub⟩⟩⟩
variable {t : E → Bool} {a b : List Stmt} {Na Nb M : Type} {Γa : Na → List (Option D)} {Γb : Nb → List (Option D)} {ΓM : M → List (Option D)} {Ga Gb : E → Prop} {owa owb : List Nat} {fa fb : E → M}
/-- if, both ways going on, joined -/
theorem s_if (ht : Dt X B ow Γ p e G t (fun ε => ε)) (ha : Dss X B ow Γ cr ci owS ΓS a Ga (fun ε => .nx (fa ε)) ow' ΓM) (hb : Dss X B ow Γ cr ci owS ΓS b Gb (fun ε => .nx (fb ε)) ow' ΓM) :
    Ds X B ow Γ cr ci owS ΓS (.If e a b pos) (fun ε => G ε ∧ (t ε = true → Ga ε) ∧ (t ε = false → Gb ε)) (fun ε => .nx (if t ε = true then fa ε else fb ε)) ow' ΓM :=
  ⟨(ps_if ht.pt ha.pss hb.pss).weaken fun Dn σ H ⟨H0, ε, rl, ⟨g, g1, g2⟩, k⟩ => ⟨H0, ε, rl, g, fun H' f r => by
    cases h : t ε with
    | true =>
      rw [if_pos rfl]
      exact ⟨H0, ε, r, g1 h, fun σ' H' r' => k σ' H' (by rw [if_pos h]; exact r')⟩
    | false =>
      rw [if_neg Bool.false_ne_true]
      exact ⟨H0, ε, r, g2 h, fun σ' H' r' => k σ' H' (by rw [if_neg (by rw [h]; exact Bool.false_ne_true)]; exact r')⟩⟩⟩
/-- if, any ways -/
theorem s_ifM {da db : E → Out N R S} (ht : Dt X B ow Γ p e G t u) (ha : Dss X B ow Γ cr ci owS ΓS a Ga da ow' Γ') (hb : Dss X B ow Γ cr ci owS ΓS b Gb db ow' Γ') :
    Ds X B ow Γ cr ci owS ΓS (.If e a b pos) (fun ε => G ε ∧ (t ε = true → Ga (u ε)) ∧ (t ε = false → Gb (u ε))) (fun ε => if t ε = true then da (u ε) else db (u ε)) ow' Γ' :=
  ⟨(ps_if ht.pt ha.pss hb.pss).weaken fun Dn σ H ⟨H0, ε, rl, ⟨g, g1, g2⟩, k⟩ => ⟨H0, ε, rl, g, fun H' f r => by
    cases h : t ε with
    | true =>
      simp only [h, if_true] at k
      rw [if_pos rfl]
      exact ⟨H0, _, r, g1 h, k⟩
    | false =>
      simp only [h, Bool.false_eq_true, if_false] at k
      rw [if_neg Bool.false_ne_true]
      exact ⟨H0, _, r, g2 h, k⟩⟩⟩
/-- if c: (leaves), then the rest: as an if over both -/
theorem s_ifR {da db : E → Out N R S} (ht : Dt X B ow Γ p e G t u) (ha : Dss X B ow Γ cr ci owS ΓS a Ga da ow' Γ') (hleave : ∀ ε n, da ε ≠ .nx n) (hb : Dss X B ow Γ cr ci owS ΓS sts Gb db ow' Γ') :
    Dss X B ow Γ cr ci owS ΓS (.If e a [] pos :: sts) (fun ε => G ε ∧ (t ε = true → Ga (u ε)) ∧ (t ε = false → Gb (u ε))) (fun ε => if t ε = true then da (u ε) else db (u ε)) ow' Γ' :=
  ⟨(pss_cons (ps_if ht.pt ha.pss pss_nil) hb.pss).weaken fun Dn σ H ⟨H0, ε, rl, ⟨g, g1, g2⟩, k⟩ => ⟨H0, ε, rl, g, fun H' f r => by
    cases h : t ε with
    | true =>
      simp only [h, if_true] at k
      rw [if_pos rfl]
      refine ⟨H0, _, r, g1 h, ?_⟩
      cases q : da (u ε) with
      | nx n => exact absurd q (hleave _ n)
      | rt r => simp only [q] at k; exact k
      | bk r => simp only [q] at k; exact k
      | ct r => simp only [q] at k; exact k
    | false =>
      simp only [h, Bool.false_eq_true, if_false] at k
      rw [if_neg Bool.false_ne_true]
      exact ⟨H0, _, r, g2 h, k⟩⟩⟩
/-- if c: raise .., then the rest -/
theorem s_ifX {db : E → Out N R S} (ht : Dt X B ow Γ p e G t u) (hb : Dss X B ow Γ cr ci owS ΓS sts Gb db ow' Γ') :
    Dss X B ow Γ cr ci owS ΓS (.If e a [] pos :: sts) (fun ε => (G ε ∧ t ε = false) ∧ Gb (u ε)) (fun ε => db (u ε)) ow' Γ' :=
  ⟨(pss_cons (ps_if ht.pt pss_never pss_nil) hb.pss).weaken fun Dn σ H ⟨H0, ε, rl, ⟨⟨g, g1⟩, g2⟩, k⟩ => ⟨H0, ε, rl, g, fun H' f r => by
    rw [g1]
    show (if false = true then _ else _)
    rw [if_neg Bool.false_ne_true]
    exact ⟨H0, _, r, g2, k⟩⟩⟩
end
end Y
namespace Y
open PySem PySem.Spec PyProof.Rows L2

/-! ### enumerate(tuple) -/
def ItE (K : Frag) (a : Addr) : It :=
  ⟨fun i H => ∃ (xs : List V) (x : V), SqT K H a xs ∧ xs[i]? = some x, fun i H v H' => ∃ T x, v = .ref T ∧ H T = none ∧ H' = upd H T (.tup [.int (i : Nat), x]) ∧ ∀ xs, SqT K H a xs → xs[i]? = some x, fun i H => ∃ xs : List V, SqT K H a xs ∧ xs.length ≤ i⟩
theorem turn_enT {P : Program} {w : World} {K : Frag} {elts : List Expr} {kk : Nat} {tpos : Pos} (a e it : Addr) (hat : a ≠ it) (hae : a ≠ e) :
    Turn P w K (.Tuple elts kk tpos) (ItE K a) [e, it] e (fun i h => (∃ old, IsEnum h e it ((i : Nat) : Int) old) ∧ h.IsTupleIter it a i ∧ e ≠ it) where
  mem := List.mem_cons_self
  obj := fun i h st b hb => by
    obtain ⟨⟨old, he⟩, ⟨o, ho, hc, hd⟩, _⟩ := st
    rcases List.mem_cons.mp hb with z | hb
    · rw [z]; exact ⟨_, he, fun v q => nomatch q⟩
    · rw [List.mem_singleton.mp hb]; exact ⟨o, ho, fun v q => by rw [hd] at q; cases q⟩
  keep := fun i h h' st k => let ⟨⟨old, he⟩, hi, hne⟩ := st; ⟨⟨old, k e (by simp) _ he⟩, hi.at fun o q => k it (by simp) o q, hne⟩
  item := by
    intro X hP hw hK hc i pins s σ H E I hf st hg
    subst hP hw hK
    obtain ⟨⟨old, he⟩, hit, hne⟩ := st
    obtain ⟨xs, x, hq, hx⟩ := hg
    obtain ⟨its, rv, p, hz⟩ := I.tuple hq
    obtain ⟨u, hu, ru⟩ := rv.get hx
    have hel := Heap.lt_size he
    have hil : it < s.heap.objs.size := by obtain ⟨_, q, _⟩ := hit; exact Heap.lt_size q
    have hlt : i < its.toArray.size := by
      have h1 := rv.length
      have h2 := (List.getElem?_eq_some_iff.mp hx).1
      simp only [List.size_toArray]; omega
    have hcl : X.A.in1.handled = none := I.ok.hd hc
    refine wpAny_pyNext_enum_itemD (Draws.tuple hcl it a hat its.toArray) he ⟨hit, show s.heap.IsTuple a its.toArray from p⟩ hlt hne (fun z => by
      rcases List.mem_cons.mp z with z | z
      · exact hne z
      · exact hae (List.mem_singleton.mp z).symm) fun x' h' tk hx' ho st' hT hsz hk => ?_
    have ex : x' = u := by
      have : its.toArray[i]? = some u := by simpa using hu
      rw [this] at hx'; injection hx' with hx'; exact hx'.symm
    subst ex
    refine ⟨_, rfl, wpAny_letOwnedTupleGo_enum (s := { s with heap := h', toks := tk + 1 }) ho fun h'' he' sb => ?_⟩
    have hT2 : h''.get? s.heap.objs.size = some { cls := .type "tuple", data := .seq #[.int i tk, x'] } := (sb.2 _ (Nat.ne_of_gt hel)).trans hT
    have nw : ObjOk X.prog X.w (upd H s.heap.objs.size (.tup [.int (i : Nat), x])) h'' s.heap.objs.size (.tup [.int (i : Nat), x]) :=
      ⟨by show 2 ≤ sizeLine; decide, [.int i tk, x'], .cons ⟨_, rfl⟩ (.cons ru .nil), ⟨_, hT2, rfl, _, rfl⟩⟩
    have I1 := I.turnedNew (t' := tk + 1) (ch := [e, it]) (fun b ob hb q => (sb.2 b (fun z => hb (by simp [z]))).trans (hk b ob (fun z => hb (by simp [z])) (fun z => hb (by simp [z])) q)) hf (Nat.le_refl _) nw
    refine ⟨.ref s.heap.objs.size, _, I1, rfl, ⟨_, x, rfl, I.hok.fresh (Nat.le_refl _), rfl, fun ys hy => by rw [I.tuple_inj hy hq]; exact hx⟩, ⟨⟨x', ?_⟩, st'.1.at fun o q => (sb.2 it (Ne.symm hne)).trans q, hne⟩, fun b hb => ?_⟩
    · have e1 : ((i + 1 : Nat) : Int) = (i : Int) + 1 := by omega
      rw [e1]; exact he'
    · have hb' : b < s.heap.objs.size := by
        rcases List.mem_cons.mp hb with z | z
        · rw [z]; exact hel
        · rw [List.mem_singleton.mp z]; exact hil
      rw [upd_ne (Nat.ne_of_lt hb')]
      exact (hf b hb).1
  done := by
    intro X hP hw hK hc i pins s σ H E I hf st hg
    subst hP hw hK
    obtain ⟨⟨old, he⟩, hit, hne⟩ := st
    obtain ⟨xs, hq, hx⟩ := hg
    obtain ⟨its, rv, p, hz⟩ := I.tuple hq
    obtain ⟨f0, f1, f2, f3, f4, f5⟩ := hf it (by simp)
    have hT : s.TypeIs (.ref e) "enumerate" := ⟨_, he, rfl⟩
    have hcl : X.A.in1.handled = none := I.ok.hd hc
    have hl := rv.length
    unfold pyNext
    refine wpAny_bind (wpAny_attempt (wpAny_callSpecial?_slot (name := Str.ofString "__next__") hT F.slot_enumerate_next
      (wpAny_call_entry F.slot_enumerate_next hT F.entry_enumerate_next ?_ (F.args_enumerate_next_1 _))))
    show wpAny _ _ (field (.ref e) 2 >>= _) _ _ _
    refine wpAny_bind (wpAny_field he rfl (x := .ref it) rfl ?_)
    refine wpAny_bind (wpAny_nextOf_tuple_end hcl hit (show s.heap.IsTuple a its.toArray from p) (by simp; omega) fun h' x he' hx' => ?_)
    obtain ⟨o, ho, hc'⟩ := hx'
    refine wpAny_bind (wpAny_isInstance (T := "StopIteration") (b := true) ⟨o, ho, hc'⟩ isSubtype_stop ?_)
    exact wpAny_pure ⟨rfl, I.turned (t' := s.toks) (fun b o hb q => he' b o hb q) f0 f1 f3 f4 f5⟩
  self := fun A i s Q E st h => let ⟨⟨_, he⟩, _⟩ := st; wpAny_pyIter_enum he h
set_option maxHeartbeats 4000000 in
theorem meets_en_new {v : Value} {o : Obj} {Hh : Heap → Prop} (Bg : Begins v o Hh) :
    Meets (Builtin.«enumerate.__new__» ⟨[.type "enumerate", v], []⟩) (fun _ R s => Hh s.heap ∧
      R (.ok (.ret (.ref (s.heap.push o).objs.size))) { s with heap := (s.heap.push o).push { cls := .type "enumerate", data := .fields #[.none, .bool false, .ref s.heap.objs.size, rawInt 0, .none, .none] } }) := by
  refine .of_wp fun prog w A R s h => ?_
  obtain ⟨hp, g, d, tk, os⟩ := s
  obtain ⟨h1, h⟩ := h
  have hsub := sub_enumerate
  have q1 : ∀ {A' : Around} {E : Value → Shared → Prop} {Q : Value → Shared → Prop}, Q (.ref hp.objs.size) ⟨hp.push o, g, d, tk, os⟩ → wpAny (model prog w) A' (pyIter v) Q E ⟨hp, g, d, tk, os⟩ := fun q => Bg.iter prog w _ _ _ _ h1 q
  wp_walk using q1
  refine wpAny_stack_any fun st => wpAny_pure ?_
  split
  · rename_i c _ _ _ _ _
    cases (c == Value.type "enumerate") <;> (wp_walk using q1; exact ⟨_, rfl, h⟩)
  · wp_walk using q1
    exact ⟨_, rfl, h⟩
def iEnT (K : Frag) (ta : TA) : TI := fun σ H R => ta σ H fun vs H1 => ∃ a xs, vs = [.ref a] ∧ SqT K H1 a xs ∧ R (ItE K a) H1
theorem pi_enT {X : Cx} {e : Expr} {ta : TA} {p pos tpos : Pos} {elts : List Expr} {kk : Nat} (hg : Gl X "enumerate") (hm : X.mg "enumerate" = none) (ha : PA X [e] ta) (hs : starEach [e] X.env = [(false, eval e X.env)] := by rfl) :
    PI X (.Tuple elts kk tpos) (.Call (.Name "enumerate" p) [e] [] pos) (iEnT X.K ta) := by
  constructor
  intro pins s σ H R I h
  refine Call_ (ld_blt I hg hm boot_enumerate (callWith_type1 (thn (ha.run pos pins s σ H _ I h) fun us s1 ⟨vs, H1, I1, r1, q1⟩ => ?_) hs rfl))
  obtain ⟨a, xs, ex, hq, q⟩ := q1
  subst ex
  cases r1 with
  | cons r rr =>
    cases rr
    cases r
    obtain ⟨its, rv, p', hz⟩ := I1.tuple hq
    refine callType_new F.called_enumerate (by decide) (F.typeCall_enumerate_1 _) (F.newCall_enumerate_1 _) (fun obj => F.args_object_init_2 obj _) F.entry_enumerate_new (meets_en_new (begins_tuple a its.toArray)) ⟨show s1.heap.IsTuple a its.toArray from p', ?_⟩
    generalize hob : ({ cls := .type "tuple_iterator", data := .fields #[.ref a, .int 0 0] } : Obj) = ob
    have hfr : ob.isFreed = false := by rw [← hob]; rfl
    have hz1 : (s1.heap.push ob).objs.size = s1.heap.objs.size + 1 := Heap.size_push ..
    show _ ∧ _
    rw [hz1]
    have he : IsEnum ((s1.heap.push ob).push { cls := .type "enumerate", data := .fields #[.none, .bool false, .ref s1.heap.objs.size, rawInt 0, .none, .none] }) (s1.heap.objs.size + 1) s1.heap.objs.size 0 .none := by
      have := Heap.get?_push_size (s1.heap.push ob) (o := { cls := .type "enumerate", data := .fields #[.none, .bool false, .ref s1.heap.objs.size, rawInt 0, .none, .none] }) rfl
      rw [hz1] at this; exact this
    have hit : ((s1.heap.push ob).push { cls := .type "enumerate", data := .fields #[.none, .bool false, .ref s1.heap.objs.size, rawInt 0, .none, .none] }).IsTupleIter s1.heap.objs.size a 0 := ⟨ob, Heap.get?_push_of_some _ (Heap.get?_push_size _ hfr), by rw [← hob], by rw [← hob]; rfl⟩
    refine ⟨⟨_, he, rfl⟩, wpAny_pyIter_enum he ?_⟩
    have I2 := I1.kept (t' := s1.toks) (h' := (s1.heap.push ob).push { cls := .type "enumerate", data := .fields #[.none, .bool false, .ref s1.heap.objs.size, rawInt 0, .none, .none] }) fun b o e => Heap.get?_push_of_some _ (Heap.get?_push_of_some _ e)
    have hal : a < s1.heap.objs.size := p'.lt
    refine ⟨s1.heap.objs.size + 1, [s1.heap.objs.size + 1, s1.heap.objs.size], _, _, H1, rfl, I2, turn_enT a (s1.heap.objs.size + 1) s1.heap.objs.size (Nat.ne_of_lt hal) (Nat.ne_of_lt (Nat.lt_succ_of_lt hal)), ⟨⟨.none, he⟩, hit, Nat.succ_ne_self _⟩, fun b hb => ?_, q⟩
    have hle : s1.heap.objs.size ≤ b := by
      rcases List.mem_cons.mp hb with z | z
      · rw [z]; exact Nat.le_add_right _ _
      · rw [List.mem_singleton.mp z]; exact Nat.le_refl _
    exact I1.fpOk hle (I1.hok.fresh hle)
end Y
namespace Y
open PySem PySem.Spec L2

/-! ### what is walked -/
/-- at turn i the i-th of xs is given -/
def Yd {α : Type} (K : Frag) (A : List Addr) (H1 : Hp) (c : α → D) (xs : List α) : Nat → Hp → V → Hp → Prop := fun i H x H' => Fr [] H H' ∧ ∃ a, xs[i]? = some a ∧ ∀ A', (∀ b ∈ A', b ∈ A ∨ H1 b = none) → Fr (A ++ A') H1 H → Tr A' H → Fz K A' H' x (c a)
section
variable {E α : Type}
def tIs (K : Frag) (B : Bd) (ow : List Nat) (Γ : E → List (Option D)) (p : Bool) (c : α → D) (G : E → Prop) (xs : E → List α) (u : E → E) : TI := fun σ H R =>
  ∃ H0 ε, Rel K B H0 ow σ H (Γ ε) ∧ G ε ∧ ∀ J H1, Fr (cond p [] (oa σ ow)) H H1 → Rel K B H0 ow σ H1 (Γ (u ε)) → Walk J (xs ε).length (Fr (B.full σ ow) H1) (Yd K (B.full σ ow) H1 c (xs ε)) → (xs ε).length ≤ szN → R J H1
structure DI (X : Cx) (B : Bd) (ow : List Nat) (Γ : E → List (Option D)) (p : Bool) (tg e : Expr) (c : α → D) (G : E → Prop) (xs : E → List α) (u : E → E) : Prop where
  pi : PI X tg e (tIs X.K B ow Γ p c G xs u)
end
theorem _root_.L2.PI.weaken {X : Cx} {tg e : Expr} {t t' : TI} (h : PI X tg e t) (w : ∀ σ H Q, t' σ H Q → t σ H Q) : PI X tg e t' := ⟨fun pins s σ H Q I q => h.run pins s σ H Q I (w σ H Q q)⟩
section
variable {X : Cx} {B : Bd} {ow : List Nat} {E α β : Type} {Γ : E → List (Option D)} {p : Bool} {tg e e2 : Expr} {pos px : Pos} {c : α → D} {cb : β → D} {G : E → Prop} {d : E → List α} {u : E → E}
theorem yfr {K : Frag} {A A' : List Addr} {H H1 : Hp} {v : V} {x : D} (z : Fz K A H1 v x) (s : ∀ b ∈ A', b ∈ A ∨ H1 b = none) (f : Fr (A ++ A') H1 H) : Fz K A' H v x :=
  ((z.any (A' := A ++ A') fun b hb => (List.mem_append.mp hb).elim .inl (s b)).fr f).sub fun b hb => List.mem_append_right _ hb
theorem yd_at {K : Frag} {A : List Addr} {H1 : Hp} {xs : List α} {vs : List V} (l : FzL K A H1 vs (xs.map c)) {i : Nat} {H H' : Hp} {x : V} (h : YAt vs i H x H') : Yd K A H1 c xs i H x H' := by
  obtain ⟨rfl, e⟩ := h
  refine ⟨Fr.refl _ _, ?_⟩
  obtain ⟨d, h1, z⟩ := l.get e
  rw [List.getElem?_map] at h1
  cases h2 : xs[i]? with
  | none => rw [h2] at h1; cases h1
  | some a =>
    rw [h2] at h1
    injection h1 with h1
    refine ⟨a, rfl, fun A' s f t => ?_⟩
    rw [h1]
    exact yfr z s f
theorem i_lst (h : De X B ow Γ p true e (cL c) G d u) : DI X B ow Γ p tg e c G d u :=
  ⟨(pi_list h.pe).weaken fun σ H R ⟨H0, ε, rl, g, k⟩ => ⟨H0, ε, rl, g, fun v H1 f r z => by
    obtain ⟨a, vs, rfl, n, l⟩ := z.lst_inv
    have hl : vs.length = (d ε).length := by simpa using l.length
    refine ⟨a, rfl, ⟨vs, n.sq⟩, ?_⟩
    rw [← hl] at k
    exact k _ H1 f r (walk_list.mono (fun H' f' => .inl (.inl (f' _ _ n.1.2 n.1.1))) fun i H x H' _ _ y => yd_at l y) n.2⟩⟩
theorem i_tup (h : De X B ow Γ p true e (cT c) G d u) : DI X B ow Γ p tg e c G d u :=
  ⟨(pi_tup h.pe).weaken fun σ H R ⟨H0, ε, rl, g, k⟩ => ⟨H0, ε, rl, g, fun v H1 f r z => by
    obtain ⟨a, vs, rfl, n, l⟩ := z.tup_inv
    have hl : vs.length = (d ε).length := by simpa using l.length
    refine ⟨a, rfl, ⟨vs, n.sq⟩, ?_⟩
    rw [← hl] at k
    exact k _ H1 f r (walk_tup.mono (fun H' f' => (n.fr f').sq) fun i H x H' _ _ y => yd_at l y) n.sz⟩⟩
/-- range -/
def rng (a b : Int) : List Int := (List.range (b - a).toNat).map fun (i : Nat) => a + (i : Int)
theorem rng_length (a b : Int) : (rng a b).length = (b - a).toNat := by unfold rng; simp
theorem rng_get (a b : Int) (i : Nat) (h : i < (b - a).toNat) : (rng a b)[i]? = some (a + (i : Int)) := by unfold rng; simp [h]
theorem yd_rng {K : Frag} {A : List Addr} {H1 : Hp} {a b : Int} {i : Nat} {H H' : Hp} {x : V} (hi : i < (b - a).toNat) (h : YFn (fun i => .int (a + (i : Nat))) i H x H') : Yd K A H1 cI (rng a b) i H x H' := by
  obtain ⟨rfl, e⟩ := h
  exact ⟨Fr.refl _ _, _, rng_get a b i hi, fun A' _ _ _ => by rw [e]; exact .int _⟩
def CRg (a b : Int) : Prop := -1000000000000000000 ≤ a ∧ a ≤ 1000000000000000000 ∧ -1000000000000000000 ≤ b ∧ b ≤ 1000000000000000000 ∧ b - a ≤ 16777216
theorem i_rng1 {dn : E → Int} (h : DA X B ow Γ p true [e] (ac cI an) G (fun ε => (dn ε, ())) u) (hm : X.mg "range" = none) (hg : Gl X "range" := by rfl) (hs : starEach [e] X.env = [(false, eval e X.env)] := by rfl) :
    DI X B ow Γ p tg (.Call (.Name "range" px) [e] [] pos) cI (fun ε => G ε ∧ CRg 0 (dn ε)) (fun ε => rng 0 (dn ε)) u :=
  ⟨(pi_range1 hg hm h.pa hs).weaken fun σ H R ⟨H0, ε, rl, ⟨g, hb⟩, k⟩ => ⟨H0, ε, rl, g, fun vs H1 f r z => by
    obtain ⟨v, rfl, z1⟩ := fzl1 (ds := []) z
    cases z1.int_inv
    obtain ⟨_, _, b1, b2, b3⟩ := hb
    refine ⟨dn ε, rfl, by omega, by omega, ?_⟩
    rw [rng_length] at k
    have e0 : (dn ε - 0).toNat = (dn ε).toNat := by congr 1; omega
    rw [e0] at k
    exact k _ H1 f r (walk_range.mono (fun _ _ => trivial) fun i H x H' hi _ y => yd_rng (by omega) y) (by show _ ≤ 16777216; omega)⟩⟩
theorem i_rng2 {da db : E → Int} (h : DA X B ow Γ p true [e, e2] (ac cI (ac cI an)) G (fun ε => (da ε, db ε, ())) u) (hm : X.mg "range" = none) (hg : Gl X "range" := by rfl) (hs : starEach [e, e2] X.env = [(false, eval e X.env), (false, eval e2 X.env)] := by rfl)
    (hs2 : starEach [e2] X.env = [(false, eval e2 X.env)] := by rfl) :
    DI X B ow Γ p tg (.Call (.Name "range" px) [e, e2] [] pos) cI (fun ε => G ε ∧ CRg (da ε) (db ε)) (fun ε => rng (da ε) (db ε)) u :=
  ⟨(pi_range2 hg hm h.pa hs hs2).weaken fun σ H R ⟨H0, ε, rl, ⟨g, hb⟩, k⟩ => ⟨H0, ε, rl, g, fun vs H1 f r z => by
    obtain ⟨v, w, rfl, z1, z2⟩ := fzl2 (ds := []) z
    cases z1.int_inv
    cases z2.int_inv
    obtain ⟨a1, a2, b1, b2, b3⟩ := hb
    refine ⟨da ε, db ε, rfl, ⟨by omega, by omega, by omega, by omega⟩, ?_⟩
    rw [rng_length] at k
    exact k _ H1 f r (walk_range.mono (fun _ _ => trivial) fun i H x H' hi _ y => yd_rng hi y) (by show _ ≤ 16777216; omega)⟩⟩
/-- enumerate, zip -/
def enum (xs : List α) : List (Int × α) := xs.zipIdx.map fun q => ((q.2 : Int), q.1)
theorem enum_length (xs : List α) : (enum xs).length = xs.length := by unfold enum; simp
theorem enum_get (xs : List α) (i : Nat) : (enum xs)[i]? = xs[i]?.map fun a => ((i : Int), a) := by
  unfold enum
  rw [List.getElem?_map, List.getElem?_zipIdx]
  cases xs[i]? <;> simp
theorem yd_pair {K : Frag} {A : List Addr} {H1 : Hp} {xs : List (α × β)} {i : Nat} {H H' : Hp} {x : V} {fa fb : Nat → Option V} (hf : Fr A H1 H) (h : YPair fa fb i H x H')
    (k : ∀ va vb, fa i = some va → fb i = some vb → ∃ a b, xs[i]? = some (a, b) ∧ Fz K A H1 va (c a) ∧ Fz K A H1 vb (cb b)) : Yd K A H1 (c2 c cb) xs i H x H' := by
  obtain ⟨T, va, vb, rfl, hT, rfl, e1, e2⟩ := h
  obtain ⟨a, b, e, z1, z2⟩ := k va vb e1 e2
  refine ⟨Fr.new hT, (a, b), e, fun A' s f t => ?_⟩
  exact .tup (.inl ⟨t.new hT, upd_same, by show 2 ≤ szN; decide⟩) (.cons ((yfr z1 s f).fr (Fr.new hT)) (.cons ((yfr z2 s f).fr (Fr.new hT)) .nil))
theorem i_enumL {elts : List Expr} {kk : Nat} {tpos : Pos} (h : De X B ow Γ p true e (cL c) G d u) (hm : X.mg "enumerate" = none) (hg : Gl X "enumerate" := by rfl) (hs : starEach [e] X.env = [(false, eval e X.env)] := by rfl)
    (hst : starEach (e :: []) X.env = (false, eval e X.env) :: starEach [] X.env := by rfl) :
    DI X B ow Γ p (.Tuple elts kk tpos) (.Call (.Name "enumerate" px) [e] [] pos) (c2 cI c) G (fun ε => enum (d ε)) u :=
  ⟨(pi_enum hg hm (pa_cons h.pe pa_nil hst) hs).weaken fun σ H R ⟨H0, ε, rl, g, k⟩ => ⟨H0, ε, rl, g, fun v H1 f r z => by
    obtain ⟨a, vs, rfl, n, l⟩ := z.lst_inv
    have hl : vs.length = (d ε).length := by simpa using l.length
    refine ⟨a, vs, rfl, n.sq, ?_⟩
    rw [enum_length, ← hl] at k
    refine k _ H1 f r (walk_enum.mono (fun H' f' => .inl (.inl (f' _ _ n.1.2 n.1.1))) fun i H x H' _ f' y => yd_pair f' y fun va vb e1 e2 => ?_) n.2
    injection e1 with e1
    obtain ⟨d', h1, z1⟩ := l.get e2
    rw [List.getElem?_map] at h1
    cases h2 : (d ε)[i]? with
    | none => rw [h2] at h1; cases h1
    | some a' =>
      rw [h2] at h1
      injection h1 with h1
      exact ⟨(i : Int), a', by rw [enum_get, h2]; rfl, by rw [← e1]; exact .int _, by rw [h1]; exact z1⟩⟩⟩
theorem walk_enT {K : Frag} {a : Addr} {xs : List V} : Walk (ItE K a) xs.length (fun H => SqT K H a xs) (YPair (fun i => some (.int (i : Nat))) (fun i => xs[i]?)) := by
  refine ⟨fun i _ hi q => ⟨xs, xs[i], q, by simp [hi]⟩, fun _ q => ⟨xs, q, Nat.le_refl _⟩, fun i H v H' _ q y => ?_⟩
  obtain ⟨T, x, h1, h2, h3, h4⟩ := y
  exact ⟨T, _, x, h1, h2, h3, rfl, h4 xs q⟩
theorem i_enumT {elts : List Expr} {kk : Nat} {tpos : Pos} (h : De X B ow Γ p true e (cT c) G d u) (hm : X.mg "enumerate" = none) (hg : Gl X "enumerate" := by rfl) (hs : starEach [e] X.env = [(false, eval e X.env)] := by rfl)
    (hst : starEach (e :: []) X.env = (false, eval e X.env) :: starEach [] X.env := by rfl) :
    DI X B ow Γ p (.Tuple elts kk tpos) (.Call (.Name "enumerate" px) [e] [] pos) (c2 cI c) G (fun ε => enum (d ε)) u :=
  ⟨(pi_enT hg hm (pa_cons h.pe pa_nil hst) hs).weaken fun σ H R ⟨H0, ε, rl, g, k⟩ => ⟨H0, ε, rl, g, fun v H1 f r z => by
    obtain ⟨a, vs, rfl, n, l⟩ := z.tup_inv
    have hl : vs.length = (d ε).length := by simpa using l.length
    refine ⟨a, vs, rfl, n.sq, ?_⟩
    rw [enum_length, ← hl] at k
    refine k _ H1 f r (walk_enT.mono (fun H' f' => (n.fr f').sq) fun i H x H' _ f' y => yd_pair f' y fun va vb e1 e2 => ?_) n.sz
    injection e1 with e1
    obtain ⟨d', h1, z1⟩ := l.get e2
    rw [List.getElem?_map] at h1
    cases h2 : (d ε)[i]? with
    | none => rw [h2] at h1; cases h1
    | some a' =>
      rw [h2] at h1
      injection h1 with h1
      exact ⟨(i : Int), a', by rw [enum_get, h2]; rfl, by rw [← e1]; exact .int _, by rw [h1]; exact z1⟩⟩⟩
end

theorem fzl3 {K : Frag} {A : List Addr} {H : Hp} {vs : List V} {d d' d'' : D} (h : FzL K A H vs [d, d', d'']) : ∃ v w u, vs = [v, w, u] ∧ Fz K A H v d ∧ Fz K A H w d' ∧ Fz K A H u d'' := by
  cases h with | cons a b => cases b with | cons a' b' => cases b' with | cons a'' b'' => cases b''; exact ⟨_, _, _, rfl, a, a', a''⟩
/-! ### targets -/
def wipeG (γ : List (Option D)) : List Nat → List (Option D)
  | [] => γ
  | v :: vs => (wipeG γ vs).set v none
/-- the target takes a value told by c, the slots are then told by Γt -/
def TgR (K : Frag) {α : Type} (c : α → D) (js : List Nat) (g : TG) (f : α → List (Option D) → List (Option D)) : Prop :=
  ∀ (B : Bd) (H0 : Hp) (ow : List Nat) (σ : L2.St) (H : Hp) (γ : List (Option D)) (v : V) (a : α) (Q : L2.St → Hp → Prop), (∀ j ∈ js, j ∉ ow) → Rel K B H0 ow σ H γ → Fz K (B.full σ ow) H v (c a) →
    (∀ σ', Rel K B H0 ow σ' H (f a γ) → (∀ i, i ∉ js → σ'[i]? = σ[i]?) → σ'.length = σ.length → Q σ' H) → g v σ H Q
section
variable {K : Frag} {α β γ' δ : Type}
theorem tg_name {c : α → D} (j : Nat) : TgR K c [j] (gName j) fun a γ => γ.set j (some (c a)) := fun B H0 ow σ H γ v a Q hj r z k =>
  k _ (r.set (hj j (by simp)) z) (fun i hi => by rw [List.getElem?_set_ne (fun e => hi (by simp [e]))]) (by simp)
theorem tg_pair {ca : α → D} {cb : β → D} (i j : Nat) : TgR K (c2 ca cb) [i, j] (gTup K 2 (gCons (gName i) (gCons (gName j) gNil))) fun q γ => (γ.set i (some (ca q.1))).set j (some (cb q.2)) := fun B H0 ow σ H γ v q Q hj r z k => by
  obtain ⟨a, xs, rfl, n, l⟩ := z.tup_inv
  obtain ⟨x, y, rfl, z1, z2⟩ := fzl2 (ds := []) l
  have r1 := r.set (hj i (by simp)) z1
  refine ⟨a, _, rfl, n.sq, rfl, x, _, rfl, y, [], rfl, rfl, k _ (r1.set (hj j (by simp)) ?_) (fun m hm => ?_) (by simp)⟩
  · unfold Bd.full
    rw [oa_set (hj i (by simp))]
    exact z2
  · have h1 : i ≠ m := fun e => hm (by simp [e])
    have h2 : j ≠ m := fun e => hm (by simp [e])
    rw [List.getElem?_set_ne h2, List.getElem?_set_ne h1]
theorem tg_three {ca : α → D} {cb : β → D} {cc : γ' → D} (i j l : Nat) : TgR K (c3 ca cb cc) [i, j, l] (gTup K 3 (gCons (gName i) (gCons (gName j) (gCons (gName l) gNil)))) fun q γ => ((γ.set i (some (ca q.1))).set j (some (cb q.2.1))).set l (some (cc q.2.2)) := fun B H0 ow σ H γ v q Q hj r z k => by
  obtain ⟨a, xs, rfl, n, lz⟩ := z.tup_inv
  obtain ⟨x, y, w, rfl, z1, z2, z3⟩ := fzl3 lz
  have r1 := r.set (hj i (by simp)) z1
  have e1 : ∀ u : Option V, oa (σ.set i u) ow = oa σ ow := fun u => oa_set (hj i (by simp))
  have r2 := r1.set (i := j) (v := y) (d := cb q.2.1) (hj j (by simp)) (by unfold Bd.full; rw [e1]; exact z2)
  have e2 : ∀ u w : Option V, oa ((σ.set i u).set j w) ow = oa σ ow := fun u w => by rw [oa_set (hj j (by simp)), e1]
  refine ⟨a, _, rfl, n.sq, rfl, x, _, rfl, y, _, rfl, w, [], rfl, rfl, k _ (r2.set (hj l (by simp)) ?_) (fun m hm => ?_) (by simp)⟩
  · unfold Bd.full
    rw [e2]
    exact z3
  · have h1 : i ≠ m := fun e => hm (by simp [e])
    have h2 : j ≠ m := fun e => hm (by simp [e])
    have h3 : l ≠ m := fun e => hm (by simp [e])
    rw [List.getElem?_set_ne h3, List.getElem?_set_ne h2, List.getElem?_set_ne h1]
end
end Y
namespace Y
open PySem PySem.Spec L2

/-! ### loops, as functions -/
section
variable {T α R S M : Type}
def forO (f : T × α → Out T R T) : T → List α → Out T R S
  | t, [] => .nx t
  | t, x :: xs => match f (t, x) with
    | .nx t' => forO f t' xs
    | .ct t' => forO f t' xs
    | .bk t' => .nx t'
    | .rt r => .rt r
def forG (g : T × α → Prop) (f : T × α → Out T R T) : T → List α → Prop
  | _, [] => True
  | t, x :: xs => g (t, x) ∧ match f (t, x) with
    | .nx t' => forG g f t' xs
    | .ct t' => forG g f t' xs
    | .bk _ => True
    | .rt _ => True
def whO (c : T → Bool) (f : T → Out T R T) : Nat → T → Out T R S
  | 0, t => .nx t
  | n + 1, t => if c t = true then (match f t with
    | .nx t' => whO c f n t'
    | .ct t' => whO c f n t'
    | .bk t' => .nx t'
    | .rt r => .rt r) else .nx t
def whG (gc : T → Prop) (c : T → Bool) (gb : T → Prop) (f : T → Out T R T) : Nat → T → Prop
  | 0, t => gc t ∧ c t = false
  | n + 1, t => gc t ∧ (c t = true → gb t ∧ match f t with
    | .nx t' => whG gc c gb f n t'
    | .ct t' => whG gc c gb f n t'
    | .bk _ => True
    | .rt _ => True)
theorem forO_nx {f : T × α → T} : ∀ (xs : List α) (t : T), forO (S := S) (R := R) (fun q => .nx (f q)) t xs = .nx (xs.foldl (fun t x => f (t, x)) t)
  | [], _ => rfl
  | x :: xs, t => by
    show forO (fun q => .nx (f q)) (f (t, x)) xs = _
    rw [forO_nx xs]; rfl
end

/-- the heap without some addresses -/
def hid (A : List Addr) (H : Hp) : Hp := fun b => if b ∈ A then none else H b
theorem hid_some {A : List Addr} {H : Hp} {b : Addr} {o : HO} (h : hid A H b = some o) : b ∉ A ∧ H b = some o := by
  unfold hid at h
  by_cases e : b ∈ A
  · rw [if_pos e] at h; cases h
  · rw [if_neg e] at h; exact ⟨e, h⟩
theorem hid_of {A : List Addr} {H : Hp} {b : Addr} (h : b ∉ A) : hid A H b = H b := if_neg h
theorem hid_none {A : List Addr} {H : Hp} {b : Addr} (h : hid A H b = none) : b ∈ A ∨ H b = none := by
  by_cases e : b ∈ A
  · exact .inl e
  · rw [hid_of e] at h; exact .inr h
section
variable {K : Frag} {B : Bd} {H0 H1 H : Hp} {ow ow' : List Nat} {σ σ' : L2.St} {γ γ' : List (Option D)}
theorem Rel.ioa (r : Rel K B H0 ow σ H γ) : ∀ a ∈ B.io.toList, a ∈ oa σ ow := fun a h => by
  cases hb : B.io with
  | none => rw [hb] at h; simp at h
  | some p =>
    rw [hb] at h
    have e : a = p := by simpa using h
    obtain ⟨h1, h2⟩ := r.io p hb
    rw [e]
    exact mem_oa.mpr ⟨0, h1, h2⟩
/-- from here on -/
theorem Rel.rest (r : Rel K B H0 ow σ H γ) : Rel K B (hid (oa σ ow) H) ow σ H γ :=
  ⟨r.len, r.one, r.fz, r.own, r.trk, fun b o e n => (hid_some e).2, fun a h => .inl (if_pos h), fun a h => by
    have h1 := r.apart a
    have h2 : a ∉ oa σ ow := fun z => h1 z (List.mem_append_left _ h)
    exact ⟨by rw [hid_of h2]; exact r.base_trk a (List.mem_append_left _ h), (r.a0 a h).2⟩, r.xt, r.io⟩
theorem hid_fr (r : Rel K B H0 ow σ H1 γ) {b : Addr} {o : HO} (e : H0 b = some o) (n : b ∉ B.io.toList) : hid (oa σ ow) H1 b = some o := by
  rw [hid_of]
  · exact r.fr b o e n
  · intro z
    rcases r.new b z with h | h
    · rw [h] at e; cases e
    · exact n h
theorem Rel.rebase (r : Rel K B H0 ow σ H1 γ) (r' : Rel K B (hid (oa σ ow) H1) ow' σ' H γ') : Rel K B H0 ow' σ' H γ' :=
  ⟨r'.len, r'.one, r'.fz, r'.own, r'.trk, fun b o e n => r'.fr b o (hid_fr r e n) n, fun a h => by
    by_cases n : a ∈ B.io.toList
    · exact .inr n
    · left
      cases e : H0 a with
      | none => rfl
      | some o =>
        rcases r'.new a h with z | z
        · rw [hid_fr r e n] at z; cases z
        · exact absurd z n, r.a0, r'.xt, r'.io⟩
theorem EX.rebase {R : Type} {cr : R → D} {ci : R → List D} {q : R} {v : V} (r : Rel K B H0 ow σ H1 γ) (h : EX K B cr ci (hid (oa σ ow) H1) q v H) : EX K B cr ci H0 q v H := ⟨fun b o e n => h.1 b o (hid_fr r e n) n, h.2⟩
theorem Rel.since (r : Rel K B H0 ow σ H1 γ) (r' : Rel K B (hid (oa σ ow) H1) ow' σ' H γ') : Fr (B.full σ ow) H1 H := fun b o e n => by
  have n1 : b ∉ oa σ ow := fun z => n (mem_full.mpr (.inr z))
  exact r'.fr b o (by rw [hid_of n1]; exact e) fun z => n1 (r.ioa b z)
theorem Rel.newer (r : Rel K B H0 ow σ H1 γ) (r' : Rel K B (hid (oa σ ow) H1) ow' σ' H γ') : ∀ b ∈ B.full σ' ow', b ∈ B.full σ ow ∨ H1 b = none := fun b hb => by
  rcases mem_full.mp hb with h | h
  · exact .inl (mem_full.mpr (.inl h))
  · rcases r'.new b h with z | z
    · rcases hid_none z with z | z
      · exact .inl (mem_full.mpr (.inr z))
      · exact .inr z
    · exact .inl (mem_full.mpr (.inr (r.ioa b z)))
end
section
variable {X : Cx} {B : Bd} {ow owS : List Nat} {E L R S α : Type} {Γ : E → List (Option D)} {ΓL : L → List (Option D)} {ΓS : S → List (Option D)} {cr : R → D} {ci : R → List D} {body : List Stmt} {pos : Pos} {tg e : Expr} {p : Bool} {c : α → D} {G : E → Prop} {u : E → E}
  {xs : E → List α} {js : List Nat} {g : TG} {ft : α → List (Option D) → List (Option D)} {gb : L × α → Prop} {db : L × α → Out L R L}
theorem s_for (l0 : E → L) (hi : DI X B ow Γ p tg e c G xs u) (hc0 : ∀ (H0 : Hp) ε σ H, Rel X.K B H0 ow σ H (Γ ε) → Rel X.K B H0 ow σ H (ΓL (l0 ε))) (hg : PG X tg g) (ht : TgR X.K c js g ft) (hjs : ∀ j ∈ js, j ∉ ow)
    (hb : Dss X B ow (fun q : L × α => ft q.2 (ΓL q.1)) cr ci ow ΓL body gb db ow ΓL) (hp : PassesOwn (model X.prog X.w) X.A X.env X.xe) (hcalm : X.calm = true := by rfl) (hs : ∀ x, foldedSetIterable e X.env x = pure x := by intro _; rfl) :
    Ds X B ow Γ cr ci owS ΓS (.For tg e body [] pos) (fun ε => G ε ∧ forG gb db (l0 (u ε)) (xs ε)) (fun ε => forO db (l0 (u ε)) (xs ε)) ow ΓL :=
  ⟨(ps_for hp hcalm hi.pi hg hb.pss hs).weaken fun Dn σ H ⟨H0, ε, rl, ⟨g1, g2⟩, k⟩ => ⟨H0, ε, rl, g1, fun J H1 f1 r1 w hsz => by
    refine for_it w (fun i σ' H' => ∃ t, Rel X.K B (hid (oa σ ow) H1) ow σ' H' (ΓL t) ∧ forG gb db t ((xs ε).drop i) ∧ forO (S := S) db t ((xs ε).drop i) = forO db (l0 (u ε)) (xs ε)) ⟨l0 (u ε), hc0 _ _ _ _ r1.rest, g2, rfl⟩ ?_ ?_ ?_
    · rintro i σ' H' _ ⟨t, r', _, _⟩
      exact r1.since r'
    · rintro i x σ' H' H2 hlt ⟨t, r', hg', ho'⟩ ⟨fy, a, ea, hz⟩
      have hz' := hz (B.full σ' ow) (r1.newer r') ((r1.since r').mono fun b hb => List.mem_append_left _ hb) r'.tracked
      have hd : (xs ε).drop i = a :: (xs ε).drop (i + 1) := by
        obtain ⟨hl, e⟩ := List.getElem?_eq_some_iff.mp ea
        rw [List.drop_eq_getElem_cons hl, e]
      rw [hd] at hg' ho'
      refine ht B _ ow σ' H2 _ x a _ hjs (r'.grow fy) hz' fun σ2 r2 _ _ => ⟨_, (t, a), r2, hg'.1, ?_⟩
      have hg2 := hg'.2
      cases hdb : db (t, a) with
      | nx t' =>
        rw [hdb] at hg2
        have ho2 : forO (S := S) db t' ((xs ε).drop (i + 1)) = forO db (l0 (u ε)) (xs ε) := by rw [← ho', forO, hdb]
        exact fun σ3 H3 r3 => ⟨t', r3, hg2, ho2⟩
      | ct t' =>
        rw [hdb] at hg2
        have ho2 : forO (S := S) db t' ((xs ε).drop (i + 1)) = forO db (l0 (u ε)) (xs ε) := by rw [← ho', forO, hdb]
        exact fun σ3 H3 r3 => ⟨t', r3, hg2, ho2⟩
      | bk t' =>
        have ho2 : (Out.nx t' : Out L R S) = forO db (l0 (u ε)) (xs ε) := by rw [← ho', forO, hdb]
        have k' := k
        simp only [← ho2] at k'
        exact fun σ3 H3 r3 => k' σ3 H3 (r1.rebase r3)
      | rt q =>
        have ho2 : (Out.rt q : Out L R S) = forO db (l0 (u ε)) (xs ε) := by rw [← ho', forO, hdb]
        have k' := k
        simp only [← ho2] at k'
        exact fun v H3 ex => k' v H3 (EX.rebase r1 ex)
    · rintro σ' H' ⟨t, r', _, ho'⟩
      rw [List.drop_length] at ho'
      have ho2 : (Out.nx t : Out L R S) = forO db (l0 (u ε)) (xs ε) := ho'
      have k' := k
      simp only [← ho2] at k'
      exact k' σ' H' (r1.rebase r')⟩⟩

variable {tst : L → Bool} {gt gw : L → Prop} {dw : L → Out L R L}
theorem s_while (fuel : L → Nat) (ht : Dt X B ow ΓL p e gt tst (fun ε => ε)) (hb : Dss X B ow ΓL cr ci ow ΓL body gw dw ow ΓL) (hp : PassesOwn (model X.prog X.w) X.A X.env X.xe) :
    Ds X B ow ΓL cr ci owS ΓS (.While e body [] pos) (fun t => whG gt tst gw dw (fuel t) t) (fun t => whO tst dw (fuel t) t) ow ΓL :=
  ⟨(ps_while hp ht.pt hb.pss).weaken fun Dn σ H ⟨H0, t0, rl, g0, k⟩ => by
    refine ⟨fun m σ' H' => ∃ n t, m = n ∧ Rel X.K B H0 ow σ' H' (ΓL t) ∧ whG gt tst gw dw n t ∧ whO (S := S) tst dw n t = whO tst dw (fuel t0) t0, ⟨fuel t0, fuel t0, t0, rfl, rl, g0, rfl⟩, ?_⟩
    rintro m σ' H' ⟨n, t, rfl, r, hg, ho⟩
    have hgt : gt t := by cases m with | zero => exact hg.1 | succ m => exact hg.1
    refine ⟨H0, t, r, hgt, fun H2 f2 r2 => ?_⟩
    cases ht : tst t with
    | false =>
      rw [if_neg Bool.false_ne_true]
      have ho2 : (Out.nx t : Out L R S) = whO tst dw (fuel t0) t0 := by
        rw [← ho]
        cases m with
        | zero => rfl
        | succ m => rw [whO, ht, if_neg Bool.false_ne_true]
      have k' := k
      simp only [← ho2] at k'
      exact k' σ' H2 r2
    | true =>
      rw [if_pos rfl]
      cases m with
      | zero => rw [hg.2] at ht; cases ht
      | succ m =>
        obtain ⟨hgw, hg2⟩ := hg.2 ht
        rw [whO, ht, if_pos rfl] at ho
        refine ⟨fun σ3 H3 => ∃ t', Rel X.K B H0 ow σ3 H3 (ΓL t') ∧ whG gt tst gw dw m t' ∧ whO (S := S) tst dw m t' = whO tst dw (fuel t0) t0, fun σ3 H3 ⟨t', a, b, c⟩ => ⟨m, Nat.lt_succ_self _, m, t', rfl, a, b, c⟩, H0, t, r2, hgw, ?_⟩
        cases hd : dw t with
        | nx t' => rw [hd] at hg2 ho; exact fun σ3 H3 r3 => ⟨t', r3, hg2, ho⟩
        | ct t' => rw [hd] at hg2 ho; exact fun σ3 H3 r3 => ⟨t', r3, hg2, ho⟩
        | bk t' =>
          rw [hd] at ho
          have k' := k
          have ho2 : (Out.nx t' : Out L R S) = whO tst dw (fuel t0) t0 := ho
          simp only [← ho2] at k'
          exact fun σ3 H3 r3 => k' σ3 H3 r3
        | rt q =>
          rw [hd] at ho
          have k' := k
          have ho2 : (Out.rt q : Out L R S) = whO tst dw (fuel t0) t0 := ho
          simp only [← ho2] at k'
          exact fun v H3 ex => k' v H3 ex⟩
theorem s_break {f : E → S} (hc : ∀ (H0 : Hp) ε σ H, Rel X.K B H0 ow σ H (Γ ε) → Rel X.K B H0 owS σ H (ΓS (f ε))) {ow' : List Nat} {N : Type} {Γ' : N → List (Option D)} : Ds X B ow Γ cr ci owS ΓS (.Break pos) (fun _ => True) (fun ε => .bk (f ε)) ow' Γ' :=
  ⟨ps_break.weaken fun Dn σ H ⟨H0, ε, rl, _, k⟩ => k σ H (hc _ _ _ _ rl)⟩
theorem s_cont {f : E → S} (hc : ∀ (H0 : Hp) ε σ H, Rel X.K B H0 ow σ H (Γ ε) → Rel X.K B H0 owS σ H (ΓS (f ε))) {ow' : List Nat} {N : Type} {Γ' : N → List (Option D)} : Ds X B ow Γ cr ci owS ΓS (.Continue pos) (fun _ => True) (fun ε => .ct (f ε)) ow' Γ' :=
  ⟨ps_continue.weaken fun Dn σ H ⟨H0, ε, rl, _, k⟩ => k σ H (hc _ _ _ _ rl)⟩
end
end Y
namespace Y
open PySem PySem.Spec L2

/-! ### comprehensions -/
section
variable {K : Frag} {B : Bd} {H0 H : Hp} {ow : List Nat} {σ σ' : L2.St} {γ : List (Option D)}
theorem oa_congr (h : ∀ i ∈ ow, σ'[i]? = σ[i]?) : oa σ' ow = oa σ ow := by
  unfold oa
  induction ow with
  | nil => rfl
  | cons j l ih =>
    rw [List.filterMap_cons, List.filterMap_cons, h j List.mem_cons_self, ih fun i hi => h i (List.mem_cons_of_mem _ hi)]
theorem wipe_in {σ : L2.St} {i : Nat} : ∀ {vs : List Nat}, i ∈ vs → i < σ.length → (wipe σ vs)[i]? = some none
  | v :: vs, h, hl => by
    unfold wipe
    by_cases e : v = i
    · subst e
      rw [List.getElem?_set_self (by rw [wipe_length]; exact hl)]
    · rw [List.getElem?_set_ne e]
      exact wipe_in ((List.mem_cons.mp h).resolve_left fun z => e z.symm) hl
theorem wipe_eq {vs js : List Nat} (hl : σ'.length = σ.length) (hj : ∀ j ∈ js, j ∈ vs) (h : ∀ i, i ∉ js → σ'[i]? = (wipe σ vs)[i]?) : wipe σ' vs = wipe σ vs := by
  apply List.ext_getElem?
  intro i
  by_cases hi : i ∈ vs
  · by_cases hlt : i < σ.length
    · rw [wipe_in hi hlt, wipe_in hi (by rw [hl]; exact hlt)]
    · rw [List.getElem?_eq_none (by rw [wipe_length]; omega), List.getElem?_eq_none (by rw [wipe_length]; omega)]
  · rw [wipe_out hi, h i fun z => hi (hj i z)]
theorem wipeG_length (γ : List (Option D)) : ∀ vs : List Nat, (wipeG γ vs).length = γ.length
  | [] => rfl
  | v :: vs => by unfold wipeG; rw [List.length_set, wipeG_length γ vs]
theorem wipeG_some {i : Nat} {d : D} : ∀ {vs : List Nat}, (wipeG γ vs)[i]? = some (some d) → γ[i]? = some (some d) ∧ i ∉ vs
  | [], h => ⟨h, by simp⟩
  | v :: vs, h => by
    unfold wipeG at h
    rcases set_inv h with ⟨_, e, _⟩ | ⟨ne, e⟩
    · cases e
    · obtain ⟨a, b⟩ := wipeG_some e
      exact ⟨a, fun z => (List.mem_cons.mp z).elim (fun q => ne q.symm) b⟩
theorem Rel.wipe {vs : List Nat} (r : Rel K B H0 ow σ H γ) (hv : ∀ i ∈ vs, i ∉ ow) : Rel K B H0 ow (L2.wipe σ vs) H (wipeG γ vs) := by
  have hs : ∀ i ∈ ow, (L2.wipe σ vs)[i]? = σ[i]? := fun i hi => wipe_out fun z => hv i z hi
  have eo : oa (L2.wipe σ vs) ow = oa σ ow := oa_congr hs
  have ef : B.full (L2.wipe σ vs) ow = B.full σ ow := by unfold Bd.full; rw [eo]
  refine ⟨by rw [wipe_length, wipeG_length]; exact r.len, fun i j a hi hj e1 e2 => r.one i j a hi hj (by rw [← hs i hi]; exact e1) (by rw [← hs j hj]; exact e2), fun i d hi e => ?_, fun i d hi e => ?_, by rw [eo]; exact r.trk, r.fr, by rw [eo]; exact r.new, r.a0, by rw [eo]; exact r.xt, fun p hp => ?_⟩
  · obtain ⟨e1, n⟩ := wipeG_some e
    obtain ⟨v, e2, z⟩ := r.fz i d hi e1
    exact ⟨v, by rw [wipe_out n]; exact e2, by rw [ef]; exact z⟩
  · obtain ⟨e1, n⟩ := wipeG_some e
    obtain ⟨a, ws, ds, h1, h2, h3, h4⟩ := r.own i d hi e1
    exact ⟨a, ws, ds, by rw [hs i hi]; exact h1, h2, h3, by rw [ef]; exact h4⟩
  · obtain ⟨h1, h2⟩ := r.io p hp
    exact ⟨h1, by rw [hs 0 h1]; exact h2⟩
end
theorem made_succ {α β : Type} {xs : List α} {i : Nat} {a : α} (t : α → Bool) (f : α → β) (h : xs[i]? = some a) : ((xs.take (i + 1)).filter t).map f = ((xs.take i).filter t).map f ++ (if t a = true then [f a] else []) := by
  rw [List.take_add_one, h, List.filter_append, List.map_append]
  congr 1
  cases ht : t a <;> simp [ht]
def tTB {E : Type} (K : Frag) (ow : List Nat) (Γ : E → List (Option D)) (G : E → Prop) (d : E → Bool) : TT := fun σ H Q => ∃ B', tTs K B' ow Γ true G d (fun q => q) σ H Q
def tSB {E β : Type} (K : Frag) (ow : List Nat) (Γ : E → List (Option D)) (ce : β → D) (G : E → Prop) (d : E → β) : TE := fun σ H Q => ∃ B', tS K B' ow Γ true true ce G d (fun q => q) σ H Q
section
variable {X : Cx} {B : Bd} {ow owS : List Nat} {E R S α β : Type} {Γ : E → List (Option D)} {ΓS : S → List (Option D)} {cr : R → D} {ci : R → List D} {pos spos py : Pos} {tg e elt : Expr} {ifs : List Expr} {c : α → D} {ce : β → D} {G : E → Prop}
  {xs : E → List α} {js vs : List Nat} {g : TG} {ft : α → List (Option D) → List (Option D)} {tt : E × α → Bool} {Gt Ge : E × α → Prop} {de : E × α → β} {own : List (Str × Nat)} {scope : Scope} {pe : Bool} {y : Str}
/-- the reading of a pure comprehension -/
theorem lc_pure (ht : TgR X.K c js g ft) (hjv : ∀ j ∈ js, j ∈ vs) (hvo : ∀ j ∈ vs, j ∉ ow) {σ : L2.St} {H : Hp} {Q : VK}
    (h : tFs X.K B ow Γ true ce (fun ε => G ε ∧ ∀ x ∈ xs ε, Gt (ε, x) ∧ (tt (ε, x) = true → Ge (ε, x))) (fun ε => ((xs ε).filter fun x => tt (ε, x)).map fun x => de (ε, x)) (fun ε => ε) σ H Q) :
    tLc (tIs X.K B ow Γ true c G xs (fun ε => ε)) g (tTB X.K ow (fun q : E × α => ft q.2 (wipeG (Γ q.1) vs)) Gt tt) (tSB X.K ow (fun q : E × α => ft q.2 (wipeG (Γ q.1) vs)) ce Ge de) vs σ H Q := by
  obtain ⟨H0, ε, rl, ⟨g1, g2⟩, k⟩ := h
  refine ⟨H0, ε, rl, g1, fun J H1 f1 r1 w hsz Dl hD => ?_⟩
  have f1' : Fr [] H H1 := f1
  have h0 : H0 Dl = none := (r1.h0 hD).resolve_right (r1.notio hD)
  refine lc_it w (g := g) (tt := tTB X.K ow (fun q : E × α => ft q.2 (wipeG (Γ q.1) vs)) Gt tt) (te := tSB X.K ow (fun q : E × α => ft q.2 (wipeG (Γ q.1) vs)) ce Ge de) (vs := vs) (σ := σ) (Qd := fun H => Q (.ref Dl) H) (fun i H' => Rel X.K (B.plus Dl) H0 ow σ H' (Γ ε) ∧ Fr [] H1 H' ∧ ∃ ws, H' Dl = some (.lst ws) ∧ FzL X.K ((B.plus Dl).full σ ow) H' ws (((((xs ε).take i).filter fun x => tt (ε, x)).map fun x => de (ε, x)).map ce))
    ⟨r1.plus hD, Fr.new hD, [], upd_same, by simpa using FzL.nil⟩ (fun i H' _ p => p.2.1.nil) ?_ ?_
  · rintro i x H' H2 hlt ⟨r', f', ws, hw, hz⟩ ⟨fy, a, ea, hy⟩
    have hmem : a ∈ xs ε := List.mem_of_getElem? ea
    have hA : ∀ b ∈ (B.plus Dl).full σ ow, b ∈ B.full σ ow ∨ H1 b = none := fun b hb => by
      simp only [Bd.full, Bd.base, Bd.plus, List.mem_append, List.mem_cons] at hb ⊢
      rcases hb with (h | h | h) | h
      · exact .inl (.inl (.inl h))
      · rw [h]; exact .inr hD
      · exact .inl (.inl (.inr h))
      · exact .inl (.inr h)
    have zx := hy _ hA (Fr.nil f') r'.tracked
    have r2 := r'.grow fy
    have ew : oa (wipe σ vs) ow = oa σ ow := oa_congr fun i hi => wipe_out fun z => hvo i z hi
    have ef : (B.plus Dl).full (wipe σ vs) ow = (B.plus Dl).full σ ow := by unfold Bd.full; rw [ew]
    refine ht (B.plus Dl) H0 ow (wipe σ vs) H2 (wipeG (Γ ε) vs) x a _ (fun j hj => hvo j (hjv j hj)) (r2.wipe hvo) (by rw [ef]; exact zx) fun σ2 r3 hs2 hl2 => ?_
    refine ⟨wipe_eq (by rw [hl2, wipe_length]) hjv hs2, B.plus Dl, H0, (ε, a), r3, (g2 a hmem).1, fun H3 f3 r4 => ?_⟩
    have f3' : Fr [] H2 H3 := f3
    have fall : Fr [] H' H3 := fy.trans f3'
    have eo2 : oa σ2 ow = oa σ ow := (oa_congr fun i hi => hs2 i fun z => hvo i (hjv i z) hi).trans ew
    have hlen : ws.length ≤ i := by
      have h1 := hz.length
      have h2 := List.length_filter_le (fun x => tt (ε, x)) ((xs ε).take i)
      have h3 : ((xs ε).take i).length ≤ i := by rw [List.length_take]; exact Nat.min_le_left _ _
      simp only [List.length_map] at h1
      omega
    show (if tt (ε, a) = true then _ else _)
    cases hb : tt (ε, a) with
    | false =>
      rw [if_neg Bool.false_ne_true]
      refine ⟨r'.grow fall, f'.trans fall, ws, fall _ _ hw (by simp), ?_⟩
      rw [made_succ _ _ ea, hb, if_neg Bool.false_ne_true, List.append_nil]
      exact hz.fr fall.nil
    | true =>
      rw [if_pos rfl]
      refine ⟨B.plus Dl, H0, (ε, a), r4, (g2 a hmem).2 hb, fun v H4 f4 r5 z5 => ⟨ws, ?_, ?_, ?_⟩⟩
      · have f4' : Fr [] H3 H4 := f4
        exact (fall.trans f4') _ _ hw (by simp)
      · rw [sizeLine_eq]
        have : (xs ε).length ≤ 16777216 := hsz
        omega
      · have f4' : Fr [] H3 H4 := f4
        have fa : Fr [] H' H4 := fall.trans f4'
        have hDx : Dl ∈ (B.plus Dl).ex := by simp [Bd.plus]
        have hDf : Dl ∈ (B.plus Dl).full σ ow := List.mem_append_left _ (List.mem_append_right _ hDx)
        refine ⟨(r'.grow fa).writeEx hDx (r1.notio hD) h0, fun b o eb nb => ?_, ws ++ [v], upd_same, ?_⟩
        · have hbD : b ≠ Dl := fun z => by rw [z, hD] at eb; cases eb
          rw [upd_ne hbD]
          exact (f'.trans fa) b o eb nb
        · rw [made_succ _ _ ea, hb, if_pos rfl, List.map_append]
          have z5' : Fz X.K ((B.plus Dl).full σ ow) H4 v (ce (de (ε, a))) := by
            have z6 : Fz X.K ((B.plus Dl).full σ2 ow) H4 v (ce (de (ε, a))) := z5
            unfold Bd.full at z6 ⊢
            rw [eo2] at z6
            exact z6
          exact ((hz.fr fa.nil).fr (Fr.at hDf)).append (.cons (z5'.fr (Fr.at hDf)) .nil)
  · rintro H' ⟨r', f', ws, hw, hz⟩
    rw [List.take_length] at hz
    refine k Dl H' ws (f1'.back hD) (f1'.trans f') r' hw ?_ hz
    have h1 := hz.length
    have h2 := List.length_filter_le (fun x => tt (ε, x)) (xs ε)
    simp only [List.length_map] at h1
    have : (xs ε).length ≤ 16777216 := hsz
    show ws.length ≤ 16777216
    omega
/-- a clause's tests -/
structure DT (X : Cx) (ow : List Nat) {E : Type} (Γ : E → List (Option D)) (ifs : List Expr) (G : E → Prop) (d : E → Bool) : Prop where
  pts : PTs X ifs (tTB X.K ow Γ G d)
theorem dt_nil {E : Type} {Γ : E → List (Option D)} : DT X ow Γ [] (fun _ => True) (fun _ => true) := ⟨⟨fun pins s σ H Q I ⟨B', H0, ε, r, _, k⟩ => pts_nil.run pins s σ H Q I (k H (Fr.refl _ _) r)⟩⟩
theorem dt_one {E : Type} {Γ : E → List (Option D)} {c : Expr} {G : E → Prop} {d : E → Bool} (h : ∀ B', Dt X B' ow Γ true c G d (fun q => q)) : DT X ow Γ [c] G d :=
  ⟨pts_one ⟨fun pins s σ H Q I ⟨B', q⟩ => (h B').pt.run pins s σ H Q I q⟩⟩
theorem d_lc (hi : DI X B ow Γ true tg e c G xs (fun ε => ε)) (ok : BlkOk X.N X.env.scope scope own) (ht : TgR X.K c js g ft) (hg : ∀ (s : Shared) (H : Hp) (C : Addr) (cl : List (Str × Addr)) (fp : List Addr), PG (X.blk s H scope (compEnvC scope cl C X.env) fp) tg g)
    (hT : ∀ (s : Shared) (H : Hp) (C : Addr) (cl : List (Str × Addr)) (fp : List Addr), DT (X.blk s H scope (compEnvC scope cl C X.env) fp) ow (fun q : E × α => ft q.2 (wipeG (Γ q.1) (own.map (·.2)))) ifs Gt tt)
    (hE : ∀ (s : Shared) (H : Hp) (C : Addr) (cl : List (Str × Addr)) (fp : List Addr) (B' : Bd), De (X.blk s H scope (compEnvC scope cl C X.env) fp) B' ow (fun q : E × α => ft q.2 (wipeG (Γ q.1) (own.map (·.2)))) true true elt ce Ge de (fun q => q))
    (hjv : ∀ j ∈ js, j ∈ own.map (·.2) := by decide) (hvo : ∀ j ∈ own.map (·.2), j ∉ ow := by decide) (hN : X.N.Nodup := by assumption) (hc : X.calm = true := by rfl) (hs : ∀ x, foldedSetIterable e X.env x = pure x := by intro _; rfl) :
    DL X B ow Γ true (.ListComp elt [⟨tg, e, ifs, 0⟩] scope pos) ce (fun ε => G ε ∧ ∀ x ∈ xs ε, Gt (ε, x) ∧ (tt (ε, x) = true → Ge (ε, x))) (fun ε => ((xs ε).filter fun x => tt (ε, x)).map fun x => de (ε, x)) (fun ε => ε) :=
  ⟨(pe_lc hc hN hi.pi ok hg (fun s H C cl fp => (hT s H C cl fp).pts) (fun s H C cl fp => ⟨fun pins s' σ H' Q I ⟨B', q⟩ => (hE s H C cl fp B').pe.run pins s' σ H' Q I q⟩) hs).weaken fun σ H Q h => lc_pure ht hjv hvo h⟩
/-- name = [..] on one line: a frozen list | one of one's own -/
theorem s_asgLc (i : Nat) (hsw : swapsWith (.ListComp elt [⟨tg, e, ifs, 0⟩] scope pos) (some (.Name y py)) spos.line X.env = pure true) (hi : DI X B ow Γ true tg e c G xs (fun ε => ε)) (ok : BlkOk X.N X.env.scope scope own) (ht : TgR X.K c js g ft)
    (hg : ∀ (s : Shared) (H : Hp) (C : Addr) (cl : List (Str × Addr)) (fp : List Addr), PG (X.blk s H scope (compEnvC scope cl C X.env) fp) tg g)
    (hT : ∀ (s : Shared) (H : Hp) (C : Addr) (cl : List (Str × Addr)) (fp : List Addr), DT (X.blk s H scope (compEnvC scope cl C X.env) fp) ow (fun q : E × α => ft q.2 (wipeG (Γ q.1) (own.map (·.2)))) ifs Gt tt)
    (hE : ∀ (s : Shared) (H : Hp) (C : Addr) (cl : List (Str × Addr)) (fp : List Addr) (B' : Bd), De (X.blk s H scope (compEnvC scope cl C X.env) fp) B' ow (fun q : E × α => ft q.2 (wipeG (Γ q.1) (own.map (·.2)))) true true elt ce Ge de (fun q => q))
    (hio : i ∉ ow := by decide) (hjv : ∀ j ∈ js, j ∈ own.map (·.2) := by decide) (hvo : ∀ j ∈ own.map (·.2), j ∉ ow := by decide) (hy : X.N[i]? = some y := by rfl) (hyl : X.env.scope.names.lookup y = some .local := by rfl)
    (hN : X.N.Nodup := by assumption) (hc : X.calm = true := by rfl) (hs : ∀ x, foldedSetIterable e X.env x = pure x := by intro _; rfl) :
    Ds X B ow Γ cr ci owS ΓS (.Assign [.Name y py] (.ListComp elt [⟨tg, e, ifs, 0⟩] scope pos) spos) (fun ε => G ε ∧ ∀ x ∈ xs ε, Gt (ε, x) ∧ (tt (ε, x) = true → Ge (ε, x))) (fun ε => .nx (ε, ((xs ε).filter fun x => tt (ε, x)).map fun x => de (ε, x))) ow
      (fun q : E × List β => (Γ q.1).set i (some (cL ce q.2))) :=
  ⟨(ps_setLc (te := tSB X.K ow (fun q : E × α => ft q.2 (wipeG (Γ q.1) (own.map (·.2)))) ce Ge de) hc hN hy hyl hsw hi.pi ok hg (fun s H C cl fp => (hT s H C cl fp).pts) (fun s H C cl fp => ⟨fun pins s' σ H' Q I ⟨B', q⟩ => (hE s H C cl fp B').pe.run pins s' σ H' Q I q⟩) hs).weaken fun Dn σ H ⟨H0, ε, rl, g, k⟩ => by
    refine lc_pure (Q := fun x H1 => Dn.nx (σ.set i (some x)) H1) ht hjv hvo ⟨H0, ε, rl, g, fun q H' vs hq f r hv hz z => ?_⟩
    have z2 : Fz X.K (B.full σ ow) H' (.ref q) (cL ce (((xs ε).filter fun x => tt (ε, x)).map fun x => de (ε, x))) := by
      refine .lst ⟨⟨fun h => ?_, hv⟩, hz⟩ (z.sub full_plus)
      rcases mem_full.mp h with h | h
      · exact rl.base_trk q h hq
      · exact (r.xt q (by simp [Bd.plus])).2 h
    exact k _ H' (r.unplus.set hio z2)⟩
theorem s_ownLc (i : Nat) (hsw : swapsWith (.ListComp elt [⟨tg, e, ifs, 0⟩] scope pos) (some (.Name y py)) spos.line X.env = pure true) (hi : DI X B ow Γ true tg e c G xs (fun ε => ε)) (ok : BlkOk X.N X.env.scope scope own) (ht : TgR X.K c js g ft)
    (hg : ∀ (s : Shared) (H : Hp) (C : Addr) (cl : List (Str × Addr)) (fp : List Addr), PG (X.blk s H scope (compEnvC scope cl C X.env) fp) tg g)
    (hT : ∀ (s : Shared) (H : Hp) (C : Addr) (cl : List (Str × Addr)) (fp : List Addr), DT (X.blk s H scope (compEnvC scope cl C X.env) fp) ow (fun q : E × α => ft q.2 (wipeG (Γ q.1) (own.map (·.2)))) ifs Gt tt)
    (hE : ∀ (s : Shared) (H : Hp) (C : Addr) (cl : List (Str × Addr)) (fp : List Addr) (B' : Bd), De (X.blk s H scope (compEnvC scope cl C X.env) fp) B' ow (fun q : E × α => ft q.2 (wipeG (Γ q.1) (own.map (·.2)))) true true elt ce Ge de (fun q => q))
    {ow' : List Nat} (hl : ∀ ε, i < (Γ ε).length) (h' : ∀ j, j ∈ ow' ↔ j ∈ ow ∨ j = i) (h0 : B.io ≠ none → i ≠ 0) (hjv : ∀ j ∈ js, j ∈ own.map (·.2) := by decide) (hvo : ∀ j ∈ own.map (·.2), j ∉ ow := by decide) (hy : X.N[i]? = some y := by rfl)
    (hyl : X.env.scope.names.lookup y = some .local := by rfl) (hN : X.N.Nodup := by assumption) (hc : X.calm = true := by rfl) (hs : ∀ x, foldedSetIterable e X.env x = pure x := by intro _; rfl) :
    Ds X B ow Γ cr ci owS ΓS (.Assign [.Name y py] (.ListComp elt [⟨tg, e, ifs, 0⟩] scope pos) spos) (fun ε => G ε ∧ ∀ x ∈ xs ε, Gt (ε, x) ∧ (tt (ε, x) = true → Ge (ε, x))) (fun ε => .nx (ε, ((xs ε).filter fun x => tt (ε, x)).map fun x => de (ε, x))) ow'
      (fun q : E × List β => (Γ q.1).set i (some (.list (q.2.map ce)))) :=
  ⟨(ps_setLc (te := tSB X.K ow (fun q : E × α => ft q.2 (wipeG (Γ q.1) (own.map (·.2)))) ce Ge de) hc hN hy hyl hsw hi.pi ok hg (fun s H C cl fp => (hT s H C cl fp).pts) (fun s H C cl fp => ⟨fun pins s' σ H' Q I ⟨B', q⟩ => (hE s H C cl fp B').pe.run pins s' σ H' Q I q⟩) hs).weaken fun Dn σ H ⟨H0, ε, rl, g, k⟩ =>
    lc_pure (Q := fun x H1 => Dn.nx (σ.set i (some x)) H1) ht hjv hvo ⟨H0, ε, rl, g, fun q H' vs hq f r hv hz z => k _ H' (r.setOwn hv hz ((rl.h0 hq).resolve_right (rl.notio hq)) (fun h => rl.base_trk q h hq) z (hl _) h' h0)⟩⟩
end
end Y
namespace Y
open PySem PySem.Spec L2

/-! ### more expressions -/
section
variable {X : Cx} {B : Bd} {ow : List Nat} {E α β γ : Type} {Γ : E → List (Option D)} {p p1 p2 p3 s : Bool} {e e1 e2 e3 : Expr} {pos : Pos} {c : α → D} {G G1 G2 G3 : E → Prop} {d d1 d2 : E → α} {t t1 t2 : E → Bool} {u : E → E}
theorem d_if (hc : Dt X B ow Γ true e G t (fun ε => ε)) (h1 : De X B ow Γ true s e1 c G1 d1 (fun ε => ε)) (h2 : De X B ow Γ true s e2 c G2 d2 (fun ε => ε)) :
    De X B ow Γ true s (.IfExp e e1 e2 pos) c (fun ε => G ε ∧ (t ε = true → G1 ε) ∧ (t ε = false → G2 ε)) (fun ε => if t ε = true then d1 ε else d2 ε) (fun ε => ε) :=
  ⟨(pe_ifExp hc.pt h1.pe h2.pe).weaken fun σ H Q ⟨H0, ε, rl, ⟨g, g1, g2⟩, k⟩ => ⟨H0, ε, rl, g, fun H1 f1 r1 => by
    have f1' : Fr [] H H1 := f1
    cases h : t ε with
    | true =>
      show tS X.K B ow Γ true s c G1 d1 (fun ε => ε) σ H1 Q
      simp only [h, if_true] at k
      exact ⟨H0, ε, r1, g1 h, fun v H2 f2 r2 z2 => k v H2 (f1'.trans f2) r2 z2⟩
    | false =>
      show tS X.K B ow Γ true s c G2 d2 (fun ε => ε) σ H1 Q
      simp only [h, Bool.false_eq_true, if_false] at k
      exact ⟨H0, ε, r1, g2 h, fun v H2 f2 r2 z2 => k v H2 (f1'.trans f2) r2 z2⟩⟩⟩
theorem d_and {es : List Expr} (h1 : De X B ow Γ p1 true e1 cB G1 t1 (fun ε => ε)) (h2 : De X B ow Γ p2 true (.BoolOp .And (e2 :: es) pos) cB G2 t2 (fun ε => ε)) :
    De X B ow Γ (p1 && p2) true (.BoolOp .And (e1 :: e2 :: es) pos) cB (fun ε => G1 ε ∧ (t1 ε = true → G2 ε)) (fun ε => t1 ε && t2 ε) (fun ε => ε) :=
  ⟨(pe_and h1.pe h2.pe).weaken fun σ H Q ⟨H0, ε, rl, ⟨g1, g2⟩, k⟩ => ⟨H0, ε, rl, g1, fun v H1 f1 r1 z1 => ⟨_, z1.bl_inv, by
    cases h : t1 ε with
    | true =>
      rw [if_pos rfl]
      refine ⟨H0, ε, r1, g2 h, fun w H2 f2 r2 z2 => k w H2 ((cond_fr f1 p2).trans (cond_fr2 f2 p1)) r2 ?_⟩
      simpa [h] using z2
    | false =>
      rw [if_neg Bool.false_ne_true]
      refine k _ H1 (cond_fr f1 p2) r1 ?_
      simp only [h, Bool.false_and]
      exact .bl _⟩⟩⟩
theorem d_or {es : List Expr} (h1 : De X B ow Γ p1 true e1 cB G1 t1 (fun ε => ε)) (h2 : De X B ow Γ p2 true (.BoolOp .Or (e2 :: es) pos) cB G2 t2 (fun ε => ε)) :
    De X B ow Γ (p1 && p2) true (.BoolOp .Or (e1 :: e2 :: es) pos) cB (fun ε => G1 ε ∧ (t1 ε = false → G2 ε)) (fun ε => t1 ε || t2 ε) (fun ε => ε) :=
  ⟨(pe_or h1.pe h2.pe).weaken fun σ H Q ⟨H0, ε, rl, ⟨g1, g2⟩, k⟩ => ⟨H0, ε, rl, g1, fun v H1 f1 r1 z1 => ⟨_, z1.bl_inv, by
    cases h : t1 ε with
    | true =>
      rw [if_pos rfl]
      refine k _ H1 (cond_fr f1 p2) r1 ?_
      simp only [h, Bool.true_or]
      exact .bl _
    | false =>
      rw [if_neg Bool.false_ne_true]
      refine ⟨H0, ε, r1, g2 h, fun w H2 f2 r2 z2 => k w H2 ((cond_fr f1 p2).trans (cond_fr2 f2 p1)) r2 ?_⟩
      simpa [h] using z2⟩⟩⟩
theorem d_one {op} (h : De X B ow Γ p s e c G d u) : De X B ow Γ p s (.BoolOp op [e] pos) c G d u := ⟨pe_one h.pe⟩
theorem d_not (h : De X B ow Γ p s e cB G t u) : De X B ow Γ p s (.UnaryOp .Not e pos) cB G (fun ε => !t ε) u :=
  ⟨(pe_not h.pe).weaken fun σ H Q ⟨H0, ε, rl, g, k⟩ => ⟨H0, ε, rl, g, fun v H1 f1 r1 z1 => ⟨_, z1.bl_inv, k _ H1 f1 r1 (.bl _)⟩⟩⟩
/-- tests of pure parts -/
theorem w_andP {es : List Expr} (h1 : Dt X B ow Γ p1 e1 G1 t1 (fun ε => ε)) (h2 : Dw X B ow Γ p2 (.BoolOp .And (e2 :: es) pos) G2 t2 (fun ε => ε)) :
    Dw X B ow Γ (p1 && p2) (.BoolOp .And (e1 :: e2 :: es) pos) (fun ε => G1 ε ∧ (t1 ε = true → G2 ε)) (fun ε => t1 ε && t2 ε) (fun ε => ε) := (w_and h1 h2).pure fun _ => ite_same _
theorem w_orP {es : List Expr} (h1 : Dt X B ow Γ p1 e1 G1 t1 (fun ε => ε)) (h2 : Dw X B ow Γ p2 (.BoolOp .Or (e2 :: es) pos) G2 t2 (fun ε => ε)) :
    Dw X B ow Γ (p1 && p2) (.BoolOp .Or (e1 :: e2 :: es) pos) (fun ε => G1 ε ∧ (t1 ε = false → G2 ε)) (fun ε => t1 ε || t2 ε) (fun ε => ε) := (w_or h1 h2).pure fun _ => ite_same _
/-- a op b op' c of ints -/
theorem d_chain {op op' : CmpOp} {r r' : R2} {f f' : Int → Int → Bool} {a b b' : E → Int} (ho : OpR X (compareOp op) r) (ho' : OpR X (compareOp op') r') (hv : Op2 X.K r cI cI cB (fun _ _ => True) f) (hv' : Op2 X.K r' cI cI cB (fun _ _ => True) f')
    (h1 : De X B ow Γ true s e1 cI G1 a (fun ε => ε)) (h2 : De X B ow Γ true s e2 cI G2 b (fun ε => ε)) (h3 : De X B ow Γ true s e3 cI G3 b' (fun ε => ε)) (hm : lastMarks [op, op'] [e2, e3] = false := by with_unfolding_all rfl) :
    De X B ow Γ true s (.Compare e1 [op, op'] [e2, e3] pos) cB (fun ε => G1 ε ∧ G2 ε ∧ (f (a ε) (b ε) = true → G3 ε)) (fun ε => f (a ε) (b ε) && f' (b ε) (b' ε)) (fun ε => ε) :=
  ⟨(pe_chain ho ho' h1.pe h2.pe h3.pe hm).weaken fun σ H Q ⟨H0, ε, rl, ⟨g1, g2, g3⟩, k⟩ => ⟨H0, ε, rl, g1, fun v H1 f1 r1 z1 => ⟨H0, ε, r1, g2, fun w H2 f2 r2 z2 => by
    have f1' : Fr [] H H1 := f1
    have f2' : Fr [] H1 H2 := f2
    refine hv _ H2 (a ε) (b ε) v w _ (r2.tr s) (z1.fr f2'.nil) z2 trivial fun z H3 f3 z3 => ⟨_, z3.bl_inv, ?_⟩
    have r3 := r2.grow f3
    cases h : f (a ε) (b ε) with
    | false =>
      rw [if_neg Bool.false_ne_true]
      refine k _ H3 ((f1'.trans f2').trans f3) r3 ?_
      simp only [h, Bool.false_and]
      exact .bl _
    | true =>
      rw [if_pos rfl]
      refine ⟨H0, ε, r3, g3 h, fun w' H4 f4 r4 z4 => ?_⟩
      have f4' : Fr [] H3 H4 := f4
      refine hv' _ H4 (b ε) (b' ε) w w' _ (r4.tr s) ((z2.fr f3.nil).fr f4'.nil) z4 trivial fun z' H5 f5 z5 => k _ H5 ((((f1'.trans f2').trans f3).trans f4').trans f5) (r4.grow f5) ?_
      simpa [h] using z5⟩⟩⟩
theorem t_chain {op op' : CmpOp} {r r' : R2} {f f' : Int → Int → Bool} {a b b' : E → Int} (ho : OpR X (compareOp op) r) (ho' : OpR X (compareOp op') r') (hv : Op2 X.K r cI cI cB (fun _ _ => True) f) (hv' : Op2 X.K r' cI cI cB (fun _ _ => True) f')
    (h1 : De X B ow Γ true s e1 cI G1 a (fun ε => ε)) (h2 : De X B ow Γ true s e2 cI G2 b (fun ε => ε)) (h3 : De X B ow Γ true s e3 cI G3 b' (fun ε => ε)) (hm : lastMarks [op, op'] [e2, e3] = false := by with_unfolding_all rfl) :
    Dt X B ow Γ true (.Compare e1 [op, op'] [e2, e3] pos) (fun ε => G1 ε ∧ G2 ε ∧ (f (a ε) (b ε) = true → G3 ε)) (fun ε => f (a ε) (b ε) && f' (b ε) (b' ε)) (fun ε => ε) :=
  ⟨(pt_chain ho ho' h1.pe h2.pe h3.pe hm).weaken fun σ H Q ⟨H0, ε, rl, ⟨g1, g2, g3⟩, k⟩ => ⟨H0, ε, rl, g1, fun v H1 f1 r1 z1 => ⟨H0, ε, r1, g2, fun w H2 f2 r2 z2 => by
    have f1' : Fr [] H H1 := f1
    have f2' : Fr [] H1 H2 := f2
    refine hv _ H2 (a ε) (b ε) v w _ (r2.tr s) (z1.fr f2'.nil) z2 trivial fun z H3 f3 z3 => ⟨_, z3.bl_inv, ?_⟩
    have r3 := r2.grow f3
    cases h : f (a ε) (b ε) with
    | false =>
      rw [if_neg Bool.false_ne_true]
      simp only [h, Bool.false_and] at k
      exact ⟨false, rfl, k H3 ((f1'.trans f2').trans f3) r3⟩
    | true =>
      rw [if_pos rfl]
      simp only [h, Bool.true_and] at k
      refine ⟨H0, ε, r3, g3 h, fun w' H4 f4 r4 z4 => ?_⟩
      have f4' : Fr [] H3 H4 := f4
      exact hv' _ H4 (b ε) (b' ε) w w' _ (r4.tr s) ((z2.fr f3.nil).fr f4'.nil) z4 trivial fun z' H5 f5 z5 => ⟨_, z5.bl_inv, k H5 ((((f1'.trans f2').trans f3).trans f4').trans f5) (r4.grow f5)⟩⟩⟩⟩
/-- the truth of a value -/
theorem t_truth {b : α → Bool} (h : De X B ow Γ p s e c G d u) (hb : ∀ (A : List Addr) (H : Hp) (v : V) (x : α), Fz X.K A H v (c x) → TruV X.K v H (b x)) (he : ∀ whole, isTrue e X.env whole = (do let v ← whole; standAt e.pos; holding [v] (truthy v)) := by intro _; rfl) :
    Dt X B ow Γ p e G (fun ε => b (d ε)) u :=
  ⟨(pt_truth h.pe he).weaken fun σ H Q ⟨H0, ε, rl, g, k⟩ => ⟨H0, ε, rl, g, fun v H1 f1 r1 z1 => ⟨_, hb _ H1 v _ z1, k H1 f1 r1⟩⟩⟩
end
section
variable {K : Frag} {A : List Addr} {H : Hp} {v : V} {α β : Type}
theorem tru_int (A : List Addr) (H : Hp) (v : V) (x : Int) (z : Fz K A H v (cI x)) : TruV K v H (x != 0) := by cases z.int_inv; rfl
theorem tru_list {c : List α → D} {ce : α → D} (hc : IsSq c ce) (A : List Addr) (H : Hp) (v : V) (x : List α) (z : Fz K A H v (c x)) : TruV K v H (!x.isEmpty) := by
  rcases hc with h | h
  · rw [h] at z
    obtain ⟨a, vs, rfl, n, l⟩ := z.lst_inv
    refine .inl ⟨vs, n.sq, ?_⟩
    have := l.length
    cases vs <;> cases x <;> simp at this ⊢
  · rw [h] at z
    obtain ⟨a, vs, rfl, n, l⟩ := z.tup_inv
    refine .inr (.inl ⟨vs, n.sq, ?_⟩)
    have := l.length
    cases vs <;> cases x <;> simp at this ⊢
/-- is None -/
def rIsNon : R2 := fun x y H Q => y = .non ∧ Q (.bl (decide (x = .non))) H
def rNotNon : R2 := fun x y H Q => y = .non ∧ Q (.bl (!decide (x = .non))) H
theorem fz_non {c : α → D} (hc : ∀ x, c x ≠ .none) {o : Option α} (z : Fz K A H v (cO c o)) : decide (v = .non) = o.isNone := by
  cases o with
  | none => cases z.non_inv; rfl
  | some x =>
    have z' : Fz K A H v (c x) := z
    refine decide_eq_false fun e => ?_
    subst e
    have := hc x
    generalize c x = d at z' this
    cases z'
    exact this rfl
theorem v_isO {c : α → D} (hc : ∀ x, c x ≠ .none) : Op2 K rIsNon (cO c) cN cB (fun _ _ => True) (fun o _ => o.isNone) := fun A H x y v w Q _ z1 z2 _ k => by
  cases z2.non_inv
  exact ⟨rfl, k _ H (Fr.refl _ _) (by rw [fz_non hc z1]; exact .bl _)⟩
theorem v_notO {c : α → D} (hc : ∀ x, c x ≠ .none) : Op2 K rNotNon (cO c) cN cB (fun _ _ => True) (fun o _ => !o.isNone) := fun A H x y v w Q _ z1 z2 _ k => by
  cases z2.non_inv
  exact ⟨rfl, k _ H (Fr.refl _ _) (by rw [fz_non hc z1]; exact .bl _)⟩
/-- a value that is never None -/
theorem v_isX {c : α → D} (hc : ∀ x, c x ≠ .none) : Op2 K rIsNon c cN cB (fun _ _ => True) (fun _ _ => false) := fun A H x y v w Q _ z1 z2 _ k => by
  cases z2.non_inv
  have e : decide (v = .non) = false := decide_eq_false fun e => by
    subst e
    have := hc x
    generalize c x = d at z1 this
    cases z1
    exact this rfl
  exact ⟨rfl, k _ H (Fr.refl _ _) (by rw [e]; exact .bl _)⟩
theorem v_notX {c : α → D} (hc : ∀ x, c x ≠ .none) : Op2 K rNotNon c cN cB (fun _ _ => True) (fun _ _ => true) := fun A H x y v w Q _ z1 z2 _ k => by
  cases z2.non_inv
  have e : decide (v = .non) = false := decide_eq_false fun e => by
    subst e
    have := hc x
    generalize c x = d at z1 this
    cases z1
    exact this rfl
  exact ⟨rfl, k _ H (Fr.refl _ _) (by rw [e]; exact .bl _)⟩
theorem v_isN : Op2 K rIsNon cN cN cB (fun _ _ => True) (fun _ _ => true) := fun A H x y v w Q _ z1 z2 _ k => by
  cases z2.non_inv; cases z1.non_inv
  exact ⟨rfl, k _ H (Fr.refl _ _) (.bl _)⟩
theorem v_notN : Op2 K rNotNon cN cN cB (fun _ _ => True) (fun _ _ => false) := fun A H x y v w Q _ z1 z2 _ k => by
  cases z2.non_inv; cases z1.non_inv
  exact ⟨rfl, k _ H (Fr.refl _ _) (.bl _)⟩
/-- data are equal -/
structure Cq (n : Nat) (c : α → D) : Prop where
  lay : ∀ x, (c x).canLay0 = true
  dep : ∀ x, (c x).depth ≤ n
theorem Cq.shaped {n : Nat} {c : α → D} (h : Cq n c) (hn : n ≤ 64) (x : α) : SeqAt.shaped (c x) = true := by
  show ((c x).canLay0 && decide ((c x).depth ≤ 64)) = true
  rw [Bool.and_eq_true]
  exact ⟨h.lay x, decide_eq_true (Nat.le_trans (h.dep x) hn)⟩
theorem cq_I : Cq 0 cI := ⟨fun _ => by simp [PyData.canLay0], fun _ => by simp [PyData.depth]⟩
theorem cq_B : Cq 0 cB := ⟨fun _ => by simp [PyData.canLay0], fun _ => by simp [PyData.depth]⟩
theorem cq_N : Cq 0 cN := ⟨fun _ => by simp [PyData.canLay0], fun _ => by simp [PyData.depth]⟩
theorem canLayAll_map {c : α → D} (h : ∀ x, (c x).canLay0 = true) : ∀ xs : List α, PyData.canLayAll0 (xs.map c) = true
  | [] => by simp [PyData.canLayAll0]
  | x :: xs => by simp [PyData.canLayAll0, h x, canLayAll_map h xs]
theorem depthAll_mapc {n : Nat} {c : α → D} (h : ∀ x, (c x).depth ≤ n) : ∀ xs : List α, PyData.depthAll (xs.map c) ≤ n
  | [] => by simp [PyData.depthAll]
  | x :: xs => by
    have h1 := h x
    have h2 := depthAll_mapc h xs
    simp only [List.map_cons, PyData.depthAll]
    omega
theorem cq_T {n : Nat} {c : α → D} (h : Cq n c) : Cq (n + 1) (cT c) := ⟨fun xs => by simp only [PyData.canLay0]; exact canLayAll_map h.lay xs, fun xs => by
  have := depthAll_mapc h.dep xs
  simp only [PyData.depth]; omega⟩
theorem cq_L {n : Nat} {c : α → D} (h : Cq n c) : Cq (n + 1) (cL c) := ⟨fun xs => by simp only [PyData.canLay0]; exact canLayAll_map h.lay xs, fun xs => by
  have := depthAll_mapc h.dep xs
  simp only [PyData.depth]; omega⟩
theorem cq_O {n : Nat} {c : α → D} (h : Cq n c) : Cq n (cO c) := ⟨fun o => by cases o with | none => simp [cO, PyData.canLay0] | some x => exact h.lay x, fun o => by cases o with | none => simp [cO, PyData.depth] | some x => exact h.dep x⟩
theorem cq_1 {n : Nat} {c : α → D} (h : Cq n c) : Cq (n + 1) (c1 c) := ⟨fun x => by simp [PyData.canLay0, PyData.canLayAll0, h.lay x], fun x => by
  have := h.dep x
  simp only [PyData.depth, PyData.depthAll]; omega⟩
theorem cq_2 {n m : Nat} {c : α → D} {c' : β → D} (h : Cq n c) (h' : Cq m c') : Cq (max n m + 1) (c2 c c') := ⟨fun x => by simp [PyData.canLay0, PyData.canLayAll0, h.lay x.1, h'.lay x.2], fun x => by
  have := h.dep x.1
  have := h'.dep x.2
  simp only [PyData.depth, PyData.depthAll]; omega⟩
theorem cq_3 {n m l : Nat} {γ : Type} {c : α → D} {c' : β → D} {c'' : γ → D} (h : Cq n c) (h' : Cq m c') (h'' : Cq l c'') : Cq (max n (max m l) + 1) (c3 c c' c'') := ⟨fun x => by simp [PyData.canLay0, PyData.canLayAll0, h.lay x.1, h'.lay x.2.1, h''.lay x.2.2], fun x => by
  have := h.dep x.1
  have := h'.dep x.2.1
  have := h''.dep x.2.2
  simp only [PyData.depth, PyData.depthAll]; omega⟩
/-- == of data: any two codecs -/
theorem v_eqD {n m : Nat} {c : α → D} {c' : β → D} (h : Cq n c) (h' : Cq m c') (hn : n ≤ 64 := by decide) (hm : m ≤ 64 := by decide) : Op2 K (rEqD K) c c' cB (fun _ _ => True) (fun x y => PyData.eqv (c x) (c' y)) := fun A H x y v w Q _ z1 z2 _ k =>
  ⟨_, _, z1.dp, z2.dp, h.shaped hn x, h'.shaped hm y, k _ H (Fr.refl _ _) (.bl _)⟩
theorem v_neD {n m : Nat} {c : α → D} {c' : β → D} (h : Cq n c) (h' : Cq m c') (hn : n ≤ 64 := by decide) (hm : m ≤ 64 := by decide) : Op2 K (rNeD K) c c' cB (fun _ _ => True) (fun x y => !PyData.eqv (c x) (c' y)) := fun A H x y v w Q _ z1 z2 _ k =>
  ⟨_, _, z1.dp, z2.dp, h.shaped hn x, h'.shaped hm y, k _ H (Fr.refl _ _) (.bl _)⟩
theorem v_eqG {c : α → D} {c' : β → D} : Op2 K (rEqD K) c c' cB (fun x y => SeqAt.shaped (c x) = true ∧ SeqAt.shaped (c' y) = true) (fun x y => PyData.eqv (c x) (c' y)) := fun A H x y v w Q _ z1 z2 hc k => ⟨_, _, z1.dp, z2.dp, hc.1, hc.2, k _ H (Fr.refl _ _) (.bl _)⟩
theorem v_neG {c : α → D} {c' : β → D} : Op2 K (rNeD K) c c' cB (fun x y => SeqAt.shaped (c x) = true ∧ SeqAt.shaped (c' y) = true) (fun x y => !PyData.eqv (c x) (c' y)) := fun A H x y v w Q _ z1 z2 hc k => ⟨_, _, z1.dp, z2.dp, hc.1, hc.2, k _ H (Fr.refl _ _) (.bl _)⟩
theorem v_eqDy : Op2 K (rEqD K) cD cD cB (fun x y => SeqAt.shaped x = true ∧ SeqAt.shaped y = true) (fun x y => PyData.eqv x y) := fun A H x y v w Q _ z1 z2 hc k => ⟨_, _, z1.dp, z2.dp, hc.1, hc.2, k _ H (Fr.refl _ _) (.bl _)⟩
end

/-! ### slices, sums of tuples, lists -/
section
variable {X : Cx} {B : Bd} {ow : List Nat} {E α β : Type} {Γ : E → List (Option D)} {p s : Bool} {e e1 e2 : Expr} {pos p2 : Pos} {c : α → D} {G G1 G2 : E → Prop} {d : E → List α} {ds : E → Str} {u : E → E}
/-- a part of a slice: pure -/
structure DO (X : Cx) (B : Bd) (ow : List Nat) {E : Type} (Γ : E → List (Option D)) (e : Option Expr) (G : E → Prop) (d : E → Option Int) : Prop where
  po : PO X e (fun σ H Q => ∃ H0 ε, Rel X.K B H0 ow σ H (Γ ε) ∧ G ε ∧ ∀ H', Fr [] H H' → Rel X.K B H0 ow σ H' (Γ ε) → Q (d ε) H')
theorem o_none : DO X B ow Γ none (fun _ => True) (fun _ => none) := ⟨⟨fun pins s σ H Q I ⟨H0, ε, r, _, k⟩ => po_none.run pins s σ H Q I (k H (Fr.refl _ _) r)⟩⟩
theorem o_some {di : E → Int} (h : De X B ow Γ true true e cI G di (fun ε => ε)) : DO X B ow Γ (some e) G (fun ε => some (di ε)) :=
  ⟨⟨fun pins s σ H Q I ⟨H0, ε, r, g, k⟩ => (po_some h.pe).run pins s σ H Q I ⟨H0, ε, r, g, fun v H' f r' z => ⟨_, z.int_inv, k H' f r'⟩⟩⟩⟩
def cut {α : Type} (xs : List α) (lo hi : Option Int) : List α := (xs.drop (HT.sIx xs.length 0 lo)).take (HT.sIx xs.length xs.length hi - HT.sIx xs.length 0 lo)
theorem cut_map {f : α → β} (xs : List α) (lo hi : Option Int) : cut (xs.map f) lo hi = (cut xs lo hi).map f := by unfold cut; rw [List.length_map, List.map_take, List.map_drop]
theorem cut_len (xs : List α) (lo hi : Option Int) : (cut xs lo hi).length ≤ xs.length := by
  unfold cut
  rw [List.length_take, List.length_drop]
  omega
theorem FzL.cut {K : Frag} {A : List Addr} {H : Hp} {vs : List V} {es : List D} (h : FzL K A H vs es) (lo hi : Option Int) : FzL K A H (cutV vs lo hi) (Y.cut es lo hi) := by
  unfold cutV Y.cut
  rw [← h.length]
  exact (h.drop _).take _
variable {lo hi : Option Expr} {dl dh : E → Option Int}
theorem d_slT (h : De X B ow Γ true s e (cT c) G d (fun ε => ε)) (hl : DO X B ow Γ lo G1 dl) (hh : DO X B ow Γ hi G2 dh) : De X B ow Γ true s (.Subscript e (.Slice lo hi none p2) pos) (cT c) (fun ε => G ε ∧ G1 ε ∧ G2 ε) (fun ε => cut (d ε) (dl ε) (dh ε)) (fun ε => ε) :=
  ⟨(pe_slice sl_tupA h.pe hl.po hh.po).weaken fun σ H Q ⟨H0, ε, rl, ⟨g, g1, g2⟩, k⟩ => ⟨H0, ε, rl, g, fun v H1 f1 r1 z1 => ⟨H0, ε, r1, g1, fun H2 f2 r2 => ⟨H0, ε, r2, g2, fun H3 f3 r3 => by
    have f1' : Fr [] H H1 := f1
    have z3 := (z1.fr f2.nil).fr (f3.nil (A := cond s (B.full σ ow) B.base))
    obtain ⟨a, vs, rfl, n, l⟩ := z3.tup_inv
    have fa : Fr [] H H3 := (f1'.trans f2).trans f3
    refine ⟨a, vs, rfl, n.sq, fun hw => k _ H3 fa r3 ?_, fun _ q hq => k _ _ (fa.trans (Fr.new hq)) (r3.grow (Fr.new hq)) ?_⟩
    · have hl : vs.length = (d ε).length := by simpa using l.length
      rw [hl] at hw
      have e : cut (d ε) (dl ε) (dh ε) = d ε := by
        unfold cut
        rw [hw.1, hw.2, List.drop_zero, Nat.sub_zero, List.take_length]
      show Fz _ _ _ _ (cT c (cut (d ε) (dl ε) (dh ε)))
      rw [e]
      exact .tup n l
    · refine .tup (.inl ⟨(r3.tr s).new hq, upd_same, Nat.le_trans (cutV_length _ _ _) n.sz⟩) ?_
      rw [← cut_map]
      exact (l.cut _ _).fr (Fr.new hq)⟩⟩⟩⟩
theorem d_slL (h : De X B ow Γ true true e (cL c) G d (fun ε => ε)) (hl : DO X B ow Γ lo G1 dl) (hh : DO X B ow Γ hi G2 dh) : DL X B ow Γ true (.Subscript e (.Slice lo hi none p2) pos) c (fun ε => G ε ∧ G1 ε ∧ G2 ε) (fun ε => cut (d ε) (dl ε) (dh ε)) (fun ε => ε) :=
  ⟨(pe_slice sl_list h.pe hl.po hh.po).weaken fun σ H Q ⟨H0, ε, rl, ⟨g, g1, g2⟩, k⟩ => ⟨H0, ε, rl, g, fun v H1 f1 r1 z1 => ⟨H0, ε, r1, g1, fun H2 f2 r2 => ⟨H0, ε, r2, g2, fun H3 f3 r3 => by
    have f1' : Fr [] H H1 := f1
    have z3 := (z1.fr f2.nil).fr (f3.nil (A := cond true (B.full σ ow) B.base))
    obtain ⟨a, vs, rfl, n, l⟩ := z3.lst_inv
    have fa : Fr [] H H3 := (f1'.trans f2).trans f3
    refine ⟨a, vs, rfl, n.sq, fun q hq => k q _ _ (fa.back hq) (fa.trans (Fr.new hq)) (r3.plus hq) upd_same (Nat.le_trans (cutV_length _ _ _) n.2) ?_⟩
    rw [← cut_map]
    refine ((((l.cut _ _).more hq).sub fun x hx => ?_).fr (Fr.new hq))
    simp only [Bd.full, Bd.base, Bd.plus, List.mem_append, List.mem_cons, cond_true] at hx ⊢
    rcases hx with (h | h | h) | h
    · exact .inr (.inl (.inl h))
    · exact .inl h
    · exact .inr (.inl (.inr h))
    · exact .inr (.inr h)⟩⟩⟩⟩
theorem d_slS (h : De X B ow Γ true s e cS G ds (fun ε => ε)) (hl : DO X B ow Γ lo G1 dl) (hh : DO X B ow Γ hi G2 dh) : De X B ow Γ true s (.Subscript e (.Slice lo hi none p2) pos) cS (fun ε => G ε ∧ G1 ε ∧ G2 ε ∧ (ds ε).length ≤ 16777216) (fun ε => cutS (ds ε) (dl ε) (dh ε)) (fun ε => ε) :=
  ⟨(pe_slice sl_str h.pe hl.po hh.po).weaken fun σ H Q ⟨H0, ε, rl, ⟨g, g1, g2, g3⟩, k⟩ => ⟨H0, ε, rl, g, fun v H1 f1 r1 z1 => ⟨H0, ε, r1, g1, fun H2 f2 r2 => ⟨H0, ε, r2, g2, fun H3 f3 r3 => by
    have f1' : Fr [] H H1 := f1
    cases z1.str_inv
    exact ⟨_, rfl, by rw [sizeLine_eq]; exact g3, k _ H3 ((f1'.trans f2).trans f3) r3 (.str _)⟩⟩⟩⟩⟩
end
section
variable {K : Frag} {α β : Type}
/-- tuple + tuple -/
theorem v_catT {ce : α → D} : Op2 K (rCatA K) (cT ce) (cT ce) (cT ce) (fun xs ys => xs.length + ys.length ≤ 16777216) (fun xs ys => xs ++ ys) := fun A H x y v w Q t z1 z2 hc k => by
  obtain ⟨a, vs, rfl, n, l⟩ := z1.tup_inv
  obtain ⟨b, ws, rfl, n2, l2⟩ := z2.tup_inv
  have e1 : vs.length = x.length := by simpa using l.length
  have e2 : ws.length = y.length := by simpa using l2.length
  have hl : vs.length + ws.length ≤ 16777216 := by rw [e1, e2]; exact hc
  refine ⟨a, b, vs, ws, rfl, rfl, n.sq, n2.sq, by rw [sizeLine_eq]; exact hl, fun h => k _ H (Fr.refl _ _) ?_, fun _ h => k _ H (Fr.refl _ _) ?_, fun _ _ q hq => k _ _ (Fr.new hq) ?_⟩
  · have : x = [] := List.eq_nil_of_length_eq_zero (by rw [← e1, h]; rfl)
    show Fz K A H _ (cT ce (x ++ y))
    rw [this]
    exact .tup n2 l2
  · have : y = [] := List.eq_nil_of_length_eq_zero (by rw [← e2, h]; rfl)
    show Fz K A H _ (cT ce (x ++ y))
    rw [this, List.append_nil]
    exact .tup n l
  · refine .tup (.inl ⟨t.new hq, upd_same, by rw [List.length_append]; exact hl⟩) ?_
    rw [List.map_append]
    exact (l.append l2).fr (Fr.new hq)
theorem v_catS : Op2 K (fun x y H Q => ∃ i j, x = .str i ∧ y = .str j ∧ i.length + j.length ≤ sizeLine ∧ Q (.str (i ++ j)) H) cS cS cS (fun x y => x.length + y.length ≤ 16777216) (fun x y => x ++ y) := fun A H x y v w Q t z1 z2 hc k => by
  cases z1.str_inv
  cases z2.str_inv
  exact ⟨_, _, rfl, rfl, by rw [sizeLine_eq]; exact hc, k _ H (Fr.refl _ _) (.str _)⟩
end
/-! lists that are new -/
section
variable {X : Cx} {B : Bd} {ow : List Nat} {E α β : Type} {Γ : E → List (Option D)} {p s : Bool} {e e1 e2 : Expr} {es : List Expr} {pos px : Pos} {c : α → D} {G G1 G2 : E → Prop} {d d1 d2 : E → List α} {u : E → E}
theorem fzl_plus {K : Frag} {H : Hp} {σ : L2.St} {q : Addr} {o : HO} {vs : List V} {ys : List D} (hq : H q = none) (z : FzL K (B.full σ ow) H vs ys) : FzL K ((B.plus q).full σ ow) (upd H q o) vs ys := by
  refine ((z.more hq).sub fun x hx => ?_).fr (Fr.new hq)
  simp only [Bd.full, Bd.base, Bd.plus, List.mem_append, List.mem_cons] at hx ⊢
  rcases hx with (h | h | h) | h
  · exact .inr (.inl (.inl h))
  · exact .inl h
  · exact .inr (.inl (.inr h))
  · exact .inr (.inr h)
theorem l_disp {cs : β → List D} {dv : E → β} {g : β → List α} (hc : ∀ x, cs x = (g x).map c) (hl : ∀ x, (g x).length ≤ 1000) (h : DA X B ow Γ true true es cs G dv u) : DL X B ow Γ true (.List es pos) c G (fun ε => g (dv ε)) u :=
  ⟨(pe_lst h.pa).weaken fun σ H Q ⟨H0, ε, rl, gg, k⟩ => ⟨H0, ε, rl, gg, fun vs H1 f1 r1 z1 => by
    have f1' : Fr [] H H1 := f1
    have z1' : FzL X.K (B.full σ ow) H1 vs ((g (dv ε)).map c) := by rw [← hc]; exact z1
    have hz : vs.length ≤ 1000 := by
      have := z1'.length
      rw [List.length_map] at this
      rw [this]; exact hl _
    exact ⟨Nat.le_trans hz (by decide), fun q hq => k q _ vs (f1'.back hq) (f1'.trans (Fr.new hq)) (r1.plus hq) upd_same (Nat.le_trans hz (by decide)) (fzl_plus hq z1')⟩⟩⟩
theorem l_dispX {cs : β → List D} {dv : E → β} {g : β → List α} (hc : ∀ x, cs x = (g x).map c) (hl : ∀ x, (g x).length ≤ 1000) (h : DA X B ow Γ false true es cs G dv u) : De X B ow Γ false true (.List es pos) (cL c) G (fun ε => g (dv ε)) u :=
  (d_lst (ct := fun x => cL c (g x)) (fun x => by rw [hc]) (fun x => by rw [hc, List.length_map]; exact hl x) h).as (c' := cL c) (g := g) fun _ => rfl
theorem l_list {cq : List α → D} (hq' : IsSq cq c) (h : DA X B ow Γ true true [e] (ac cq an) G (fun ε => (d ε, ())) u) (hm : X.mg "list" = none) (hg : Gl X "list" := by rfl) (he : starEach [e] X.env = (false, eval e X.env) :: starEach [] X.env := by rfl)
    (hpl : (backTo pos (starEach [] X.env)).any (·.1) = false := by rfl) : DL X B ow Γ true (.Call (.Name "list" px) [e] [] pos) c G d u :=
  ⟨(pe_callTy call_list_of hg hm (by decide +kernel) h.pa (by decide) (by decide) he hpl).weaken fun σ H Q ⟨H0, ε, rl, gg, k⟩ => ⟨H0, ε, rl, gg, fun vs H1 f1 r1 z1 => by
    have f1' : Fr [] H H1 := f1
    obtain ⟨v, rfl, z⟩ := fzl1 (ds := []) z1
    obtain ⟨a, ws, rfl, hs, l, e, sz⟩ := hq'.inv z
    exact ⟨a, ws, rfl, hs, fun q hq => k q _ ws (f1'.back hq) (f1'.trans (Fr.new hq)) (r1.plus hq) upd_same sz (fzl_plus hq l)⟩⟩⟩
theorem l_cat (h1 : De X B ow Γ true true e1 (cL c) G1 d1 (fun ε => ε)) (h2 : De X B ow Γ true true e2 (cL c) G2 d2 (fun ε => ε)) : DL X B ow Γ true (.BinOp e1 .Add e2 pos) c (fun ε => G1 ε ∧ G2 ε ∧ (d1 ε).length + (d2 ε).length ≤ 16777216) (fun ε => d1 ε ++ d2 ε) (fun ε => ε) :=
  ⟨(pe_op op_cat h1.pe h2.pe).weaken fun σ H Q ⟨H0, ε, rl, ⟨g1, g2, g3⟩, k⟩ => ⟨H0, ε, rl, g1, fun v H1 f1 r1 z1 => ⟨H0, ε, r1, g2, fun w H2 f2 r2 z2 => by
    have f1' : Fr [] H H1 := f1
    have f2' : Fr [] H1 H2 := f2
    obtain ⟨a, vs, rfl, n, l⟩ := (z1.fr f2'.nil).lst_inv
    obtain ⟨b, ws, rfl, n2, l2⟩ := z2.lst_inv
    have e1 : vs.length = (d1 ε).length := by simpa using l.length
    have e2 : ws.length = (d2 ε).length := by simpa using l2.length
    have hl : vs.length + ws.length ≤ 16777216 := by rw [e1, e2]; exact g3
    have fa := f1'.trans f2'
    refine ⟨a, b, vs, ws, rfl, rfl, n.1.2, n2.1.2, by rw [sizeLine_eq]; exact hl, fun q hq => k q _ _ (fa.back hq) (fa.trans (Fr.new hq)) (r2.plus hq) upd_same (by rw [List.length_append]; exact hl) ?_⟩
    rw [List.map_append]
    exact fzl_plus hq (l.append l2)⟩⟩⟩
def repI {α : Type} (xs : List α) (k : Int) : List α := (List.replicate k.toNat xs).flatten
theorem l_rep {dk : E → Int} (h1 : De X B ow Γ true true e1 (cL c) G1 d1 (fun ε => ε)) (h2 : De X B ow Γ true true e2 cI G2 dk (fun ε => ε)) :
    DL X B ow Γ true (.BinOp e1 .Mult e2 pos) c (fun ε => G1 ε ∧ G2 ε ∧ -1000000 ≤ dk ε ∧ dk ε ≤ 1000000 ∧ (d1 ε).length * (dk ε).toNat ≤ 16777216) (fun ε => repI (d1 ε) (dk ε)) (fun ε => ε) :=
  ⟨(pe_op op_rep h1.pe h2.pe).weaken fun σ H Q ⟨H0, ε, rl, ⟨g1, g2, g3, g4, g5⟩, k⟩ => ⟨H0, ε, rl, g1, fun v H1 f1 r1 z1 => ⟨H0, ε, r1, g2, fun w H2 f2 r2 z2 => by
    have f1' : Fr [] H H1 := f1
    have f2' : Fr [] H1 H2 := f2
    obtain ⟨a, vs, rfl, n, l⟩ := (z1.fr f2'.nil).lst_inv
    cases z2.int_inv
    have e1 : vs.length = (d1 ε).length := by simpa using l.length
    have fa := f1'.trans f2'
    have hl : vs.length * (dk ε).toNat ≤ 16777216 := by rw [e1]; exact g5
    refine ⟨a, _, vs, rfl, rfl, n.1.2, by omega, by omega, by rw [sizeLine_eq]; exact hl, fun q hq => k q _ _ (fa.back hq) (fa.trans (Fr.new hq)) (r2.plus hq) upd_same ?_ ?_⟩
    · rw [List.length_flatten, List.map_replicate, List.sum_replicate_nat]
      rw [Nat.mul_comm]
      exact hl
    · have e : (repI (d1 ε) (dk ε)).map c = (List.replicate (dk ε).toNat ((d1 ε).map c)).flatten := by
        unfold repI
        rw [List.map_flatten, List.map_replicate]
      show FzL _ _ _ _ ((repI (d1 ε) (dk ε)).map c)
      rw [e]
      exact fzl_plus hq (l.rep _)⟩⟩⟩
end
end Y
namespace Y
open PySem PySem.Spec PyProof.Rows L2

/-! ### tuple * int, any count -/
theorem tmulS (l : Addr) (items : Array Value) (n : Nat) (dd : Option Addr) (sl : Array (Option Value)) (x : Int) (u : Tok) (c0 : (decide (x < -(2 ^ 63)) || decide (x ≥ 2 ^ 63)) = false) (c1 : (items.isEmpty || x == 1) = true) :
    Meets (Builtin.«tuple.__mul__» ⟨[.ref l, .int x u], []⟩) (fun _ R s => s.heap.get? l = some { cls := .type "tuple", dict := dd, data := .seq items n, slots := sl } ∧ R (.ok (.ret (Value.ref l))) s) :=
  .of_wp fun prog w A R s h => by
    obtain ⟨hp, g, d, tk, os⟩ := s
    obtain ⟨hl, h⟩ := h
    have f1 := AutoSeq1.idx_int
    wp_walk using wpAny_loadPart' hl
    repeat (first
      | exact ⟨_, rfl, h⟩
      | (refine wpAny_ite_false (decide_eq_false (by rw [c0]; exact Bool.false_ne_true)) ?_; wp_walk using wpAny_loadPart' hl)
      | (refine wpAny_ite_true (decide_eq_true c1) ?_; wp_walk using wpAny_loadPart' hl))
theorem tmulE (l : Addr) (items : Array Value) (n : Nat) (dd : Option Addr) (sl : Array (Option Value)) (x : Int) (u : Tok) (c0 : (decide (x < -(2 ^ 63)) || decide (x ≥ 2 ^ 63)) = false) (c1 : (items.isEmpty || x == 1) = false) (c2 : (decide (x ≤ 0) || items.isEmpty) = true) :
    Meets (Builtin.«tuple.__mul__» ⟨[.ref l, .int x u], []⟩) (fun _ R s => s.heap.get? l = some { cls := .type "tuple", dict := dd, data := .seq items n, slots := sl } ∧
      R (.ok (.ret (Value.ref s.heap.objs.size))) { s with heap := s.heap.push { cls := Value.type "tuple", data := Data.seq #[] }, toks := s.toks }) :=
  .of_wp fun prog w A R s h => by
    obtain ⟨hp, g, d, tk, os⟩ := s
    obtain ⟨hl, h⟩ := h
    have f1 := AutoSeq1.idx_int
    wp_walk using wpAny_loadPart' hl
    repeat (first
      | exact ⟨_, rfl, h⟩
      | (refine wpAny_ite_false (decide_eq_false (by rw [c0]; exact Bool.false_ne_true)) ?_; wp_walk using wpAny_loadPart' hl)
      | (refine wpAny_ite_false (decide_eq_false (by rw [c1]; exact Bool.false_ne_true)) ?_; wp_walk using wpAny_loadPart' hl)
      | (refine wpAny_ite_true (decide_eq_true c2) ?_; wp_walk using wpAny_loadPart' hl))

def rRepA (K : Frag) : R2 := fun x y H Q => ∃ l k xs, x = .ref l ∧ y = .int k ∧ SqT K H l xs ∧ -1000000 ≤ k ∧ k ≤ 1000 ∧ xs.length ≤ 1000 ∧ (xs = [] ∨ k = 1 → Q (.ref l) H) ∧ ∀ p, H p = none → Q (.ref p) (upd H p (.tup (List.replicate k.toNat xs).flatten))
section
variable {X : Cx}
theorem op_repTA : OpR X (binaryOp .Mult) (rRepA X.K) := by
  intro pins s σ H x y v u Q I rx ry h
  obtain ⟨l, k, xs, rfl, rfl, hT, hk0, hk1, hz, q1, q2⟩ := h
  by_cases hs : xs = [] ∨ k = 1
  · cases rx
    obtain ⟨t, rfl⟩ := ry
    obtain ⟨its, r, ⟨⟨cls, dd, data, sl⟩, ho, hc, n, hd⟩, hsz⟩ := I.tuple hT
    simp only at hc hd
    subst hc hd
    have hle : its.length = xs.length := r.length.symm
    have c0 : (decide (k < -(2 ^ 63)) || decide (k ≥ 2 ^ 63)) = false := by
      rw [decide_eq_false (by omega), decide_eq_false (by omega)] <;> rfl
    have c1 : (its.toArray.isEmpty || k == 1) = true := by
      rcases hs with e | e
      · subst e
        have : its = [] := List.eq_nil_of_length_eq_zero hle
        subst this
        rfl
      · rw [e]; simp
    refine wpAny_binaryOp_repeat_ref (T := "tuple") (U := "int") (by decide) ⟨_, ho, rfl⟩ (fun s' => typeIs_int s' k t) noFill_tuple_mul F.fills_int_mul F.slot_int_rmul repeat_tuple F.slot_int_index.lookup
      (call_meets F.slot_int_rmul (typeIs_int s k t) F.entry_int_rmul (F.args_int_rmul_2 _ _) (int_rmul_tuple k t l its.toArray n dd sl)
        ⟨ho, rfl, ⟨_, ho, rfl⟩, call_meets F.slot_tuple_mul ⟨_, ho, rfl⟩ F.entry_tuple_mul (F.args_tuple_mul_2 _ _) (tmulS l its.toArray n dd sl k t c0 c1) ⟨ho, ?_⟩⟩)
    exact ⟨.ref l, H, I, rfl, q1 hs⟩
  · have hne : xs ≠ [] := fun e => hs (.inl e)
    have hk : k ≠ 1 := fun e => hs (.inr e)
    by_cases h2 : 2 ≤ k
    · exact op_repT pins s σ H _ _ v u Q I rx ry ⟨l, k, xs, rfl, rfl, hT, hne, h2, hk1, hz, q2⟩
    · cases rx
      obtain ⟨t, rfl⟩ := ry
      obtain ⟨its, r, ⟨⟨cls, dd, data, sl⟩, ho, hc, n, hd⟩, hsz⟩ := I.tuple hT
      simp only at hc hd
      subst hc hd
      have hle : its.length = xs.length := r.length.symm
      have c0 : (decide (k < -(2 ^ 63)) || decide (k ≥ 2 ^ 63)) = false := by
        rw [decide_eq_false (by omega), decide_eq_false (by omega)] <;> rfl
      have hi : its.toArray.isEmpty = false := by
        cases its with
        | nil => exact absurd (List.eq_nil_of_length_eq_zero hle.symm) hne
        | cons a b => rfl
      have c1 : (its.toArray.isEmpty || k == 1) = false := by
        rw [hi, Bool.false_or]
        exact beq_eq_false_iff_ne.mpr hk
      have c2 : (decide (k ≤ 0) || its.toArray.isEmpty) = true := by
        rw [hi, Bool.or_false]
        exact decide_eq_true (by omega)
      refine wpAny_binaryOp_repeat_ref (T := "tuple") (U := "int") (by decide) ⟨_, ho, rfl⟩ (fun s' => typeIs_int s' k t) noFill_tuple_mul F.fills_int_mul F.slot_int_rmul repeat_tuple F.slot_int_index.lookup
        (call_meets F.slot_int_rmul (typeIs_int s k t) F.entry_int_rmul (F.args_int_rmul_2 _ _) (int_rmul_tuple k t l its.toArray n dd sl)
          ⟨ho, rfl, ⟨_, ho, rfl⟩, call_meets F.slot_tuple_mul ⟨_, ho, rfl⟩ F.entry_tuple_mul (F.args_tuple_mul_2 _ _) (tmulE l its.toArray n dd sl k t c0 c1 c2) ⟨ho, ?_⟩⟩)
      have e : (List.replicate k.toNat xs).flatten = [] := by
        have : k.toNat = 0 := by omega
        rw [this]; rfl
      have q3 := q2 _ (I.hok.fresh (Nat.le_refl s.heap.objs.size))
      rw [e] at q3
      exact ⟨.ref s.heap.objs.size, _, I.laid (t' := s.toks) (o := .tup []) (fun b ob q => Heap.get?_push_of_some _ q) (Nat.le_refl _) ⟨Nat.zero_le _, [], .nil, IsTup.new _ _⟩, rfl, q3⟩
end
theorem v_repT {K : Frag} {α : Type} {ce : α → D} : Op2 K (rRepA K) (cT ce) cI (cT ce) (fun xs k => -1000000 ≤ k ∧ k ≤ 1000 ∧ xs.length ≤ 1000) repI := fun A H x y v w Q t z1 z2 hc k => by
  obtain ⟨a, vs, rfl, n, l⟩ := z1.tup_inv
  cases z2.int_inv
  have e1 : vs.length = x.length := by simpa using l.length
  obtain ⟨h1, h2, h3⟩ := hc
  refine ⟨a, y, vs, rfl, rfl, n.sq, h1, h2, by omega, fun hs => k _ H (Fr.refl _ _) ?_, fun q hq => k _ _ (Fr.new hq) ?_⟩
  · have e : repI x y = x := by
      rcases hs with hs | hs
      · have : x = [] := List.eq_nil_of_length_eq_zero (by rw [← e1, hs]; rfl)
        subst this
        unfold repI
        rw [List.flatten_eq_nil_iff]
        intro l hl
        exact List.eq_of_mem_replicate hl
      · subst hs
        simp [repI]
    show Fz K A H _ (cT ce (repI x y))
    rw [e]
    exact .tup n l
  · have e : (repI x y).map ce = (List.replicate y.toNat (x.map ce)).flatten := by
      unfold repI
      rw [List.map_flatten, List.map_replicate]
    refine .tup (.inl ⟨t.new hq, upd_same, ?_⟩) ?_
    · rw [List.length_flatten, List.map_replicate, List.sum_replicate_nat, e1]
      have : y.toNat * x.length ≤ 1000 * 1000 := Nat.mul_le_mul (by omega) h3
      show _ ≤ 16777216
      omega
    · show FzL K A _ _ ((repI x y).map ce)
      rw [e]
      exact (l.rep _).fr (Fr.new hq)
/-! ### sum of a tuple -/
def rSumT (K : Frag) : List V → Hp → VK → Prop := fun vs H Q => ∃ (a : Addr) (ns : List Int), vs = [V.ref a] ∧ SqT K H a (ns.map V.int) ∧ Q (.int ns.sum) H
theorem ints_at : ∀ {its : List Value} {ns : List Int}, IntsAre its ns → ∀ (i : Nat) (v : Value), its[i]? = some v → ∃ t, v = .int (ns.getD i 0) t
  | _, _, .nil, i, v, h => by simp at h
  | _, _, .cons n t r, 0, v, h => by
    simp at h
    exact ⟨t, by simp [← h]⟩
  | _, _, .cons n t r, i + 1, v, h => by
    have := ints_at r i v (by simpa using h)
    simpa using this
theorem cr_sumT {X : Cx} (hc : X.calm = true) : CallR X (.builtin "sum") (rSumT X.K) := by
  intro pins s σ H vs us Q I r h
  obtain ⟨a, ns, rfl, hs, q⟩ := h
  obtain ⟨its, rv, p, hz⟩ := I.tuple hs
  rw [Vals.ref1 r]
  have hi := rv.ints
  have hlt : a < s.heap.objs.size := by obtain ⟨_, e, _⟩ := p; exact Heap.lt_size e
  have p' : s.heap.IsTuple a its.toArray := p
  refine call_sum_walkG (wpAny_pyIter_tuple p' ⟨_, _, _, _, _, _, fun i => ns.getD i 0, rfl, Walks.tuple (A := X.A.in1) (I.ok.hd hc) _ a (Nat.ne_of_lt hlt) its.toArray, ⟨⟨_, Heap.get?_push_size _ rfl, rfl, rfl⟩, p'.push _⟩, fun b hb => ?_, fun i v hv => ?_, fun h' tk t' hk => ?_⟩)
  · show b < (s.heap.push _).objs.size
    rw [Heap.size_push]
    rcases List.mem_cons.mp hb with rfl | hb
    · exact Nat.lt_succ_self _
    · rw [List.mem_singleton.mp hb]; exact Nat.lt_succ_of_lt hlt
  · exact ints_at hi i v (by simpa using hv)
  · have e : preSum (fun i => ns.getD i 0) its.toArray.size = ns.sum := by
      rw [preSum_getD, List.take_of_length_le]
      have := hi.length
      simp; omega
    rw [e]
    refine ⟨.int _, H, I.kept fun b o eb => hk b o (fun z => ?_) (Heap.get?_push_of_some _ eb), ⟨_, rfl⟩, q⟩
    rw [List.mem_singleton.mp z] at eb
    exact absurd (Heap.lt_size eb) (Nat.lt_irrefl _)
theorem v_sumT {K : Frag} : OpL K (rSumT K) (ac (cT cI) an) cI (fun _ => True) (fun q => q.1.sum) := fun A H q vs Q _ z hc k => by
  obtain ⟨v, rfl, z1⟩ := fzl1 (ds := []) z
  obtain ⟨a, ws, rfl, n, l⟩ := z1.tup_inv
  cases fzl_ints l
  exact ⟨a, q.1, rfl, n.sq, k _ H (Fr.refl _ _) (.int _)⟩
end Y
namespace Y
open PySem PySem.Spec PyProof.Rows PySem.W L2

/-! ### sorted -/
def rSrt (K : Frag) {α : Type} (c : α → D) : List V → Hp → VK → Prop := fun vs H Q => ∃ (A : List Addr) (a : Addr) (xs : List V) (bs : List α), vs = [V.ref a] ∧ SqL K H a xs ∧ FzL K A H xs (bs.map c) ∧ AllAlike (bs.map c) ∧ Sortable (bs.map c) ∧ (∀ b ∈ bs, (c b).depth ≤ 100) ∧
  ∀ (q : Addr) (out : List V), H q = none → out.length = xs.length → FzL K A H out ((bs.mergeSort (dataLe false c)).map c) → Q (.ref q) (upd H q (.lst out))
section
variable {X : Cx} {α : Type} {c : α → D}
theorem each_fz {K : Frag} {A : List Addr} {H : Hp} : ∀ {xs : List V} {us : List Value} {bs : List α}, Vals xs us → FzL K A H xs (bs.map c) → EachIs (fun u b => ∃ v, RelV v u ∧ Fz K A H v (c b)) us bs
  | _, _, [], .nil, .nil => .nil
  | _, _, b :: bs, .cons r t, .cons z l => .cons ⟨_, r, z⟩ (each_fz t l)
theorem fz_each {K : Frag} {A : List Addr} {H : Hp} : ∀ {us : List Value} {bs : List α}, EachIs (fun u b => ∃ v, RelV v u ∧ Fz K A H v (c b)) us bs → ∃ xs : List V, Vals xs us ∧ FzL K A H xs (bs.map c)
  | _, _, .nil => ⟨[], .nil, .nil⟩
  | _, _, .cons ⟨v, r, z⟩ t => by
    obtain ⟨xs, h1, h2⟩ := fz_each t
    exact ⟨v :: xs, .cons r h1, .cons z h2⟩
theorem cr_srt (hu : X.A.units + 200 < cLine) : CallR X (.builtin "sorted") (rSrt X.K c) := by
  intro pins s σ H vs us Q I r h
  obtain ⟨A, a, xs, bs, rfl, hs, l, ha, hk, hd, q⟩ := h
  obtain ⟨its, rv, hl, hz⟩ := I.list hs
  rw [Vals.ref1 r]
  have e := each_fz rv l
  have hb : bs.length = xs.length := by
    have := l.length
    simpa using this.symm
  have hzl : xs.length ≤ sizeLine := hz
  refine sorted_data (bs := bs) (enc := c) (R := fun u b => ∃ v, RelV v u ∧ Fz X.K A H v (c b)) hl.isList e (e.mono fun u b ⟨v, r1, z⟩ => Dp.reads I _ v u z.dp r1) ha hk (by rw [hb]; exact hzl) (fun b hb => by
    have := hd b hb
    omega) fun out h1 h2 => ?_
  obtain ⟨ys, r2, z2⟩ := fz_each h2
  obtain ⟨ep, he'⟩ := PyProof.Rows.sortedAll_at s.heap its out.toArray
  have hlen : ys.length ≤ sizeLine := by rw [r2.length, h1, hb]; exact hzl
  exact ⟨.ref _, upd H (s.heap.objs.size + 1) (.lst ys), I.laid (t' := s.toks) (fun _ _ => PyProof.Rows.sortedAll_old) (Nat.le_succ _) ⟨hlen, out, ep, r2, he'⟩, rfl, q _ ys (I.hok.fresh (Nat.le_succ _)) (by rw [r2.length, h1, hb]) z2⟩
end
/-- what may be sorted, by its form -/
structure Srt {α : Type} (c : α → D) : Prop where
  al : ∀ b b', alike (c b) (c b') = true
  dp : ∀ b, (c b).depth ≤ 100
  so : (∀ b, ∃ x r, c b = .tuple (x :: r)) ∨ ∀ b, c b ≠ .none ∧ ∀ xs, c b ≠ .tuple xs
structure Alk {α : Type} (n : Nat) (c : α → D) : Prop where
  al : ∀ b b', alike (c b) (c b') = true
  dp : ∀ b, (c b).depth ≤ n
section
variable {α β γ : Type} {n m k : Nat} {c : α → D} {c' : β → D} {c'' : γ → D}
theorem alk_I : Alk 0 cI := ⟨fun _ _ => by simp [alike], fun _ => by simp [PyData.depth]⟩
theorem alk_B : Alk 0 cB := ⟨fun _ _ => by simp [alike], fun _ => by simp [PyData.depth]⟩
theorem alk_S : Alk 0 cS := ⟨fun _ _ => by simp [alike], fun _ => by simp [PyData.depth]⟩
theorem alikeAll_mapc (h : ∀ b b', alike (c b) (c b') = true) : ∀ xs ys : List α, alikeAll (xs.map c) (ys.map c) = true
  | [], _ => by simp [alikeAll]
  | _ :: _, [] => by simp [alikeAll]
  | x :: xs, y :: ys => by simp [alikeAll, h, alikeAll_mapc h xs ys]
theorem alk_L (h : Alk n c) : Alk (n + 1) (cL c) := ⟨fun x y => by simp only [alike]; exact alikeAll_mapc h.al x y, fun x => by
  have := depthAll_mapc h.dp x
  simp only [PyData.depth]; omega⟩
theorem alk_T (h : Alk n c) : Alk (n + 1) (cT c) := ⟨fun x y => by simp only [alike]; exact alikeAll_mapc h.al x y, fun x => by
  have := depthAll_mapc h.dp x
  simp only [PyData.depth]; omega⟩
theorem alk_2 (h : Alk n c) (h' : Alk m c') : Alk (max n m + 1) (c2 c c') := ⟨fun x y => by simp [alike, alikeAll, h.al, h'.al], fun x => by
  have := h.dp x.1
  have := h'.dp x.2
  simp only [PyData.depth, PyData.depthAll]; omega⟩
theorem alk_3 (h : Alk n c) (h' : Alk m c') (h'' : Alk k c'') : Alk (max n (max m k) + 1) (c3 c c' c'') := ⟨fun x y => by simp [alike, alikeAll, h.al, h'.al, h''.al], fun x => by
  have := h.dp x.1
  have := h'.dp x.2.1
  have := h''.dp x.2.2
  simp only [PyData.depth, PyData.depthAll]; omega⟩
theorem srt_I : Srt cI := ⟨alk_I.al, fun b => Nat.le_trans (alk_I.dp b) (by decide), .inr fun _ => ⟨fun e => (nomatch e), fun _ e => (nomatch e)⟩⟩
theorem srt_S : Srt cS := ⟨alk_S.al, fun b => Nat.le_trans (alk_S.dp b) (by decide), .inr fun _ => ⟨fun e => (nomatch e), fun _ e => (nomatch e)⟩⟩
theorem srt_L (h : Alk n c) (hn : n ≤ 50 := by decide) : Srt (cL c) := ⟨(alk_L h).al, fun b => Nat.le_trans ((alk_L h).dp b) (by omega), .inr fun _ => ⟨fun e => (nomatch e), fun _ e => (nomatch e)⟩⟩
theorem srt_2 (h : Alk n c) (h' : Alk m c') (hn : max n m ≤ 50 := by decide) : Srt (c2 c c') := ⟨(alk_2 h h').al, fun b => Nat.le_trans ((alk_2 h h').dp b) (by omega), .inl fun _ => ⟨_, _, rfl⟩⟩
theorem srt_3 (h : Alk n c) (h' : Alk m c') (h'' : Alk k c'') (hn : max n (max m k) ≤ 50 := by decide) : Srt (c3 c c' c'') := ⟨(alk_3 h h' h'').al, fun b => Nat.le_trans ((alk_3 h h' h'').dp b) (by omega), .inl fun _ => ⟨_, _, rfl⟩⟩
theorem Srt.all (h : Srt c) (bs : List α) : AllAlike (bs.map c) := AllAlike.of h.al
theorem Srt.sort (h : Srt c) (bs : List α) : Sortable (bs.map c) := by
  rcases h.so with z | z
  · exact Sortable.tuples z
  · exact Sortable.others z
end
def srt {α : Type} (c : α → D) (xs : List α) : List α := xs.mergeSort (dataLe false c)
section
variable {X : Cx} {B : Bd} {ow : List Nat} {E α β : Type} {Γ : E → List (Option D)} {p s : Bool} {e : Expr} {pos px py : Pos} {c : α → D} {G : E → Prop} {d : E → List α} {u : E → E}
theorem l_srt (hu : X.A.units + 200 < cLine) (hc : Srt c) (h : DA X B ow Γ true true [e] (ac (cL c) an) G (fun ε => (d ε, ())) u) (hm : X.mg "sorted" = none) (hg : Gl X "sorted" := by rfl) (he : starEach [e] X.env = (false, eval e X.env) :: starEach [] X.env := by rfl)
    (hpl : (backTo pos (starEach [] X.env)).any (·.1) = false := by rfl) : DL X B ow Γ true (.Call (.Name "sorted" px) [e] [] pos) c G (fun ε => srt c (d ε)) u :=
  ⟨(pe_callB (cr_srt (c := c) hu) hg hm (by decide +kernel) h.pa (by decide) (by decide) he hpl).weaken fun σ H Q ⟨H0, ε, rl, gg, k⟩ => ⟨H0, ε, rl, gg, fun vs H1 f1 r1 z1 => by
    have f1' : Fr [] H H1 := f1
    obtain ⟨v, rfl, z⟩ := fzl1 (ds := []) z1
    obtain ⟨a, ws, rfl, n, l⟩ := z.lst_inv
    exact ⟨B.full σ ow, a, ws, d ε, rfl, n.sq, l, hc.all _, hc.sort _, fun b _ => hc.dp b, fun q out hq hl z2 => k q _ out (f1'.back hq) (f1'.trans (Fr.new hq)) (r1.plus hq) upd_same (by rw [hl]; exact n.2) (fzl_plus hq z2)⟩⟩⟩

/-! ### isinstance -/
variable {cc : α → D} {dv : E → α}
theorem d_isi {T C : String} {x : Str} {b : Bool} (h : De X B ow Γ p s e cc G dv u) (ht : ∀ (A : List Addr) (H : Hp) (v : V) (x : α), Fz X.K A H v (cc x) → TyX X.K H v (.type T)) (hm : X.mg "isinstance" = none) (hmC : X.mg x = none) (hbC : bootBuiltins x = some (.type C)) (hb : kitB T C = some b)
    (hg : Gl X "isinstance" := by rfl) (hgC : Gl X x := by rfl) (hnC : x ≠ "__name__" := by decide) (hdC : (x == ("__debug__" : Str)) = false := by decide)
    (he : starEach [e, .Name x py] X.env = (false, eval e X.env) :: starEach [.Name x py] X.env := by rfl) (he2 : starEach [.Name x py] X.env = (false, eval (.Name x py) X.env) :: starEach [] X.env := by rfl)
    (hpl : (backTo pos (starEach [.Name x py] X.env)).any (·.1) = false := by rfl) :
    De X B ow Γ p s (.Call (.Name "isinstance" px) [e, .Name x py] [] pos) cB G (fun _ => b) u :=
  ⟨(pe_callB call_isi hg hm (by decide +kernel) (pa_cons h.pe (pa_cons (pe_bltn (v := .ty C) hgC hmC hbC rfl hnC hdC) pa_nil he2) he) (by decide) (by decide) he hpl).weaken fun σ H Q ⟨H0, ε, rl, g, k⟩ => ⟨H0, ε, rl, g, fun v H1 f r z =>
    ⟨v, .ty C, _, _, b, rfl, .ty C, ht _ _ _ _ z, kit_ty hb, k _ H1 f r (.bl b)⟩⟩⟩
end
section
variable {K : Frag} {α : Type}
theorem ty_I (A : List Addr) (H : Hp) (v : V) (x : Int) (z : Fz K A H v (cI x)) : TyX K H v (.type "int") := by cases z.int_inv; exact .base (.int x)
theorem ty_B (A : List Addr) (H : Hp) (v : V) (x : Bool) (z : Fz K A H v (cB x)) : TyX K H v (.type "bool") := by cases z.bl_inv; exact .base (.bl x)
theorem ty_S (A : List Addr) (H : Hp) (v : V) (x : Str) (z : Fz K A H v (cS x)) : TyX K H v (.type "str") := by cases z.str_inv; exact .base (.str x)
theorem ty_N (A : List Addr) (H : Hp) (v : V) (x : Unit) (z : Fz K A H v (cN x)) : TyX K H v (.type "NoneType") := by cases z.non_inv; exact .base .non
theorem ty_L {c : α → D} {g : α → List D} (hc : ∀ x, c x = .list (g x)) (A : List Addr) (H : Hp) (v : V) (x : α) (z : Fz K A H v (c x)) : TyX K H v (.type "list") := by
  rw [hc] at z
  obtain ⟨a, vs, rfl, n, l⟩ := z.lst_inv
  exact .base (.lst n.1.2)
theorem ty_T {c : α → D} {g : α → List D} (hc : ∀ x, c x = .tuple (g x)) (A : List Addr) (H : Hp) (v : V) (x : α) (z : Fz K A H v (c x)) : TyX K H v (.type "tuple") := by
  rw [hc] at z
  obtain ⟨a, vs, rfl, n, l⟩ := z.tup_inv
  rcases n with n | ⟨o, its, m, h1, h2, _⟩
  · exact .base (.tup n.2.1)
  · exact .kTuple h1 h2
/-! ### in -/
theorem flat_ints (xs : List Int) : (xs.map V.int).all flatV = true := by simp [flatV]
theorem flat_strs (xs : List Str) : (xs.map V.str).all flatV = true := by simp [flatV]
theorem inV_ints (x : Int) (xs : List Int) : inV (.int x) (xs.map V.int) = decide (x ∈ xs) := by
  unfold inV
  rw [List.any_map]
  rw [Bool.eq_iff_iff]
  simp [eqV]
theorem inV_strs (x : Str) (xs : List Str) : inV (.str x) (xs.map V.str) = decide (x ∈ xs) := by
  unfold inV
  rw [List.any_map]
  rw [Bool.eq_iff_iff]
  simp [eqV]
theorem v_inI {c : List Int → D} (hc : IsSq c cI) : Op2 K (rIn K false) cI c cB (fun _ _ => True) (fun x xs => decide (x ∈ xs)) := fun A H x y v w Q _ z1 z2 _ k => by
  cases z1.int_inv
  obtain ⟨a, vs, rfl, hs, l, _, _⟩ := hc.inv z2
  cases fzl_ints l
  exact ⟨a, _, rfl, hs, rfl, flat_ints _, by
    rw [if_neg Bool.false_ne_true, inV_ints]
    exact k _ H (Fr.refl _ _) (.bl _)⟩
theorem v_niI {c : List Int → D} (hc : IsSq c cI) : Op2 K (rIn K true) cI c cB (fun _ _ => True) (fun x xs => !decide (x ∈ xs)) := fun A H x y v w Q _ z1 z2 _ k => by
  cases z1.int_inv
  obtain ⟨a, vs, rfl, hs, l, _, _⟩ := hc.inv z2
  cases fzl_ints l
  exact ⟨a, _, rfl, hs, rfl, flat_ints _, by
    rw [if_pos rfl, inV_ints]
    exact k _ H (Fr.refl _ _) (.bl _)⟩
theorem v_inS {c : List Str → D} (hc : IsSq c cS) : Op2 K (rIn K false) cS c cB (fun _ _ => True) (fun x xs => decide (x ∈ xs)) := fun A H x y v w Q _ z1 z2 _ k => by
  cases z1.str_inv
  obtain ⟨a, vs, rfl, hs, l, _, _⟩ := hc.inv z2
  cases fzl_strs l
  exact ⟨a, _, rfl, hs, rfl, flat_strs _, by
    rw [if_neg Bool.false_ne_true, inV_strs]
    exact k _ H (Fr.refl _ _) (.bl _)⟩
theorem v_niS {c : List Str → D} (hc : IsSq c cS) : Op2 K (rIn K true) cS c cB (fun _ _ => True) (fun x xs => !decide (x ∈ xs)) := fun A H x y v w Q _ z1 z2 _ k => by
  cases z1.str_inv
  obtain ⟨a, vs, rfl, hs, l, _, _⟩ := hc.inv z2
  cases fzl_strs l
  exact ⟨a, _, rfl, hs, rfl, flat_strs _, by
    rw [if_pos rfl, inV_strs]
    exact k _ H (Fr.refl _ _) (.bl _)⟩
end
end Y
namespace Y
open PySem PySem.Spec PyProof.Rows L2

/-! ### xs[i], by values -/
theorem get_listP {X : Cx} : PGet X (rIxL X.K) := by
  intro pins s σ H o i ov iv Q I ro ri h
  obtain ⟨p, xs, j, z, rfl, rfl, hq, he, q⟩ := h
  cases ro
  obtain ⟨t, rfl⟩ := ri
  obtain ⟨its, r, pl, hz⟩ := I.list hq
  obtain ⟨n, h1, h2, h3, h4, h5⟩ := atI_get he
  obtain ⟨w, ew, rw'⟩ := r.get h2
  have hl := r.length
  have hn := line63
  have fin : EP X pins σ Q w s := ⟨z, H, I, rw', q⟩
  by_cases h0 : 0 ≤ j
  · have hj : j.toNat = n := by
      rw [seqIndex_of h0 h5] at h1
      exact Option.some.inj h1
    exact PySem.wpAny_getItem_list pl.isList h0 (by omega) (by rw [hj]; simpa using ew) fin
  · have hj : (j + (its.toArray.size : Int)).toNat = n := by
      rw [seqIndex_neg (by omega) h4] at h1
      rw [List.size_toArray, ← hl]
      exact Option.some.inj h1
    exact wpAny_getItem_list_neg pl.isList (by omega) (by rw [List.size_toArray] <;> omega) (by omega) (by rw [hj]; simpa using ew) fin

def setI {α : Type} (xs : List α) (i : Int) (v : α) : List α := match ixN xs.length i with
  | some j => xs.set j v
  | none => xs
theorem CIx.ix {α : Type} {xs : List α} {i : Int} (h : CIx xs i) : ∃ j, ixN xs.length i = some j ∧ j < xs.length := by
  obtain ⟨h1, h2⟩ := h
  unfold ixN
  by_cases h0 : 0 ≤ i
  · exact ⟨i.toNat, by rw [if_pos h0, if_pos h2], by omega⟩
  · exact ⟨(i + xs.length).toNat, by rw [if_neg h0, if_pos h1], by omega⟩
theorem setI_nat {α : Type} {xs : List α} {i : Int} {v : α} (h0 : 0 ≤ i) (h1 : i < xs.length) : setI xs i v = xs.set i.toNat v := by
  unfold setI ixN
  rw [if_pos h0, if_pos h1]
theorem setI_length {α : Type} (xs : List α) (i : Int) (v : α) : (setI xs i v).length = xs.length := by
  unfold setI
  split
  · simp
  · rfl
theorem setI_mem {α : Type} {xs : List α} {i : Int} {v x : α} (h : x ∈ setI xs i v) : x = v ∨ x ∈ xs := by
  unfold setI at h
  split at h
  · rcases List.mem_or_eq_of_mem_set h with h | h
    · exact .inr h
    · exact .inl h
  · exact .inr h
section
variable {K : Frag} {A : List Addr} {H : Hp} {α : Type} {c : α → D}
theorem FzL.setI {vs : List V} {xs : List α} {j : Nat} {v : V} {x : α} (h : FzL K A H vs (xs.map c)) (z : Fz K A H v (c x)) : FzL K A H (vs.set j v) ((xs.set j x).map c) := by
  rw [List.map_set]
  exact h.set _ z
end
section
variable {X : Cx} {B : Bd} {ow owS : List Nat} {E R S α : Type} {Γ : E → List (Option D)} {ΓS : S → List (Option D)} {cr : R → D} {ci : R → List D} {pos px py ps' : Pos} {e ei : Expr} {p : Bool} {c : α → D} {G Gi : E → Prop} {d : E → α} {di : E → Int} {u : E → E} {y : Str}
/-- target = e -/
theorem s_asgT {tg : Expr} {js : List Nat} {g : TG} {ft : α → List (Option D) → List (Option D)} (he : De X B ow Γ p true e c G d u) (hg : PG X tg g) (ht : TgR X.K c js g ft) (hjs : ∀ j ∈ js, j ∉ ow := by decide)
    (hs : swapsWithSole [tg] e pos.line X.env = pure false := by rfl) (hw : swappedStores [tg] e X.env = pure none := by rfl) (h1 : (assignEach [tg] X.env).map (·.2) = [assign tg X.env] := by rfl) :
    Ds X B ow Γ cr ci owS ΓS (.Assign [tg] e pos) G (fun ε => .nx (u ε, d ε)) ow (fun q : E × α => ft q.2 (Γ q.1)) :=
  ⟨(ps_asg he.pe hg hs hw h1).weaken fun Dn σ H ⟨H0, ε, rl, g, k⟩ => ⟨H0, ε, rl, g, fun v H' f r z => ht B H0 ow σ H' _ v _ _ hjs r z fun σ' r' _ _ => k σ' H' r'⟩⟩
/-- a list of one's own is at hand -/
theorem Rel.ownAt {K : Frag} {B : Bd} {H0 H : Hp} {σ : L2.St} {γ : List (Option D)} {j : Nat} {xs : List α} (r : Rel K B H0 ow σ H γ) (hj : j ∈ ow) (h : γ[j]? = some (some (.list (xs.map c)))) :
    ∃ a vs, σ[j]? = some (some (.ref a)) ∧ a ∉ B.base ∧ (H a = some (.lst vs) ∧ vs.length ≤ szN) ∧ FzL K (B.full σ ow) H vs (xs.map c) ∧ vs.length = xs.length := by
  obtain ⟨a, vs, ds, e1, e2, e3, e4⟩ := r.own j _ hj h
  injection e2 with e2
  subst e2
  exact ⟨a, vs, e1, r.apart a (mem_oa.mpr ⟨j, hj, e1⟩), e3, e4, by simpa using e4.length⟩
theorem s_app (j : Nat) (gt : E → List α) (hget : ∀ ε, (Γ ε)[j]? = some (some (.list ((gt ε).map c)))) (he : De X B ow Γ p true e c G d u) (hj : j ∈ ow := by decide) (hN : X.N[j]? = some y := by rfl)
    (hv : Vis X.env.scope y := by first | exact Or.inl rfl | exact Or.inr (Or.inl rfl) | exact Or.inr (Or.inr rfl)) (hd : (y == ("__debug__" : Str)) = false := by decide) (hcd : (y == ("__classdict__" : Str)) = false := by decide)
    {apos cpos : Pos} (hbase : attributeBase (.Name y py) "append" X.env (eval (.Name y py) X.env) = eval (.Name y py) X.env := by rfl)
    (hfew : ((backTo cpos (starEach [e] X.env)).all (fun x => !x.1) && (backToKw cpos (keywordEach [] X.env)).all (fun x => x.1.isSome) && decide ([e].length + ([] : List Keyword).length + (if ([] : List Keyword).isEmpty then 0 else 1) < 30)) = true := by rfl)
    (hline : (apos.endLine == cpos.line) = true := by rfl) (hst : starEach [e] X.env = (false, eval e X.env) :: starEach [] X.env := by rfl) (hpl : (backTo cpos (starEach [] X.env)).any (·.1) = false := by rfl)
    (hs : swapsWith (.Call (.Attribute (.Name y py) "append" apos) [e] [] cpos) none pos.line X.env = pure false := by rfl) :
    Ds X B ow Γ cr ci owS ΓS (.Expr (.Call (.Attribute (.Name y py) "append" apos) [e] [] cpos) pos) (fun ε => G ε ∧ (gt (u ε)).length < 16777216) (fun ε => .nx (u ε, gt (u ε) ++ [d ε])) ow (fun q : E × List α => (Γ q.1).set j (some (.list (q.2.map c)))) :=
  ⟨(ps_expr (pe_bm PySem.F.plainAttrs_list PySem.F.slot_list_append PySem.F.type_list_append mt_append (pe_var hN hv hd hcd) (pa_cons he.pe pa_nil hst) hbase hfew hline hst hpl) hs).weaken fun Dn σ H ⟨H0, ε, rl, ⟨g, gl⟩, k⟩ => by
    obtain ⟨a, vs, e1, _, e3, e4, _⟩ := rl.ownAt hj (hget ε)
    refine ⟨_, e1, .inl ⟨rfl, _, .inl (.inl e3.1)⟩, H0, ε, rl, g, fun v H1 f1 r1 z1 => ?_⟩
    obtain ⟨a', vs', e1', nb, e3', e4', hl⟩ := r1.ownAt hj (hget (u ε))
    have ea : a' = a := by rw [e1] at e1'; injection e1' with q; injection q with q; injection q with q; exact q.symm
    subst ea
    have hlt : vs'.length < 16777216 := by rw [hl]; exact gl
    refine ⟨a', vs', v, rfl, rfl, e3'.1, by rw [sizeLine_eq]; exact hlt, ?_⟩
    have ha : a' ∈ B.full σ ow := mem_full.mpr (.inr (mem_oa.mpr ⟨j, hj, e1⟩))
    refine k _ _ (r1.write hj e1 (Fr.at (by simp)) upd_same (by rw [List.length_append]; exact hlt) ?_)
    rw [List.map_append]
    exact (e4'.fr (Fr.at ha)).append (.cons (z1.fr (Fr.at ha)) .nil)⟩
/-- xs[i] = e -/
theorem s_setL {p2 : Bool} {u2 : E → E} (j : Nat) (gt : E → List α) (hget : ∀ ε, (Γ ε)[j]? = some (some (.list ((gt ε).map c)))) (he : De X B ow Γ p true e c G d u) (hi : De X B ow Γ p2 true ei cI Gi di u2) (hj : j ∈ ow := by decide) (hN : X.N[j]? = some y := by rfl)
    (hv : Vis X.env.scope y := by first | exact Or.inl rfl | exact Or.inr (Or.inl rfl) | exact Or.inr (Or.inr rfl)) (hd : (y == ("__debug__" : Str)) = false := by decide) (hcd : (y == ("__classdict__" : Str)) = false := by decide)
    (ha : ∀ v, assign (.Subscript (.Name y py) ei px) X.env v = (do
      let ov ← holding [v] (eval (.Name y py) X.env)
      let iv ← holding [v, ov] (eval ei X.env)
      standAt px
      holding [v, ov, iv] (setItem ov iv v)
      release [v, ov, iv] []) := by intro _; rfl)
    (hs : swapsWithSole [.Subscript (.Name y py) ei px] e pos.line X.env = pure false := by rfl) (hw : swappedStores [.Subscript (.Name y py) ei px] e X.env = pure none := by rfl) (h1 : (assignEach [.Subscript (.Name y py) ei px] X.env).map (·.2) = [assign (.Subscript (.Name y py) ei px) X.env] := by rfl) :
    Ds X B ow Γ cr ci owS ΓS (.Assign [.Subscript (.Name y py) ei px] e pos) (fun ε => G ε ∧ Gi (u ε) ∧ CIx (gt (u2 (u ε))) (di (u ε))) (fun ε => .nx (u2 (u ε), setI (gt (u2 (u ε))) (di (u ε)) (d ε))) ow (fun q : E × List α => (Γ q.1).set j (some (.list (q.2.map c)))) :=
  ⟨(ps_asg he.pe (pg_sub (pe_var hN hv hd hcd) hi.pe set_list ha) hs hw h1).weaken fun Dn σ H ⟨H0, ε, rl, ⟨g, g2, g3⟩, k⟩ => ⟨H0, ε, rl, g, fun v H1 f1 r1 z1 => by
    obtain ⟨a, vs, e1, _, e3, e4, hl⟩ := r1.ownAt hj (hget (u ε))
    refine ⟨_, e1, H0, u ε, r1, g2, fun w H2 f2 r2 z2 => ?_⟩
    obtain ⟨a', vs', e1', nb, e3', e4', hl'⟩ := r2.ownAt hj (hget (u2 (u ε)))
    have ea : a' = a := by rw [e1] at e1'; injection e1' with q; injection q with q; injection q with q; exact q.symm
    subst ea
    cases z2.int_inv
    obtain ⟨n, hn, _⟩ := g3.ix
    refine ⟨a', vs', _, n, rfl, rfl, e3'.1, by rw [hl']; exact hn, ?_⟩
    have ha : a' ∈ B.full σ ow := mem_full.mpr (.inr (mem_oa.mpr ⟨j, hj, e1⟩))
    refine k _ _ (r2.write hj e1 (Fr.at (by simp)) upd_same (by rw [List.length_set]; exact e3'.2) ?_)
    have es : setI (gt (u2 (u ε))) (di (u ε)) (d ε) = (gt (u2 (u ε))).set n (d ε) := by
      unfold setI
      rw [hn]
    show FzL _ _ _ _ ((setI (gt (u2 (u ε))) (di (u ε)) (d ε)).map c)
    rw [es]
    have z1' : Fz X.K (B.full σ ow) H2 v (c (d ε)) := cond_fz (s := true) (A0 := B.base) (fun a h => mem_full.mpr (.inr h)) rfl f2 z1
    exact (e4'.fr (Fr.at ha)).setI (z1'.fr (Fr.at ha))⟩⟩
/-- xs[i] op= e of ints -/
theorem s_augL {op : Operator} {f : Int → Int → Int} {dv : E → Int} (j : Nat) (gt : E → List Int) (ho : PIp X op (ipI f)) (hget : ∀ ε, (Γ ε)[j]? = some (some (.list ((gt ε).map cI)))) (hi : De X B ow Γ true true ei cI Gi di (fun ε => ε)) (he : De X B ow Γ true true e cI G dv (fun ε => ε))
    (hj : j ∈ ow := by decide) (hN : X.N[j]? = some y := by rfl) (hv : Vis X.env.scope y := by first | exact Or.inl rfl | exact Or.inr (Or.inl rfl) | exact Or.inr (Or.inr rfl)) (hd : (y == ("__debug__" : Str)) = false := by decide) (hcd : (y == ("__classdict__" : Str)) = false := by decide)
    (ha : ∀ ov iv new, augStore ei ov iv new = (do holding [new, ov, iv] (setItem ov iv new); release [new, ov, iv] []; pure .next) := by intros; rfl) :
    Ds X B ow Γ cr ci owS ΓS (.AugAssign (.Subscript (.Name y py) ei px) op e pos) (fun ε => Gi ε ∧ G ε ∧ CIx (gt ε) (di ε)) (fun ε => .nx (ε, setI (gt ε) (di ε) (f (ixD (gt ε) (di ε)) (dv ε)))) ow (fun q : E × List Int => (Γ q.1).set j (some (.list (q.2.map cI)))) :=
  ⟨(ps_augS (pe_var hN hv hd hcd) hi.pe get_listP he.pe ho set_list ha).weaken fun Dn σ H ⟨H0, ε, rl, ⟨g, g2, g3⟩, k⟩ => by
    obtain ⟨a, vs, e1, _, e3, e4, hl⟩ := rl.ownAt hj (hget ε)
    refine ⟨_, e1, H0, ε, rl, g, fun w H1 f1 r1 z1 => ?_⟩
    have f1' : Fr [] H H1 := f1
    have q1 := f1' _ _ e3.1 (by simp)
    cases z1.int_inv
    cases fzl_ints e4
    refine ⟨a, _, _, .int (ixD (gt ε) (di ε)), rfl, rfl, .inl (.inl q1), by rw [atI_map, g3.at]; rfl, H0, ε, r1, g2, fun w2 H2 f2 r2 z2 => ?_⟩
    have f2' : Fr [] H1 H2 := f2
    cases z2.int_inv
    obtain ⟨a', vs', e1', nb, e3', e4', hl'⟩ := r2.ownAt hj (hget ε)
    have ea : a' = a := by rw [e1] at e1'; injection e1' with q; injection q with q; injection q with q; exact q.symm
    subst ea
    obtain ⟨n, hn, _⟩ := g3.ix
    refine ⟨_, _, rfl, rfl, a', vs', _, n, rfl, rfl, e3'.1, by rw [hl']; exact hn, ?_⟩
    have ha : a' ∈ B.full σ ow := mem_full.mpr (.inr (mem_oa.mpr ⟨j, hj, e1⟩))
    refine k _ _ (r2.write hj e1 (Fr.at (by simp)) upd_same (by rw [List.length_set]; exact e3'.2) ?_)
    have es : setI (gt ε) (di ε) (f (ixD (gt ε) (di ε)) (dv ε)) = (gt ε).set n (f (ixD (gt ε) (di ε)) (dv ε)) := by
      unfold setI
      rw [hn]
    show FzL _ _ _ _ ((setI (gt ε) (di ε) (f (ixD (gt ε) (di ε)) (dv ε))).map cI)
    rw [es]
    exact (e4'.fr (Fr.at ha)).setI (.int _)⟩
end

/-! ### zip -/
section
variable {X : Cx} {B : Bd} {ow : List Nat} {E α β : Type} {Γ : E → List (Option D)} {p p1 p2 : Bool} {e1 e2 : Expr} {pos px : Pos} {c : α → D} {cb : β → D} {G G1 G2 : E → Prop} {d1 : E → List α} {d2 : E → List β} {u u1 u2 : E → E}
theorem walk_zipT {K : Frag} {a b : Addr} {xs ys : List V} {n : Nat} (hn : n = min xs.length ys.length) : Walk (RZ.ItzT K a b) n (fun H => SqT K H a xs ∧ SqT K H b ys) (YPair (fun i => xs[i]?) (fun i => ys[i]?)) := by
  subst hn
  refine ⟨fun i _ hi q => ?_, fun _ q => ⟨xs, ys, q.1, q.2, by omega⟩, fun i H v H' _ q y => ?_⟩
  · have h1 : i < xs.length := by omega
    have h2 : i < ys.length := by omega
    exact ⟨xs, ys, xs[i], ys[i], q.1, q.2, by simp [h1], by simp [h2]⟩
  · obtain ⟨T, x, y, h1, h2, h3, h4, h5⟩ := y
    exact ⟨T, x, y, h1, h2, h3, h4 _ q.1, h5 _ q.2⟩
theorem zip_get {xs : List α} {ys : List β} {i : Nat} {a : α} {b : β} (h1 : xs[i]? = some a) (h2 : ys[i]? = some b) : (xs.zip ys)[i]? = some (a, b) := by
  rw [List.getElem?_zip_eq_some]
  exact ⟨h1, h2⟩
theorem fzl_at {K : Frag} {A : List Addr} {H : Hp} {vs : List V} {xs : List α} {i : Nat} {v : V} (l : FzL K A H vs (xs.map c)) (h : vs[i]? = some v) : ∃ a, xs[i]? = some a ∧ Fz K A H v (c a) := by
  obtain ⟨d', h1, z1⟩ := l.get h
  rw [List.getElem?_map] at h1
  cases h2 : xs[i]? with
  | none => rw [h2] at h1; cases h1
  | some a =>
    rw [h2] at h1
    injection h1 with h1
    exact ⟨a, rfl, by rw [h1]; exact z1⟩
theorem i_zipL {elts : List Expr} {kk : Nat} {tpos : Pos} (h : DA X B ow Γ p true [e1, e2] (ac (cL c) (ac (cL cb) an)) G (fun ε => (d1 ε, d2 ε, ())) u) (hm : X.mg "zip" = none) (hg : Gl X "zip" := by rfl) (hs : starEach [e1, e2] X.env = (false, eval e1 X.env) :: starEach [e2] X.env := by rfl)
    (hpl : (backTo pos (starEach [e2] X.env)).any (·.1) = false := by rfl) : DI X B ow Γ p (.Tuple elts kk tpos) (.Call (.Name "zip" px) [e1, e2] [] pos) (c2 c cb) G (fun ε => (d1 ε).zip (d2 ε)) u :=
  ⟨(RZ.pi_zipA hg hm h.pa hs hpl).weaken fun σ H R ⟨H0, ε, rl, g, k⟩ => ⟨H0, ε, rl, g, fun v H1 f r z => by
    obtain ⟨x, y, rfl, z1, z2⟩ := fzl2 (ds := []) z
    obtain ⟨a, vs, rfl, n, l⟩ := z1.lst_inv
    obtain ⟨b, ws, rfl, n2, l2⟩ := z2.lst_inv
    have h1 : vs.length = (d1 ε).length := by simpa using l.length
    have h2 : ws.length = (d2 ε).length := by simpa using l2.length
    refine ⟨a, b, vs, ws, rfl, .inl ⟨n.sq, n2.sq, ?_⟩⟩
    have hz : ((d1 ε).zip (d2 ε)).length = min vs.length ws.length := by rw [List.length_zip, h1, h2]
    refine k _ H1 f r ((walk_zip hz).mono (fun H' f' => ⟨(n.fr f').sq, (n2.fr f').sq⟩) fun i H x H' _ f' y => yd_pair f' y fun va vb q1 q2 => ?_) (by rw [hz]; exact Nat.le_trans (Nat.min_le_left _ _) n.2)
    obtain ⟨a', i1, w1⟩ := fzl_at l q1
    obtain ⟨b', i2, w2⟩ := fzl_at l2 q2
    exact ⟨a', b', zip_get i1 i2, w1, w2⟩⟩⟩
theorem i_zipT {elts : List Expr} {kk : Nat} {tpos : Pos} (h : DA X B ow Γ p true [e1, e2] (ac (cT c) (ac (cT cb) an)) G (fun ε => (d1 ε, d2 ε, ())) u) (hm : X.mg "zip" = none) (hg : Gl X "zip" := by rfl) (hs : starEach [e1, e2] X.env = (false, eval e1 X.env) :: starEach [e2] X.env := by rfl)
    (hpl : (backTo pos (starEach [e2] X.env)).any (·.1) = false := by rfl) : DI X B ow Γ p (.Tuple elts kk tpos) (.Call (.Name "zip" px) [e1, e2] [] pos) (c2 c cb) G (fun ε => (d1 ε).zip (d2 ε)) u :=
  ⟨(RZ.pi_zipA hg hm h.pa hs hpl).weaken fun σ H R ⟨H0, ε, rl, g, k⟩ => ⟨H0, ε, rl, g, fun v H1 f r z => by
    obtain ⟨x, y, rfl, z1, z2⟩ := fzl2 (ds := []) z
    obtain ⟨a, vs, rfl, n, l⟩ := z1.tup_inv
    obtain ⟨b, ws, rfl, n2, l2⟩ := z2.tup_inv
    have h1 : vs.length = (d1 ε).length := by simpa using l.length
    have h2 : ws.length = (d2 ε).length := by simpa using l2.length
    refine ⟨a, b, vs, ws, rfl, .inr ⟨n.sq, n2.sq, ?_⟩⟩
    have hz : ((d1 ε).zip (d2 ε)).length = min vs.length ws.length := by rw [List.length_zip, h1, h2]
    refine k _ H1 f r ((walk_zipT hz).mono (fun H' f' => ⟨(n.fr f').sq, (n2.fr f').sq⟩) fun i H x H' _ f' y => yd_pair f' y fun va vb q1 q2 => ?_) (by rw [hz]; exact Nat.le_trans (Nat.min_le_left _ _) n.sz)
    obtain ⟨a', i1, w1⟩ := fzl_at l q1
    obtain ⟨b', i2, w2⟩ := fzl_at l2 q2
    exact ⟨a', b', zip_get i1 i2, w1, w2⟩⟩⟩
end
end Y
namespace Y
open PySem PySem.Spec PyProof.Rows L2

/-! ### defs by their typed bodies -/
abbrev XF (P : Program) (w : World) (K : Frag) (mg : Str → Option Value) (base : Heap) (N : List Str) (qual : Str) (st : Stmt) (f : Addr) (cdv : Value) (A : Around) (outer : List Env) (s : Shared) (H : Hp) (E : XK) : Cx :=
  (cxOf CX0 P w K mg base N qual (defScope st) f cdv A outer s H E).nox
section
variable {K : Frag} {H : Hp} {A : List Addr}
theorem fz_slots : ∀ {vs : List V} {ds : List D} {i : Nat} {d : D} {m n : Nat}, FzL K A H vs ds → (ds.map some ++ List.replicate m none)[i]? = some (some d) → ∃ v, (vs.map some ++ List.replicate n none)[i]? = some (some v) ∧ Fz K A H v d
  | [], [], i, d, m, n, .nil, h => by
    have h' : (List.replicate m (none : Option D))[i]? = some (some d) := by simpa using h
    have := List.eq_of_mem_replicate (List.mem_of_getElem? h')
    cases this
  | v :: vs, d' :: ds, 0, d, m, n, .cons z l, h => by
    have e : d' = d := by simpa using h
    exact ⟨v, rfl, e ▸ z⟩
  | v :: vs, d' :: ds, i + 1, d, m, n, .cons z l, h => by
    have h' : (ds.map some ++ List.replicate m none)[i]? = some (some d) := by simpa using h
    obtain ⟨w, e, q⟩ := fz_slots (n := n) l h'
    exact ⟨w, by simpa using e, q⟩
theorem rel_start {N : List Str} {vs : List V} {ds : List D} {m : Nat} (t : Tr A H) (z : FzL K A H vs ds) (hN : N.length = ds.length + m) : Rel K ⟨A, [], none⟩ H [] (L2.start N vs) H (ds.map some ++ List.replicate m none) := by
  have hl := z.length
  have ef : (⟨A, [], none⟩ : Bd).full (L2.start N vs) [] = A := by simp [Bd.full, Bd.base, oa]
  refine ⟨by unfold L2.start; simp; omega, fun i j a h => absurd h (by simp), fun i d _ h => ?_, fun i d h => absurd h (by simp), fun a h => absurd h (by simp [oa]), Fr.refl _ _, fun a h => absurd h (by simp [oa]), fun a h => ⟨t a h, by simp⟩, fun a h => absurd h (by simp), fun p h => absurd h (by simp)⟩
  rw [ef]
  exact fz_slots z h
theorem rel_startS {N : List Str} {p : Addr} {us ws : List V} {ds di : List D} {m : Nat} (t : Tr A H) (hp : p ∉ A) (hq : H p = some (.lst us) ∧ us.length ≤ szN) (zi : FzL K (A ++ [p]) H us di) (z : FzL K (A ++ [p]) H ws ds) (hN : N.length = ds.length + 1 + m) :
    Rel K ⟨A, [], some p⟩ H [0] (L2.start N (.ref p :: ws)) H (some (.list di) :: (ds.map some ++ List.replicate m none)) := by
  have hl := z.length
  have es : L2.start N (.ref p :: ws) = some (.ref p) :: (ws.map some ++ List.replicate (N.length - (ws.length + 1)) none) := rfl
  have ea : oa (L2.start N (.ref p :: ws)) [0] = [p] := by
    rw [es]
    simp [oa]
  have ef : (⟨A, [], some p⟩ : Bd).full (L2.start N (.ref p :: ws)) [0] = A ++ [p] := by simp [Bd.full, Bd.base, ea]
  refine ⟨by rw [es]; simp; omega, fun i j a h h' _ _ => ?_, fun i d hi h => ?_, fun i d hi h => ?_, fun a h => ?_, Fr.refl _ _, fun a h => ?_, fun a h => ⟨t a h, fun z => hp ?_⟩, fun a h => absurd h (by simp), fun q h => ⟨by simp, ?_⟩⟩
  · rw [List.mem_singleton.mp h, List.mem_singleton.mp h']
  · rw [ef]
    cases i with
    | zero => exact absurd (List.mem_singleton.mpr rfl) hi
    | succ i =>
      have h' : (ds.map some ++ List.replicate m none)[i]? = some (some d) := by simpa using h
      obtain ⟨v, e, q⟩ := fz_slots (n := N.length - (ws.length + 1)) z h'
      exact ⟨v, by rw [es]; simpa using e, q⟩
  · rw [List.mem_singleton.mp hi] at h ⊢
    have e : PyData.list di = d := by simpa using h
    rw [ef]
    exact ⟨p, us, di, by rw [es]; rfl, e.symm, hq, zi⟩
  · rw [ea] at h
    rw [List.mem_singleton.mp h]
    exact ⟨us, hq.1⟩
  · rw [ea] at h
    right
    rw [List.mem_singleton.mp h]; simp
  · have e : a = p := by simpa using z
    rw [← e]; exact h
  · injection h with h
    rw [es, h]; rfl
end
section
variable {P : Program} {w : World} {K : Frag} {mg : Str → Option Value} {base : Heap} {k : Nat} {f : Addr} {fd : FuncData} {x qual : Str} {st : Stmt} {N ps : List Str} {α β τ R N' S' : Type} {cs : α → List D} {c : β → D} {Gf : α → Prop} {fm : α → β} {cr : R → D} {ci : R → List D}
/-- how a body ends, for a def that promises fm -/
def Ends (cr : R → D) (c : β → D) (o : Out N' R S') (b : β) : Prop := match o with
  | .nx _ => c b = .none
  | .rt r => cr r = c b
  | _ => False
theorem fn_pure {owS ow' : List Nat} {ΓS : S' → List (Option D)} {Γ' : N' → List (Option D)} {G : α → Prop} {d : α → Out N' R S'} (F : Fun K x qual st f fd) (S : FnScope N ps (defScope st)) (m : Nat) (hcs : ∀ a, (cs a).length = ps.length) (hN : N.length = ps.length + m)
    (body : ∀ (A0 : List Addr) (cdv : Value) (A : Around) (outer : List Env) (s : Shared) (H : Hp) (E : XK), Room k (A.deeper (envOfC qual (defScope st) s.heap.objs.size f cdv)) → A.guards = some [] →
      Dss (XF P w K mg base N qual st f cdv A outer s H E) ⟨A0, [], none⟩ [] (fun a : α => (cs a).map some ++ List.replicate m none) cr ci owS ΓS (defBody st) G d ow' Γ')
    (hG : ∀ a, Gf a → G a) (hd : ∀ a, Gf a → Ends cr c (d a) (fm a)) : FnG P w K mg base (k + 1) f fd ps (spP K cs c Gf fm) := by
  refine fnG F S (fun vs H Q E ⟨A, a, _, z, _⟩ => by rw [z.length, hcs]) fun cdv A outer s H vs Q E hr hg ⟨A0, a, t, z, g, q⟩ => ⟨_, (body A0 cdv A outer s H E hr hg).pss, H, a, rel_start t z (by rw [hN, hcs]), hG a g, ?_⟩
  have e := hd a g
  revert e
  cases d a with
  | nx n => exact fun e σ' H' r => q _ H' r.fr (by rw [e]; exact .non)
  | rt r => exact fun e v H' ex => q v H' ex.1 (by
    have z1 : Fz K ((⟨A0, [], none⟩ : Bd).base ++ (none : Option Addr).toList) H' v (cr r) := ex.2.1
    rw [← e]; simpa [Bd.base] using z1)
  | bk _ => exact fun e => e.elim
  | ct _ => exact fun e => e.elim
/-- a def that may change its first argument, a list -/
theorem fn_state {cb : τ → List D} {GS : α × τ → Prop} {fS : α × τ → β × τ} {owS ow' : List Nat} {ΓS : S' → List (Option D)} {Γ' : N' → List (Option D)} {G : α × τ → Prop} {d : α × τ → Out N' R S'} (F : Fun K x qual st f fd) (S : FnScope N ps (defScope st)) (m : Nat)
    (hcs : ∀ a, (cs a).length + 1 = ps.length) (hN : N.length = ps.length + m)
    (body : ∀ (A0 : List Addr) (p : Addr) (cdv : Value) (A : Around) (outer : List Env) (s : Shared) (H : Hp) (E : XK), Room k (A.deeper (envOfC qual (defScope st) s.heap.objs.size f cdv)) → A.guards = some [] →
      Dss (XF P w K mg base N qual st f cdv A outer s H E) ⟨A0, [], some p⟩ [0] (fun a : α × τ => some (.list (cb a.2)) :: ((cs a.1).map some ++ List.replicate m none)) cr ci owS ΓS (defBody st) G d ow' Γ')
    (hG : ∀ a, GS a → G a) (hd : ∀ a, GS a → ∃ r, d a = .rt r ∧ cr r = c (fS a).1 ∧ ci r = cb (fS a).2) : FnG P w K mg base (k + 1) f fd ps (spS K cs cb c GS fS) := by
  refine fnG F S (fun vs H Q E ⟨A, p, us, ws, a, t, _, _, e, _, _, z, _⟩ => by rw [e, List.length_cons, z.length, hcs]) fun cdv A outer s H vs Q E hr hg ⟨A0, p, us, ws, a, t, tr, hp, e, hq, zi, z, g, q⟩ => ?_
  subst e
  refine ⟨_, (body A0 p cdv A outer s H E hr hg).pss, H, (a, t), rel_startS tr hp hq zi z (by rw [hN, ← hcs a]), hG _ g, ?_⟩
  obtain ⟨r, e1, e2, e3⟩ := hd _ g
  rw [e1]
  intro v H' ex
  obtain ⟨us', h1, h2⟩ := ex.2.2 p rfl
  have eb : (⟨A0, [], some p⟩ : Bd).base ++ (some p).toList = A0 ++ [p] := by simp [Bd.base]
  have z1 := ex.2.1
  rw [eb, e2] at z1
  have h2' : FzL K ((⟨A0, [], some p⟩ : Bd).base ++ (some p).toList) H' us' (ci r) := h2
  rw [eb, e3] at h2'
  exact q v H' us' ex.1 h1.1 h1.2 h2' z1
end
end Y
namespace Y
open PySem PySem.Spec PyProof.Rows L2

/-! ### comprehensions whose items change the state -/
section
variable {τ α β : Type}
def lcS (f : τ → α → β × τ) : τ → List α → List β × τ
  | s, [] => ([], s)
  | s, x :: xs => ((f s x).1 :: (lcS f (f s x).2 xs).1, (lcS f (f s x).2 xs).2)
def lcG (g : τ → α → Prop) (f : τ → α → β × τ) : τ → List α → Prop
  | _, [] => True
  | s, x :: xs => g s x ∧ lcG g f (f s x).2 xs
theorem lcS_app (f : τ → α → β × τ) : ∀ (xs ys : List α) (s : τ), lcS f s (xs ++ ys) = ((lcS f s xs).1 ++ (lcS f (lcS f s xs).2 ys).1, (lcS f (lcS f s xs).2 ys).2)
  | [], ys, s => rfl
  | x :: xs, ys, s => by
    show lcS f s (x :: (xs ++ ys)) = _
    simp only [lcS]
    rw [lcS_app f xs ys]
    rfl
theorem lcS_length (f : τ → α → β × τ) : ∀ (xs : List α) (s : τ), (lcS f s xs).1.length = xs.length
  | [], s => rfl
  | x :: xs, s => by simp only [lcS, List.length_cons, lcS_length f xs]
theorem lcG_app (g : τ → α → Prop) (f : τ → α → β × τ) : ∀ (xs ys : List α) (s : τ), lcG g f s (xs ++ ys) → lcG g f (lcS f s xs).2 ys
  | [], ys, s, h => h
  | x :: xs, ys, s, h => lcG_app g f xs ys _ h.2
end
section
variable {X : Cx} {B : Bd} {ow : List Nat} {E α β τ : Type} {Γ : E → List (Option D)} {pos : Pos} {tg e elt : Expr} {c : α → D} {ce : β → D} {G : E → Prop} {xs : E → List α} {ui : E → E} {js : List Nat} {g : TG} {ft : α → List (Option D) → List (Option D)} {Ge : E × α → Prop} {de : E × α → β} {us : E × α → τ} {own : List (Str × Nat)} {scope : Scope} {p pe : Bool}
def tTBs {E : Type} (K : Frag) (ow : List Nat) (Γ : E → List (Option D)) : TT := fun σ H Q => ∃ B', tTs K B' ow Γ true (fun _ => True) (fun _ => true) (fun q => q) σ H Q
def tSBs {E β : Type} (K : Frag) (ow : List Nat) (Γ : E → List (Option D)) (ce : β → D) (G : E → Prop) (d : E → β) (u : E → E) : TE := fun σ H Q => ∃ B', tS K B' ow Γ false true ce G d u σ H Q
/-- what a target leaves as it was -/
def TgF {α : Type} (js : List Nat) (f : α → List (Option D) → List (Option D)) : Prop := ∀ a γ i, i ∉ js → (f a γ)[i]? = γ[i]?
theorem tgf_name {α : Type} {c : α → D} (j : Nat) : TgF [j] fun a γ => γ.set j (some (c a)) := fun a γ i hi => List.getElem?_set_ne fun e => hi (by simp [e])
theorem tgf_pair {α β : Type} {ca : α → D} {cb : β → D} (j k : Nat) : TgF (α := α × β) [j, k] fun q γ => (γ.set j (some (ca q.1))).set k (some (cb q.2)) := fun a γ i hi => by
  rw [List.getElem?_set_ne fun e => hi (by simp [e]), List.getElem?_set_ne fun e => hi (by simp [e])]
theorem wipeG_out {γ : List (Option D)} {i : Nat} : ∀ {vs : List Nat}, i ∉ vs → (wipeG γ vs)[i]? = γ[i]?
  | [], _ => rfl
  | v :: vs, h => by
    unfold wipeG
    rw [List.getElem?_set_ne fun e => h (by simp [e])]
    exact wipeG_out fun z => h (List.mem_cons_of_mem _ z)
theorem lc_state (st : E → τ) (put : E → τ → E) (hpp : ∀ ε t t', put (put ε t) t' = put ε t') (hps : ∀ ε, put ε (st ε) = ε) (hsp : ∀ ε t, st (put ε t) = t) (ht : TgR X.K c js g ft) (hft : TgF js ft) (hlenE : ∀ ε t t', (Γ (put ε t)).length = (Γ (put ε t')).length) (hfz : ∀ ε t t' i d, i ∉ ow → (Γ (put ε t))[i]? = some (some d) → (Γ (put ε t'))[i]? = some (some d)) (hjv : ∀ j ∈ js, j ∈ own.map (·.2)) (hvo : ∀ j ∈ own.map (·.2), j ∉ ow) {σ : L2.St} {H : Hp} {Q : VK}
    (h : tFs X.K B ow Γ false ce (fun ε => G ε ∧ lcG (fun s x => Ge (put (ui ε) s, x)) (fun s x => (de (put (ui ε) s, x), us (put (ui ε) s, x))) (st (ui ε)) (xs ε)) (fun ε => (lcS (fun s x => (de (put (ui ε) s, x), us (put (ui ε) s, x))) (st (ui ε)) (xs ε)).1) (fun ε => put (ui ε) (lcS (fun s x => (de (put (ui ε) s, x), us (put (ui ε) s, x))) (st (ui ε)) (xs ε)).2) σ H Q) :
    tLc (tIs X.K B ow Γ p c G xs ui) g (tTBs X.K ow (fun q : E × α => ft q.2 (wipeG (Γ q.1) (own.map (·.2))))) (tSBs X.K ow (fun q : E × α => ft q.2 (wipeG (Γ q.1) (own.map (·.2)))) ce Ge de (fun q => (put q.1 (us q), q.2))) (own.map (·.2)) σ H Q := by
    obtain ⟨H0, ε, rl, ⟨g1, g2⟩, k⟩ := h
    refine ⟨H0, ε, rl, g1, fun J H1 f1 r1 w hsz Dl hD => ?_⟩
    have h0 : H0 Dl = none := (r1.h0 hD).resolve_right (r1.notio hD)
    let F : τ → α → β × τ := fun s x => (de (put (ui ε) s, x), us (put (ui ε) s, x))
    have fown : Fr (oa σ ow) H H1 := by
      cases p with
      | true => exact Fr.nil f1
      | false => exact f1
    have hDf0 : Dl ∉ oa σ ow := fun z => by
      obtain ⟨xs', e2⟩ := r1.trk Dl z
      rw [e2] at hD; cases hD
    refine lc_it w (g := g) (vs := own.map (·.2)) (σ := σ) (Qd := fun H => Q (.ref Dl) H) (fun i H' => Rel X.K (B.plus Dl) H0 ow σ H' (Γ (put (ui ε) (lcS F (st (ui ε)) ((xs ε).take i)).2)) ∧ Fr (oa σ ow) H1 H' ∧ ∃ ws, H' Dl = some (.lst ws) ∧ FzL X.K ((B.plus Dl).full σ ow) H' ws ((lcS F (st (ui ε)) ((xs ε).take i)).1.map ce))
      ⟨by rw [List.take_zero]; show Rel X.K (B.plus Dl) H0 ow σ _ (Γ (put (ui ε) (st (ui ε)))); rw [hps]; exact r1.plus hD, Fr.new hD, [], upd_same, by rw [List.take_zero]; exact .nil⟩ (fun i H' _ q => q.2.1.mono fun b hb => mem_full.mpr (.inr hb)) ?_ ?_
    · rintro i x H' H2 hlt ⟨r', f', ws, hw, hz⟩ ⟨fy, a, ea, hy⟩
      have hA : ∀ b ∈ (B.plus Dl).full σ ow, b ∈ B.full σ ow ∨ H1 b = none := fun b hb => by
        simp only [Bd.full, Bd.base, Bd.plus, List.mem_append, List.mem_cons] at hb ⊢
        rcases hb with (h | h | h) | h
        · exact .inl (.inl (.inl h))
        · rw [h]; exact .inr hD
        · exact .inl (.inl (.inr h))
        · exact .inl (.inr h)
      have zx := hy _ hA (f'.mono fun b hb => List.mem_append_left _ (mem_full.mpr (.inr hb))) r'.tracked
      have r2 := r'.grow fy
      have ew : oa (wipe σ (own.map (·.2))) ow = oa σ ow := oa_congr fun i hi => wipe_out fun z => hvo i z hi
      have ef : (B.plus Dl).full (wipe σ (own.map (·.2))) ow = (B.plus Dl).full σ ow := by unfold Bd.full; rw [ew]
      refine ht (B.plus Dl) H0 ow (wipe σ (own.map (·.2))) H2 (wipeG (Γ (put (ui ε) (lcS F (st (ui ε)) ((xs ε).take i)).2)) (own.map (·.2))) x a _ (fun j hj => hvo j (hjv j hj)) (r2.wipe hvo) (by rw [ef]; exact zx) fun σ2 r3 hs2 hl2 => ?_
      refine ⟨wipe_eq (by rw [hl2, wipe_length]) hjv hs2, B.plus Dl, H0, (put (ui ε) (lcS F (st (ui ε)) ((xs ε).take i)).2, a), r3, trivial, fun H3 f3 r4 => ?_⟩
      have f3' : Fr [] H2 H3 := f3
      have fall : Fr [] H' H3 := fy.trans f3'
      have eo2 : oa σ2 ow = oa σ ow := (oa_congr fun i hi => hs2 i fun z => hvo i (hjv i z) hi).trans ew
      have hd : (xs ε).drop i = a :: (xs ε).drop (i + 1) := by
        obtain ⟨hl, e⟩ := List.getElem?_eq_some_iff.mp ea
        rw [List.drop_eq_getElem_cons hl, e]
      have hta : (xs ε).take (i + 1) = (xs ε).take i ++ [a] := by rw [List.take_add_one, ea]; rfl
      have hga : Ge (put (ui ε) (lcS F (st (ui ε)) ((xs ε).take i)).2, a) := by
        have := lcG_app _ F ((xs ε).take i) ((xs ε).drop i) (st (ui ε)) (by rw [List.take_append_drop]; exact g2)
        rw [hd] at this
        exact this.1
      have hlen : ws.length ≤ i := by
        have h1 := hz.length
        rw [List.length_map, lcS_length] at h1
        rw [h1, List.length_take]; exact Nat.min_le_left _ _
      show (if true = true then _ else _)
      rw [if_pos rfl]
      refine ⟨B.plus Dl, H0, (put (ui ε) (lcS F (st (ui ε)) ((xs ε).take i)).2, a), r4, hga, fun v H4 f4 r5 z5 => ⟨ws, ?_, ?_, ?_⟩⟩
      · have f4' : Fr (oa σ2 ow) H3 H4 := f4
        exact f4' _ _ (fall _ _ hw (by simp)) (by rw [eo2]; exact hDf0)
      · rw [sizeLine_eq]
        have : (xs ε).length ≤ 16777216 := hsz
        omega
      · have f4' : Fr (oa σ ow) H3 H4 := by
          have f4' : Fr (oa σ2 ow) H3 H4 := f4
          rw [eo2] at f4'; exact f4'
        have fa : Fr (oa σ ow) H' H4 := (fall.mono (by simp)).trans f4'
        have hDx : Dl ∈ (B.plus Dl).ex := by simp [Bd.plus]
        have hDf : Dl ∈ (B.plus Dl).full σ ow := List.mem_append_left _ (List.mem_append_right _ hDx)
        have e6 : lcS F (st (ui ε)) ((xs ε).take (i + 1)) = ((lcS F (st (ui ε)) ((xs ε).take i)).1 ++ [de (put (ui ε) (lcS F (st (ui ε)) ((xs ε).take i)).2, a)], us (put (ui ε) (lcS F (st (ui ε)) ((xs ε).take i)).2, a)) := by
          rw [hta, lcS_app]; rfl
        rw [e6]
        have r6 : Rel X.K (B.plus Dl) H0 ow σ H4 (Γ (put (ui ε) (us (put (ui ε) (lcS F (st (ui ε)) ((xs ε).take i)).2, a)))) := by
          have hσ2 : ∀ i ∈ ow, σ2[i]? = σ[i]? := fun i hi => (hs2 i fun z => hvo i (hjv i z) hi).trans (wipe_out fun z => hvo i z hi)
          refine ⟨by rw [r'.len]; exact hlenE _ _ _, r'.one, fun i d hi h => ?_, fun i d hi h => ?_, ?_, r5.fr, ?_, r5.a0, ?_, r'.io⟩
          · obtain ⟨v', e1, z1⟩ := r'.fz i d hi (hfz _ _ _ _ _ hi h)
            exact ⟨v', e1, z1.fr (fa.mono fun b hb => mem_full.mpr (.inr hb))⟩
          · obtain ⟨a', vs', ds', e1, e2, e3, e4⟩ := r5.own i d hi (by
              show (ft a (wipeG (Γ (put (put (ui ε) _) (us (put (ui ε) _, a)))) (own.map (·.2))))[i]? = _
              rw [hft _ _ _ fun z => hvo i (hjv i z) hi, wipeG_out fun z => hvo i z hi, hpp]
              exact h)
            refine ⟨a', vs', ds', by rw [← hσ2 i hi]; exact e1, e2, e3, ?_⟩
            unfold Bd.full at e4 ⊢
            rw [eo2] at e4
            exact e4
          · rw [← eo2]; exact r5.trk
          · rw [← eo2]; exact r5.new
          · rw [← eo2]; exact r5.xt
        refine ⟨r6.writeEx hDx (r1.notio hD) h0, fun b o eb nb => ?_, ws ++ [v], upd_same, ?_⟩
        · have hbD : b ≠ Dl := fun z => by rw [z, hD] at eb; cases eb
          rw [upd_ne hbD]
          exact (f'.trans fa) b o eb nb
        · rw [List.map_append]
          have z5' : Fz X.K ((B.plus Dl).full σ ow) H4 v (ce (de (put (ui ε) (lcS F (st (ui ε)) ((xs ε).take i)).2, a))) := by
            have z6 : Fz X.K ((B.plus Dl).full σ2 ow) H4 v (ce (de (put (ui ε) (lcS F (st (ui ε)) ((xs ε).take i)).2, a))) := z5
            unfold Bd.full at z6 ⊢
            rw [eo2] at z6
            exact z6
          exact ((hz.fr (fa.mono fun b hb => mem_full.mpr (.inr hb))).fr (Fr.at hDf)).append (.cons (z5'.fr (Fr.at hDf)) .nil)
    · rintro H' ⟨r', f', ws, hw, hz⟩
      rw [List.take_length] at hz r'
      have hb : H Dl = none := by
        cases e : H Dl with
        | none => rfl
        | some o =>
          have := fown Dl o e hDf0
          rw [hD] at this; cases this
      refine k Dl H' ws hb (fown.trans f') r' hw ?_ hz
      have h1 := hz.length
      rw [List.length_map, lcS_length] at h1
      have : (xs ε).length ≤ 16777216 := hsz
      show ws.length ≤ 16777216
      omega
theorem d_lcS (st : E → τ) (put : E → τ → E) (hpp : ∀ ε t t', put (put ε t) t' = put ε t') (hps : ∀ ε, put ε (st ε) = ε) (hsp : ∀ ε t, st (put ε t) = t) (ht : TgR X.K c js g ft) (hft : TgF js ft) (hlenE : ∀ ε t t', (Γ (put ε t)).length = (Γ (put ε t')).length) (hfz : ∀ ε t t' i d, i ∉ ow → (Γ (put ε t))[i]? = some (some d) → (Γ (put ε t'))[i]? = some (some d)) (hi : DI X B ow Γ p tg e c G xs ui) (ok : BlkOk X.N X.env.scope scope own)
    (hg : ∀ (s : Shared) (H : Hp) (C : Addr) (cl : List (Str × Addr)) (fp : List Addr), PG (X.blk s H scope (compEnvC scope cl C X.env) fp) tg g)
    (hE : ∀ (s : Shared) (H : Hp) (C : Addr) (cl : List (Str × Addr)) (fp : List Addr) (B' : Bd), De (X.blk s H scope (compEnvC scope cl C X.env) fp) B' ow (fun q : E × α => ft q.2 (wipeG (Γ q.1) (own.map (·.2)))) false true elt ce Ge de (fun q => (put q.1 (us q), q.2)))
    (hjv : ∀ j ∈ js, j ∈ own.map (·.2) := by decide) (hvo : ∀ j ∈ own.map (·.2), j ∉ ow := by decide) (hN : X.N.Nodup := by assumption) (hc : X.calm = true := by rfl) (hs : ∀ x, foldedSetIterable e X.env x = pure x := by intro _; rfl) :
    DL X B ow Γ false (.ListComp elt [⟨tg, e, [], 0⟩] scope pos) ce (fun ε => G ε ∧ lcG (fun s x => Ge (put (ui ε) s, x)) (fun s x => (de (put (ui ε) s, x), us (put (ui ε) s, x))) (st (ui ε)) (xs ε))
      (fun ε => (lcS (fun s x => (de (put (ui ε) s, x), us (put (ui ε) s, x))) (st (ui ε)) (xs ε)).1) (fun ε => put (ui ε) (lcS (fun s x => (de (put (ui ε) s, x), us (put (ui ε) s, x))) (st (ui ε)) (xs ε)).2) :=
  ⟨(pe_lc (tt := tTBs X.K ow (fun q : E × α => ft q.2 (wipeG (Γ q.1) (own.map (·.2))))) (te := tSBs X.K ow (fun q : E × α => ft q.2 (wipeG (Γ q.1) (own.map (·.2)))) ce Ge de (fun q => (put q.1 (us q), q.2))) hc hN hi.pi ok hg
      (fun s H C cl fp => ⟨fun pins s' σ H' Q I ⟨B', H0, ε, r, _, k⟩ => pts_nil.run pins s' σ H' Q I (k H' (Fr.refl _ _) r)⟩) (fun s H C cl fp => ⟨fun pins s' σ H' Q I ⟨B', q⟩ => (hE s H C cl fp B').pe.run pins s' σ H' Q I q⟩) hs).weaken fun σ H Q h => lc_state st put hpp hps hsp ht hft hlenE hfz hjv hvo h⟩
variable {owS : List Nat} {R S : Type} {ΓS : S → List (Option D)} {cr : R → D} {ci : R → List D} {spos py : Pos} {y : Str}
theorem s_asgLcS (i : Nat) (hsw : swapsWith (.ListComp elt [⟨tg, e, [], 0⟩] scope pos) (some (.Name y py)) spos.line X.env = pure true) (st : E → τ) (put : E → τ → E) (hpp : ∀ ε t t', put (put ε t) t' = put ε t') (hps : ∀ ε, put ε (st ε) = ε) (hsp : ∀ ε t, st (put ε t) = t) (ht : TgR X.K c js g ft) (hft : TgF js ft) (hlenE : ∀ ε t t', (Γ (put ε t)).length = (Γ (put ε t')).length) (hfz : ∀ ε t t' i d, i ∉ ow → (Γ (put ε t))[i]? = some (some d) → (Γ (put ε t'))[i]? = some (some d)) (hi : DI X B ow Γ p tg e c G xs ui) (ok : BlkOk X.N X.env.scope scope own)
    (hg : ∀ (s : Shared) (H : Hp) (C : Addr) (cl : List (Str × Addr)) (fp : List Addr), PG (X.blk s H scope (compEnvC scope cl C X.env) fp) tg g)
    (hE : ∀ (s : Shared) (H : Hp) (C : Addr) (cl : List (Str × Addr)) (fp : List Addr) (B' : Bd), De (X.blk s H scope (compEnvC scope cl C X.env) fp) B' ow (fun q : E × α => ft q.2 (wipeG (Γ q.1) (own.map (·.2)))) false true elt ce Ge de (fun q => (put q.1 (us q), q.2)))
    (hio : i ∉ ow := by decide) (hjv : ∀ j ∈ js, j ∈ own.map (·.2) := by decide) (hvo : ∀ j ∈ own.map (·.2), j ∉ ow := by decide) (hy : X.N[i]? = some y := by rfl) (hyl : X.env.scope.names.lookup y = some .local := by rfl) (hN : X.N.Nodup := by assumption) (hc : X.calm = true := by rfl) (hs : ∀ x, foldedSetIterable e X.env x = pure x := by intro _; rfl) :
    Ds X B ow Γ cr ci owS ΓS (.Assign [.Name y py] (.ListComp elt [⟨tg, e, [], 0⟩] scope pos) spos) (fun ε => G ε ∧ lcG (fun s x => Ge (put (ui ε) s, x)) (fun s x => (de (put (ui ε) s, x), us (put (ui ε) s, x))) (st (ui ε)) (xs ε))
      (fun ε => .nx (put (ui ε) (lcS (fun s x => (de (put (ui ε) s, x), us (put (ui ε) s, x))) (st (ui ε)) (xs ε)).2, (lcS (fun s x => (de (put (ui ε) s, x), us (put (ui ε) s, x))) (st (ui ε)) (xs ε)).1)) ow (fun q : E × List β => (Γ q.1).set i (some (cL ce q.2))) :=
  ⟨(ps_setLc (tt := tTBs X.K ow (fun q : E × α => ft q.2 (wipeG (Γ q.1) (own.map (·.2))))) (te := tSBs X.K ow (fun q : E × α => ft q.2 (wipeG (Γ q.1) (own.map (·.2)))) ce Ge de (fun q => (put q.1 (us q), q.2))) hc hN hy hyl hsw hi.pi ok hg
      (fun s H C cl fp => ⟨fun pins s' σ H' Q I ⟨B', H0, ε, r, _, k⟩ => pts_nil.run pins s' σ H' Q I (k H' (Fr.refl _ _) r)⟩) (fun s H C cl fp => ⟨fun pins s' σ H' Q I ⟨B', q⟩ => (hE s H C cl fp B').pe.run pins s' σ H' Q I q⟩) hs).weaken fun Dn σ H ⟨H0, ε, rl, g, k⟩ => by
    refine lc_state (Q := fun x H1 => Dn.nx (σ.set i (some x)) H1) st put hpp hps hsp ht hft hlenE hfz hjv hvo ⟨H0, ε, rl, g, fun q H' vs hq f r hv hz z => ?_⟩
    have z2 : Fz X.K (B.full σ ow) H' (.ref q) (cL ce (lcS (fun s x => (de (put (ui ε) s, x), us (put (ui ε) s, x))) (st (ui ε)) (xs ε)).1) := by
      refine .lst ⟨⟨fun h => ?_, hv⟩, hz⟩ (z.sub full_plus)
      rcases mem_full.mp h with h | h
      · exact rl.base_trk q h hq
      · exact (r.xt q (by simp [Bd.plus])).2 h
    exact k _ H' (r.unplus.set hio z2)⟩
theorem s_ownLcS (i : Nat) (hsw : swapsWith (.ListComp elt [⟨tg, e, [], 0⟩] scope pos) (some (.Name y py)) spos.line X.env = pure true) (st : E → τ) (put : E → τ → E) (hpp : ∀ ε t t', put (put ε t) t' = put ε t') (hps : ∀ ε, put ε (st ε) = ε) (hsp : ∀ ε t, st (put ε t) = t) (ht : TgR X.K c js g ft) (hft : TgF js ft) (hlenE : ∀ ε t t', (Γ (put ε t)).length = (Γ (put ε t')).length) (hfz : ∀ ε t t' i d, i ∉ ow → (Γ (put ε t))[i]? = some (some d) → (Γ (put ε t'))[i]? = some (some d)) (hi : DI X B ow Γ p tg e c G xs ui) (ok : BlkOk X.N X.env.scope scope own)
    (hg : ∀ (s : Shared) (H : Hp) (C : Addr) (cl : List (Str × Addr)) (fp : List Addr), PG (X.blk s H scope (compEnvC scope cl C X.env) fp) tg g)
    (hE : ∀ (s : Shared) (H : Hp) (C : Addr) (cl : List (Str × Addr)) (fp : List Addr) (B' : Bd), De (X.blk s H scope (compEnvC scope cl C X.env) fp) B' ow (fun q : E × α => ft q.2 (wipeG (Γ q.1) (own.map (·.2)))) false true elt ce Ge de (fun q => (put q.1 (us q), q.2)))
    {ow' : List Nat} (hl : ∀ ε, i < (Γ ε).length) (h' : ∀ j, j ∈ ow' ↔ j ∈ ow ∨ j = i) (h0 : B.io ≠ none → i ≠ 0) (hjv : ∀ j ∈ js, j ∈ own.map (·.2) := by decide) (hvo : ∀ j ∈ own.map (·.2), j ∉ ow := by decide) (hy : X.N[i]? = some y := by rfl) (hyl : X.env.scope.names.lookup y = some .local := by rfl) (hN : X.N.Nodup := by assumption) (hc : X.calm = true := by rfl) (hs : ∀ x, foldedSetIterable e X.env x = pure x := by intro _; rfl) :
    Ds X B ow Γ cr ci owS ΓS (.Assign [.Name y py] (.ListComp elt [⟨tg, e, [], 0⟩] scope pos) spos) (fun ε => G ε ∧ lcG (fun s x => Ge (put (ui ε) s, x)) (fun s x => (de (put (ui ε) s, x), us (put (ui ε) s, x))) (st (ui ε)) (xs ε))
      (fun ε => .nx (put (ui ε) (lcS (fun s x => (de (put (ui ε) s, x), us (put (ui ε) s, x))) (st (ui ε)) (xs ε)).2, (lcS (fun s x => (de (put (ui ε) s, x), us (put (ui ε) s, x))) (st (ui ε)) (xs ε)).1)) ow' (fun q : E × List β => (Γ q.1).set i (some (.list (q.2.map ce)))) :=
  ⟨(ps_setLc (tt := tTBs X.K ow (fun q : E × α => ft q.2 (wipeG (Γ q.1) (own.map (·.2))))) (te := tSBs X.K ow (fun q : E × α => ft q.2 (wipeG (Γ q.1) (own.map (·.2)))) ce Ge de (fun q => (put q.1 (us q), q.2))) hc hN hy hyl hsw hi.pi ok hg
      (fun s H C cl fp => ⟨fun pins s' σ H' Q I ⟨B', H0, ε, r, _, k⟩ => pts_nil.run pins s' σ H' Q I (k H' (Fr.refl _ _) r)⟩) (fun s H C cl fp => ⟨fun pins s' σ H' Q I ⟨B', q⟩ => (hE s H C cl fp B').pe.run pins s' σ H' Q I q⟩) hs).weaken fun Dn σ H ⟨H0, ε, rl, g, k⟩ =>
    lc_state (Q := fun x H1 => Dn.nx (σ.set i (some x)) H1) st put hpp hps hsp ht hft hlenE hfz hjv hvo ⟨H0, ε, rl, g, fun q H' vs hq f r hv hz z => k _ H' (r.setOwn hv hz ((rl.h0 hq).resolve_right (rl.notio hq)) (fun h => rl.base_trk q h hq) z (hl _) h' h0)⟩⟩
end
end Y
namespace Y
open PySem PySem.Spec L2

section
variable {E M R S α : Type}
@[reducible] def Out.keep (o : Out M R S) (ε : E) : Out (E × M) R S := match o with
  | .nx m => .nx (ε, m)
  | .rt r => .rt r
  | .bk s => .bk s
  | .ct s => .ct s
def Out.ret : Out Empty R Empty → R
  | .rt r => r
  | .nx e => nomatch e
  | .bk e => nomatch e
  | .ct e => nomatch e
def Out.und : Out M Unit Empty → Unit := fun _ => ()
def forN (g : M × α → Prop) (f : M × α → M) : M → List α → Prop
  | _, [] => True
  | t, x :: xs => g (t, x) ∧ forN g f (f (t, x)) xs
theorem forG_nx {g : M × α → Prop} {f : M × α → M} : ∀ (xs : List α) (t : M), forN g f t xs → forG (R := R) g (fun q => .nx (f q)) t xs
  | [], _, _ => trivial
  | x :: xs, t, h => ⟨h.1, forG_nx xs _ h.2⟩
/-- an invariant of the loop -/
theorem forN_of {g : M × α → Prop} {f : M × α → M} (P : M → List α → Prop) (hg : ∀ t x xs, P t (x :: xs) → g (t, x) ∧ P (f (t, x)) xs) : ∀ (xs : List α) (t : M), P t xs → forN g f t xs
  | [], _, _ => trivial
  | x :: xs, t, h => ⟨(hg t x xs h).1, forN_of P hg xs _ (hg t x xs h).2⟩
end
section
variable {X : Cx} {B : Bd} {ow ow' owS : List Nat} {E M N L R S α : Type} {Γ : E → List (Option D)} {ΓL : E → M → List (Option D)} {ΓS : S → List (Option D)} {Γ' : N → List (Option D)} {cr : R → D} {ci : R → List D} {st : Stmt} {body a b : List Stmt} {pos : Pos} {tg e : Expr} {p : Bool} {c : α → D} {G : E → Prop} {u : E → E}
  {xs : E → List α} {js : List Nat} {g : TG} {ft : α → List (Option D) → List (Option D)}
theorem Ds.is {d d' : E → Out N R S} {G' : E → Prop} (h : Ds X B ow Γ cr ci owS ΓS st G d ow' Γ') (hg : ∀ ε, G' ε → G ε) (hd : ∀ ε, G' ε → d ε = d' ε) : Ds X B ow Γ cr ci owS ΓS st G' d' ow' Γ' :=
  ⟨h.ps.weaken fun Dn σ H ⟨H0, ε, rl, g, k⟩ => ⟨H0, ε, rl, hg ε g, by rw [hd ε g]; exact k⟩⟩
theorem s_forP {gb : E → M × α → Prop} {db : E → M × α → Out M R M} (m0 : E → M) (hi : DI X B ow Γ p tg e c G xs u) (hc0 : ∀ (H0 : Hp) ε σ H, Rel X.K B H0 ow σ H (Γ ε) → Rel X.K B H0 ow σ H (ΓL ε (m0 ε))) (hg : PG X tg g) (ht : TgR X.K c js g ft)
    (hb : ∀ ε, Dss X B ow (fun q : M × α => ft q.2 (ΓL ε q.1)) cr ci ow (ΓL ε) body (gb ε) (db ε) ow (ΓL ε)) (hp : PassesOwn (model X.prog X.w) X.A X.env X.xe) (hjs : ∀ j ∈ js, j ∉ ow := by decide) (hcalm : X.calm = true := by rfl) (hs : ∀ x, foldedSetIterable e X.env x = pure x := by intro _; rfl) :
    Ds X B ow Γ cr ci owS ΓS (.For tg e body [] pos) (fun ε => G ε ∧ forG (gb (u ε)) (db (u ε)) (m0 (u ε)) (xs ε)) (fun ε => (forO (db (u ε)) (m0 (u ε)) (xs ε)).keep (u ε)) ow (fun n : E × M => ΓL n.1 n.2) :=
  ⟨(ps_for (tb := fun Dn σ H => ∃ ε, tSS X.K B ow (fun q : M × α => ft q.2 (ΓL ε q.1)) cr ci ow (ΓL ε) (gb ε) (db ε) ow (ΓL ε) Dn σ H) hp hcalm hi.pi hg ⟨fun pins s σ H Dn I ⟨ε, q⟩ => (hb ε).pss.run pins s σ H Dn I q⟩ hs).weaken fun Dn σ H ⟨H0, ε, rl, ⟨g1, g2⟩, k⟩ => ⟨H0, ε, rl, g1, fun J H1 f1 r1 w hsz => by
    have kn : ∀ n, forO (S := S) (db (u ε)) (m0 (u ε)) (xs ε) = .nx n → ∀ σ' H', Rel X.K B H0 ow σ' H' (ΓL (u ε) n) → Dn.nx σ' H' := fun n e => by
      have k' := k
      simp only [e] at k'
      exact k'
    have kr : ∀ n, forO (S := S) (db (u ε)) (m0 (u ε)) (xs ε) = .rt n → ∀ v H', EX X.K B cr ci H0 n v H' → Dn.rt v H' := fun n e => by
      have k' := k
      simp only [e] at k'
      exact k'
    refine for_it w (g := g) (D := Dn) (tb := fun Dn σ H => ∃ ε, tSS X.K B ow (fun q : M × α => ft q.2 (ΓL ε q.1)) cr ci ow (ΓL ε) (gb ε) (db ε) ow (ΓL ε) Dn σ H) (fun i σ' H' => ∃ t, Rel X.K B (hid (oa σ ow) H1) ow σ' H' (ΓL (u ε) t) ∧ forG (gb (u ε)) (db (u ε)) t ((xs ε).drop i) ∧ forO (S := S) (db (u ε)) t ((xs ε).drop i) = forO (db (u ε)) (m0 (u ε)) (xs ε)) ⟨m0 (u ε), hc0 _ _ _ _ r1.rest, g2, rfl⟩ ?_ ?_ ?_
    · rintro i σ' H' _ ⟨t, r', _, _⟩
      exact r1.since r'
    · rintro i x σ' H' H2 hlt ⟨t, r', hg', ho'⟩ ⟨fy, a, ea, hz⟩
      have hz' := hz (B.full σ' ow) (r1.newer r') ((r1.since r').mono fun b hb => List.mem_append_left _ hb) r'.tracked
      have hd : (xs ε).drop i = a :: (xs ε).drop (i + 1) := by
        obtain ⟨hl, e⟩ := List.getElem?_eq_some_iff.mp ea
        rw [List.drop_eq_getElem_cons hl, e]
      rw [hd] at hg' ho'
      refine ht B _ ow σ' H2 _ x a _ hjs (r'.grow fy) hz' fun σ2 r2 _ _ => ⟨u ε, _, (t, a), r2, hg'.1, ?_⟩
      have hg2 := hg'.2
      cases hdb : db (u ε) (t, a) with
      | nx t' =>
        rw [hdb] at hg2
        have ho2 : forO (S := S) (db (u ε)) t' ((xs ε).drop (i + 1)) = forO (db (u ε)) (m0 (u ε)) (xs ε) := by rw [← ho', forO, hdb]
        exact fun σ3 H3 r3 => ⟨t', r3, hg2, ho2⟩
      | ct t' =>
        rw [hdb] at hg2
        have ho2 : forO (S := S) (db (u ε)) t' ((xs ε).drop (i + 1)) = forO (db (u ε)) (m0 (u ε)) (xs ε) := by rw [← ho', forO, hdb]
        exact fun σ3 H3 r3 => ⟨t', r3, hg2, ho2⟩
      | bk t' =>
        have k' := kn t' (by rw [← ho', forO, hdb])
        exact fun σ3 H3 r3 => k' σ3 H3 (r1.rebase r3)
      | rt q =>
        have k' := kr q (by rw [← ho', forO, hdb])
        exact fun v H3 ex => k' v H3 (EX.rebase r1 ex)
    · rintro σ' H' ⟨t, r', _, ho'⟩
      rw [List.drop_length] at ho'
      have k' := kn t ho'.symm
      exact k' σ' H' (r1.rebase r')⟩⟩
theorem s_forN {gb : E → M × α → Prop} {db : E → M × α → Out M R M} {fb : E → M × α → M} (m0 : E → M) (hi : DI X B ow Γ p tg e c G xs u) (hc0 : ∀ (H0 : Hp) ε σ H, Rel X.K B H0 ow σ H (Γ ε) → Rel X.K B H0 ow σ H (ΓL ε (m0 ε))) (hg : PG X tg g) (ht : TgR X.K c js g ft)
    (hb : ∀ ε, Dss X B ow (fun q : M × α => ft q.2 (ΓL ε q.1)) cr ci ow (ΓL ε) body (gb ε) (db ε) ow (ΓL ε)) (hfb : ∀ ε q, db ε q = .nx (fb ε q)) (hp : PassesOwn (model X.prog X.w) X.A X.env X.xe) (hjs : ∀ j ∈ js, j ∉ ow := by decide) (hcalm : X.calm = true := by rfl) (hs : ∀ x, foldedSetIterable e X.env x = pure x := by intro _; rfl) :
    Ds X B ow Γ cr ci owS ΓS (.For tg e body [] pos) (fun ε => G ε ∧ forN (gb (u ε)) (fb (u ε)) (m0 (u ε)) (xs ε)) (fun ε => .nx (u ε, (xs ε).foldl (fun m x => fb (u ε) (m, x)) (m0 (u ε)))) ow (fun n : E × M => ΓL n.1 n.2) :=
  (s_forP m0 hi hc0 hg ht hb hp hjs hcalm hs).is (fun ε h => ⟨h.1, by
    have e : db (u ε) = fun q => .nx (fb (u ε) q) := funext (hfb (u ε))
    rw [e]
    exact forG_nx _ _ h.2⟩) fun ε _ => by
    have e : db (u ε) = fun q => .nx (fb (u ε) q) := funext (hfb (u ε))
    show Out.keep (forO (db (u ε)) _ _) _ = _
    rw [e, forO_nx]
/-- while -/
theorem s_whileP {gt gw : E → M → Prop} {tst : E → M → Bool} {dw : E → M → Out M R M} (m0 : E → M) (fuel : E → M → Nat) (hc0 : ∀ (H0 : Hp) ε σ H, Rel X.K B H0 ow σ H (Γ ε) → Rel X.K B H0 ow σ H (ΓL ε (m0 ε))) (ht : ∀ ε, Dt X B ow (ΓL ε) p e (gt ε) (tst ε) (fun q => q))
    (hb : ∀ ε, Dss X B ow (ΓL ε) cr ci ow (ΓL ε) body (gw ε) (dw ε) ow (ΓL ε)) (hp : PassesOwn (model X.prog X.w) X.A X.env X.xe) :
    Ds X B ow Γ cr ci owS ΓS (.While e body [] pos) (fun ε => whG (gt ε) (tst ε) (gw ε) (dw ε) (fuel ε (m0 ε)) (m0 ε)) (fun ε => (whO (tst ε) (dw ε) (fuel ε (m0 ε)) (m0 ε)).keep ε) ow (fun n : E × M => ΓL n.1 n.2) :=
  ⟨(ps_while (tc := fun σ H Q => ∃ ε, tTs X.K B ow (ΓL ε) p (gt ε) (tst ε) (fun q => q) σ H Q) (tb := fun Dn σ H => ∃ ε, tSS X.K B ow (ΓL ε) cr ci ow (ΓL ε) (gw ε) (dw ε) ow (ΓL ε) Dn σ H) hp ⟨fun pins s σ H Q I ⟨ε, q⟩ => (ht ε).pt.run pins s σ H Q I q⟩ ⟨fun pins s σ H Dn I ⟨ε, q⟩ => (hb ε).pss.run pins s σ H Dn I q⟩).weaken fun Dn σ H ⟨H0, ε, rl, g0, k⟩ => by
    have kn : ∀ n, whO (S := S) (tst ε) (dw ε) (fuel ε (m0 ε)) (m0 ε) = .nx n → ∀ σ' H', Rel X.K B H0 ow σ' H' (ΓL ε n) → Dn.nx σ' H' := fun n e => by
      have k' := k
      simp only [e] at k'
      exact k'
    have kr : ∀ n, whO (S := S) (tst ε) (dw ε) (fuel ε (m0 ε)) (m0 ε) = .rt n → ∀ v H', EX X.K B cr ci H0 n v H' → Dn.rt v H' := fun n e => by
      have k' := k
      simp only [e] at k'
      exact k'
    refine ⟨fun m σ' H' => ∃ n t, m = n ∧ Rel X.K B H0 ow σ' H' (ΓL ε t) ∧ whG (gt ε) (tst ε) (gw ε) (dw ε) n t ∧ whO (S := S) (tst ε) (dw ε) n t = whO (tst ε) (dw ε) (fuel ε (m0 ε)) (m0 ε), ⟨fuel ε (m0 ε), fuel ε (m0 ε), m0 ε, rfl, hc0 _ _ _ _ rl, g0, rfl⟩, ?_⟩
    rintro m σ' H' ⟨n, t, rfl, r, hg, ho⟩
    have hgt : gt ε t := by cases m with | zero => exact hg.1 | succ m => exact hg.1
    refine ⟨ε, H0, t, r, hgt, fun H2 f2 r2 => ?_⟩
    cases ht : tst ε t with
    | false =>
      rw [if_neg Bool.false_ne_true]
      have k' := kn t (by
        rw [← ho]
        cases m with
        | zero => rfl
        | succ m => rw [whO, ht, if_neg Bool.false_ne_true])
      exact k' σ' H2 r2
    | true =>
      rw [if_pos rfl]
      cases m with
      | zero => rw [hg.2] at ht; cases ht
      | succ m =>
        obtain ⟨hgw, hg2⟩ := hg.2 ht
        rw [whO, ht, if_pos rfl] at ho
        refine ⟨fun σ3 H3 => ∃ t', Rel X.K B H0 ow σ3 H3 (ΓL ε t') ∧ whG (gt ε) (tst ε) (gw ε) (dw ε) m t' ∧ whO (S := S) (tst ε) (dw ε) m t' = whO (tst ε) (dw ε) (fuel ε (m0 ε)) (m0 ε), fun σ3 H3 ⟨t', a, b, c⟩ => ⟨m, Nat.lt_succ_self _, m, t', rfl, a, b, c⟩, ε, H0, t, r2, hgw, ?_⟩
        cases hd : dw ε t with
        | nx t' => rw [hd] at hg2 ho; exact fun σ3 H3 r3 => ⟨t', r3, hg2, ho⟩
        | ct t' => rw [hd] at hg2 ho; exact fun σ3 H3 r3 => ⟨t', r3, hg2, ho⟩
        | bk t' =>
          rw [hd] at ho
          exact fun σ3 H3 r3 => kn t' ho.symm σ3 H3 r3
        | rt q =>
          rw [hd] at ho
          exact fun v H3 ex => kr q ho.symm v H3 ex⟩
/-- the end of a list of statements, told otherwise -/
theorem s_end {ow2 : List Nat} {N2 : Type} {Γ2 : N2 → List (Option D)} (cv : E → N2) (hc : ∀ (H0 : Hp) ε σ H, Rel X.K B H0 ow σ H (Γ ε) → Rel X.K B H0 ow2 σ H (Γ2 (cv ε))) : Dss X B ow Γ cr ci owS ΓS [] (fun _ => True) (fun ε => .nx (cv ε)) ow2 Γ2 :=
  ⟨pss_nil.weaken fun Dn σ H ⟨H0, ε, rl, _, k⟩ => k σ H (hc _ _ _ _ rl)⟩
variable {G1 Ga Gb : E → Prop} {t : E → Bool} {fa fb : E → M} {ΓM : E × M → List (Option D)}
/-- if, both ways going on, joined -/
theorem s_ifJ {da db : E → Out (E × M) R S} (ht : Dt X B ow Γ p e G t u) (ha : Dss X B ow Γ cr ci owS ΓS a Ga da ow' ΓM) (hb : Dss X B ow Γ cr ci owS ΓS b Gb db ow' ΓM) (hka : ∀ ε, da ε = .nx (ε, fa ε)) (hkb : ∀ ε, db ε = .nx (ε, fb ε)) :
    Ds X B ow Γ cr ci owS ΓS (.If e a b pos) (fun ε => G ε ∧ (t ε = true → Ga (u ε)) ∧ (t ε = false → Gb (u ε))) (fun ε => .nx (u ε, if t ε = true then fa (u ε) else fb (u ε))) ow' ΓM :=
  (s_ifM ht ha hb).is (fun _ h => h) fun ε _ => by
    rw [hka, hkb]
    cases t ε <;> rfl
end
end Y
namespace Y
open PySem PySem.Spec PyProof.Rows L2

/-! ### a op b op c op d -/
section
variable {X : Cx} {a b c d : Expr} {ta tb tc td : TE} {pos : Pos}
def tChn3 (r r' r'' : R2) (ta tb tc td : TE) : TE := fun σ H Q => ta σ H fun x H1 => tb σ H1 fun y H2 => r x y H2 fun z H3 => ∃ k, z = .bl k ∧
  (if k = true then tc σ H3 fun w H4 => r' y w H4 fun z' H5 => ∃ k', z' = .bl k' ∧ (if k' = true then td σ H5 fun u H6 => r'' w u H6 Q else Q (.bl false) H5) else Q (.bl false) H3)
theorem pe_chn3 {op op' op'' : CmpOp} {r r' r'' : R2} (ho : OpR X (compareOp op) r) (ho' : OpR X (compareOp op') r') (ho'' : OpR X (compareOp op'') r'') (ha : PE X a ta) (hb : PE X b tb) (hc : PE X c tc) (hd : PE X d td)
    (hm : lastMarks [op, op', op''] [b, c, d] = false := by with_unfolding_all rfl) : PE X (.Compare a [op, op', op''] [b, c, d] pos) (tChn3 r r' r'' ta tb tc td) := by
  refine ⟨fun pins s σ H Q I h => ?_⟩
  refine Compare_chain (thn (ha.run pins s σ H _ I h) fun v s1 ⟨x, H1, I1, r1, q1⟩ => chain_link (thn (hb.run pins s1 σ H1 _ I1 q1) fun u s2 ⟨y, H2, I2, r2, q2⟩ =>
    thn (ho pins s2 σ H2 x y v u _ I2 r1 r2 q2) fun e3 s3 ⟨z, H3, I3, r3, k, e, q3⟩ => ?_)) hm
  subst e
  cases r3
  refine wpAny_truthy_bool ?_
  cases k with
  | false => exact ite_ff ⟨.bl false, H3, I3, rfl, q3⟩
  | true =>
    refine ite_tt (chain_link (thn (hc.run pins s3 σ H3 _ I3 q3) fun w' s4 ⟨z', H4, I4, r4, q4⟩ => thn (ho' pins s4 σ H4 y z' u w' _ I4 r2 r4 q4) fun e5 s5 ⟨z2, H5, I5, r5, k2, e2, q5⟩ => ?_))
    subst e2
    cases r5
    refine wpAny_truthy_bool ?_
    cases k2 with
    | false => exact ite_ff ⟨.bl false, H5, I5, rfl, q5⟩
    | true => exact ite_tt (chain_last (thn (hd.run pins s5 σ H5 _ I5 q5) fun w6 s6 ⟨z6, H6, I6, r6, q6⟩ => ho'' pins s6 σ H6 z' z6 w' w6 Q I6 r4 r6 q6))
theorem pt_chn3 {op op' op'' : CmpOp} {r r' r'' : R2} (ho : OpR X (compareOp op) r) (ho' : OpR X (compareOp op') r') (ho'' : OpR X (compareOp op'') r'') (ha : PE X a ta) (hb : PE X b tb) (hc : PE X c tc) (hd : PE X d td)
    (hm : lastMarks [op, op', op''] [b, c, d] = false := by with_unfolding_all rfl) : PT X (.Compare a [op, op', op''] [b, c, d] pos) (tTest (tChn3 r r' r'' ta tb tc td)) := by
  refine ⟨fun pins s σ H Q I h => ?_⟩
  refine isTrue_chain (thn (ha.run pins s σ H _ I h) fun v s1 ⟨x, H1, I1, r1, q1⟩ => test_link (thn (hb.run pins s1 σ H1 _ I1 q1) fun u s2 ⟨y, H2, I2, r2, q2⟩ =>
    thn (ho pins s2 σ H2 x y v u _ I2 r1 r2 q2) fun e3 s3 ⟨z, H3, I3, r3, k, e, q3⟩ => ?_)) hm
  subst e
  cases r3
  refine wpAny_truthy_bool ?_
  cases k with
  | false =>
    obtain ⟨k', e', q'⟩ := q3
    cases e'
    exact ite_ff ⟨H3, I3, q'⟩
  | true =>
    refine ite_tt (test_link (thn (hc.run pins s3 σ H3 _ I3 q3) fun w' s4 ⟨z', H4, I4, r4, q4⟩ => thn (ho' pins s4 σ H4 y z' u w' _ I4 r2 r4 q4) fun e5 s5 ⟨z2, H5, I5, r5, k2, e2, q5⟩ => ?_))
    subst e2
    cases r5
    refine wpAny_truthy_bool ?_
    cases k2 with
    | false =>
      obtain ⟨k', e', q'⟩ := q5
      cases e'
      exact ite_ff ⟨H5, I5, q'⟩
    | true =>
      refine ite_tt (test_last (thn (hd.run pins s5 σ H5 _ I5 q5) fun w6 s6 ⟨z6, H6, I6, r6, q6⟩ => thn (ho'' pins s6 σ H6 z' z6 w' w6 _ I6 r4 r6 q6) fun d' s7 ⟨z7, H7, I7, r7, k7, e7, q7⟩ => ?_))
      subst e7
      cases r7
      exact wpAny_truthy_bool ⟨H7, I7, q7⟩
end
section
variable {X : Cx} {B : Bd} {ow : List Nat} {E α β : Type} {Γ : E → List (Option D)} {p s : Bool} {e1 e2 e3 e4 : Expr} {pos : Pos} {G1 G2 G3 G4 : E → Prop}
theorem chn3_of {K : Frag} {r r' r'' : R2} {f f' f'' : Int → Int → Bool} {a b b' b'' : E → Int} (hv : Op2 K r cI cI cB (fun _ _ => True) f) (hv' : Op2 K r' cI cI cB (fun _ _ => True) f') (hv'' : Op2 K r'' cI cI cB (fun _ _ => True) f'') {σ : L2.St} {H : Hp} {Q : VK}
    (h : tS K B ow Γ true s cB (fun ε => G1 ε ∧ G2 ε ∧ (f (a ε) (b ε) = true → G3 ε ∧ (f' (b ε) (b' ε) = true → G4 ε))) (fun ε => f (a ε) (b ε) && (f' (b ε) (b' ε) && f'' (b' ε) (b'' ε))) (fun ε => ε) σ H Q) :
    tChn3 r r' r'' (tS K B ow Γ true s cI G1 a (fun ε => ε)) (tS K B ow Γ true s cI G2 b (fun ε => ε)) (tS K B ow Γ true s cI G3 b' (fun ε => ε)) (tS K B ow Γ true s cI G4 b'' (fun ε => ε)) σ H Q := by
  obtain ⟨H0, ε, rl, ⟨g1, g2, g3⟩, k⟩ := h
  refine ⟨H0, ε, rl, g1, fun v H1 f1 r1 z1 => ⟨H0, ε, r1, g2, fun w H2 f2 r2 z2 => ?_⟩⟩
  have f1' : Fr [] H H1 := f1
  have f2' : Fr [] H1 H2 := f2
  refine hv _ H2 (a ε) (b ε) v w _ (r2.tr s) (z1.fr f2'.nil) z2 trivial fun z H3 f3 z3 => ⟨_, z3.bl_inv, ?_⟩
  have r3 := r2.grow f3
  cases h : f (a ε) (b ε) with
  | false =>
    rw [if_neg Bool.false_ne_true]
    refine k _ H3 ((f1'.trans f2').trans f3) r3 ?_
    simp only [h, Bool.false_and]
    exact .bl _
  | true =>
    rw [if_pos rfl]
    obtain ⟨g3, g4⟩ := g3 h
    refine ⟨H0, ε, r3, g3, fun w' H4 f4 r4 z4 => ?_⟩
    have f4' : Fr [] H3 H4 := f4
    refine hv' _ H4 (b ε) (b' ε) w w' _ (r4.tr s) ((z2.fr f3.nil).fr f4'.nil) z4 trivial fun z' H5 f5 z5 => ⟨_, z5.bl_inv, ?_⟩
    have r5 := r4.grow f5
    have fa := ((((f1'.trans f2').trans f3).trans f4').trans f5)
    cases h' : f' (b ε) (b' ε) with
    | false =>
      rw [if_neg Bool.false_ne_true]
      refine k _ H5 fa r5 ?_
      simp only [h, h', Bool.false_and, Bool.and_false]
      exact .bl _
    | true =>
      rw [if_pos rfl]
      refine ⟨H0, ε, r5, g4 h', fun w6 H6 f6 r6 z6 => ?_⟩
      have f6' : Fr [] H5 H6 := f6
      refine hv'' _ H6 (b' ε) (b'' ε) w' w6 _ (r6.tr s) ((z4.fr f5.nil).fr f6'.nil) z6 trivial fun z7 H7 f7 z7' => k _ H7 ((fa.trans f6').trans f7) (r6.grow f7) ?_
      simpa [h, h'] using z7'
theorem d_chn3 {op op' op'' : CmpOp} {r r' r'' : R2} {f f' f'' : Int → Int → Bool} {a b b' b'' : E → Int} (ho : OpR X (compareOp op) r) (ho' : OpR X (compareOp op') r') (ho'' : OpR X (compareOp op'') r'') (hv : Op2 X.K r cI cI cB (fun _ _ => True) f) (hv' : Op2 X.K r' cI cI cB (fun _ _ => True) f') (hv'' : Op2 X.K r'' cI cI cB (fun _ _ => True) f'')
    (h1 : De X B ow Γ true s e1 cI G1 a (fun ε => ε)) (h2 : De X B ow Γ true s e2 cI G2 b (fun ε => ε)) (h3 : De X B ow Γ true s e3 cI G3 b' (fun ε => ε)) (h4 : De X B ow Γ true s e4 cI G4 b'' (fun ε => ε)) (hm : lastMarks [op, op', op''] [e2, e3, e4] = false := by with_unfolding_all rfl) :
    De X B ow Γ true s (.Compare e1 [op, op', op''] [e2, e3, e4] pos) cB (fun ε => G1 ε ∧ G2 ε ∧ (f (a ε) (b ε) = true → G3 ε ∧ (f' (b ε) (b' ε) = true → G4 ε))) (fun ε => f (a ε) (b ε) && (f' (b ε) (b' ε) && f'' (b' ε) (b'' ε))) (fun ε => ε) :=
  ⟨(pe_chn3 ho ho' ho'' h1.pe h2.pe h3.pe h4.pe hm).weaken fun _ _ _ h => chn3_of hv hv' hv'' h⟩
theorem t_chn3 {op op' op'' : CmpOp} {r r' r'' : R2} {f f' f'' : Int → Int → Bool} {a b b' b'' : E → Int} (ho : OpR X (compareOp op) r) (ho' : OpR X (compareOp op') r') (ho'' : OpR X (compareOp op'') r'') (hv : Op2 X.K r cI cI cB (fun _ _ => True) f) (hv' : Op2 X.K r' cI cI cB (fun _ _ => True) f') (hv'' : Op2 X.K r'' cI cI cB (fun _ _ => True) f'')
    (h1 : De X B ow Γ true s e1 cI G1 a (fun ε => ε)) (h2 : De X B ow Γ true s e2 cI G2 b (fun ε => ε)) (h3 : De X B ow Γ true s e3 cI G3 b' (fun ε => ε)) (h4 : De X B ow Γ true s e4 cI G4 b'' (fun ε => ε)) (hm : lastMarks [op, op', op''] [e2, e3, e4] = false := by with_unfolding_all rfl) :
    Dt X B ow Γ true (.Compare e1 [op, op', op''] [e2, e3, e4] pos) (fun ε => G1 ε ∧ G2 ε ∧ (f (a ε) (b ε) = true → G3 ε ∧ (f' (b ε) (b' ε) = true → G4 ε))) (fun ε => f (a ε) (b ε) && (f' (b ε) (b' ε) && f'' (b' ε) (b'' ε))) (fun ε => ε) :=
  ⟨(pt_chn3 ho ho' ho'' h1.pe h2.pe h3.pe h4.pe hm).weaken fun σ H Q ⟨H0, ε, rl, g, k⟩ => chn3_of hv hv' hv'' ⟨H0, ε, rl, g, fun v H' f r' z => ⟨_, z.bl_inv, k H' f r'⟩⟩⟩
end

/-! ### comprehensions without tests -/
section
variable {X : Cx} {B : Bd} {ow owS : List Nat} {E R S α β : Type} {Γ : E → List (Option D)} {ΓS : S → List (Option D)} {cr : R → D} {ci : R → List D} {pos spos py : Pos} {tg e elt : Expr} {c : α → D} {ce : β → D} {G : E → Prop}
  {xs : E → List α} {js : List Nat} {g : TG} {ft : α → List (Option D) → List (Option D)} {Ge : E × α → Prop} {de : E × α → β} {own : List (Str × Nat)} {scope : Scope} {y : Str}
theorem filt_true {f : α → β} (l : List α) : ((l.filter fun _ => true).map f) = l.map f := congrArg (List.map f) (List.filter_eq_self.mpr fun _ _ => rfl)
theorem DL.is {d d' : E → List β} {G G' : E → Prop} {p : Bool} {u : E → E} (h : DL X B ow Γ p e ce G d u) (hg : ∀ ε, G' ε → G ε) (hd : ∀ ε, G' ε → d ε = d' ε) : DL X B ow Γ p e ce G' d' u :=
  ⟨h.pe.weaken fun σ H Q ⟨H0, ε, r, g, k⟩ => ⟨H0, ε, r, hg ε g, fun q H' vs hq f r' hv hz z => k q H' vs hq f r' hv hz (by rw [← hd ε g]; exact z)⟩⟩
theorem d_lc0 (hi : DI X B ow Γ true tg e c G xs (fun ε => ε)) (ok : BlkOk X.N X.env.scope scope own) (ht : TgR X.K c js g ft) (hg : ∀ (s : Shared) (H : Hp) (C : Addr) (cl : List (Str × Addr)) (fp : List Addr), PG (X.blk s H scope (compEnvC scope cl C X.env) fp) tg g)
    (hE : ∀ (s : Shared) (H : Hp) (C : Addr) (cl : List (Str × Addr)) (fp : List Addr) (B' : Bd), De (X.blk s H scope (compEnvC scope cl C X.env) fp) B' ow (fun q : E × α => ft q.2 (wipeG (Γ q.1) (own.map (·.2)))) true true elt ce Ge de (fun q => q))
    (hjv : ∀ j ∈ js, j ∈ own.map (·.2) := by decide) (hvo : ∀ j ∈ own.map (·.2), j ∉ ow := by decide) (hN : X.N.Nodup := by assumption) (hc : X.calm = true := by rfl) (hs : ∀ x, foldedSetIterable e X.env x = pure x := by intro _; rfl) :
    DL X B ow Γ true (.ListComp elt [⟨tg, e, [], 0⟩] scope pos) ce (fun ε => G ε ∧ ∀ x ∈ xs ε, Ge (ε, x)) (fun ε => (xs ε).map fun x => de (ε, x)) (fun ε => ε) :=
  (d_lc (pos := pos) hi ok ht hg (fun _ _ _ _ _ => dt_nil) hE hjv hvo hN hc hs).is (fun _ h => ⟨h.1, fun x hx => ⟨trivial, fun _ => h.2 x hx⟩⟩) fun _ _ => filt_true _
theorem s_asgLc0 (i : Nat) (hsw : swapsWith (.ListComp elt [⟨tg, e, [], 0⟩] scope pos) (some (.Name y py)) spos.line X.env = pure true) (hi : DI X B ow Γ true tg e c G xs (fun ε => ε)) (ok : BlkOk X.N X.env.scope scope own) (ht : TgR X.K c js g ft)
    (hg : ∀ (s : Shared) (H : Hp) (C : Addr) (cl : List (Str × Addr)) (fp : List Addr), PG (X.blk s H scope (compEnvC scope cl C X.env) fp) tg g)
    (hE : ∀ (s : Shared) (H : Hp) (C : Addr) (cl : List (Str × Addr)) (fp : List Addr) (B' : Bd), De (X.blk s H scope (compEnvC scope cl C X.env) fp) B' ow (fun q : E × α => ft q.2 (wipeG (Γ q.1) (own.map (·.2)))) true true elt ce Ge de (fun q => q))
    (hio : i ∉ ow := by decide) (hjv : ∀ j ∈ js, j ∈ own.map (·.2) := by decide) (hvo : ∀ j ∈ own.map (·.2), j ∉ ow := by decide) (hy : X.N[i]? = some y := by rfl) (hyl : X.env.scope.names.lookup y = some .local := by rfl)
    (hN : X.N.Nodup := by assumption) (hc : X.calm = true := by rfl) (hs : ∀ x, foldedSetIterable e X.env x = pure x := by intro _; rfl) :
    Ds X B ow Γ cr ci owS ΓS (.Assign [.Name y py] (.ListComp elt [⟨tg, e, [], 0⟩] scope pos) spos) (fun ε => G ε ∧ ∀ x ∈ xs ε, Ge (ε, x)) (fun ε => .nx (ε, (xs ε).map fun x => de (ε, x))) ow
      (fun q : E × List β => (Γ q.1).set i (some (cL ce q.2))) :=
  (s_asgLc i hsw hi ok ht hg (fun _ _ _ _ _ => dt_nil) hE hio hjv hvo hy hyl hN hc hs).is (fun _ h => ⟨h.1, fun x hx => ⟨trivial, fun _ => h.2 x hx⟩⟩) fun _ _ => by rw [filt_true]
theorem s_ownLc0 (i : Nat) (hsw : swapsWith (.ListComp elt [⟨tg, e, [], 0⟩] scope pos) (some (.Name y py)) spos.line X.env = pure true) (hi : DI X B ow Γ true tg e c G xs (fun ε => ε)) (ok : BlkOk X.N X.env.scope scope own) (ht : TgR X.K c js g ft)
    (hg : ∀ (s : Shared) (H : Hp) (C : Addr) (cl : List (Str × Addr)) (fp : List Addr), PG (X.blk s H scope (compEnvC scope cl C X.env) fp) tg g)
    (hE : ∀ (s : Shared) (H : Hp) (C : Addr) (cl : List (Str × Addr)) (fp : List Addr) (B' : Bd), De (X.blk s H scope (compEnvC scope cl C X.env) fp) B' ow (fun q : E × α => ft q.2 (wipeG (Γ q.1) (own.map (·.2)))) true true elt ce Ge de (fun q => q))
    {ow' : List Nat} (hl : ∀ ε, i < (Γ ε).length) (h' : ∀ j, j ∈ ow' ↔ j ∈ ow ∨ j = i) (h0 : B.io ≠ none → i ≠ 0) (hjv : ∀ j ∈ js, j ∈ own.map (·.2) := by decide) (hvo : ∀ j ∈ own.map (·.2), j ∉ ow := by decide) (hy : X.N[i]? = some y := by rfl)
    (hyl : X.env.scope.names.lookup y = some .local := by rfl) (hN : X.N.Nodup := by assumption) (hc : X.calm = true := by rfl) (hs : ∀ x, foldedSetIterable e X.env x = pure x := by intro _; rfl) :
    Ds X B ow Γ cr ci owS ΓS (.Assign [.Name y py] (.ListComp elt [⟨tg, e, [], 0⟩] scope pos) spos) (fun ε => G ε ∧ ∀ x ∈ xs ε, Ge (ε, x)) (fun ε => .nx (ε, (xs ε).map fun x => de (ε, x))) ow'
      (fun q : E × List β => (Γ q.1).set i (some (.list (q.2.map ce)))) :=
  (s_ownLc i hsw hi ok ht hg (fun _ _ _ _ _ => dt_nil) hE hl h' h0 hjv hvo hy hyl hN hc hs).is (fun _ h => ⟨h.1, fun x hx => ⟨trivial, fun _ => h.2 x hx⟩⟩) fun _ _ => by rw [filt_true]

/-! ### targets within targets -/
theorem tg_nest {K : Frag} {γ' : Type} {ca : α → D} {cb : β → D} {cc : γ' → D} (i j l : Nat) : TgR K (c2 ca (c2 cb cc)) [i, j, l] (gTup K 2 (gCons (gName i) (gCons (gTup K 2 (gCons (gName j) (gCons (gName l) gNil))) gNil))) fun q γ => ((γ.set i (some (ca q.1))).set j (some (cb q.2.1))).set l (some (cc q.2.2)) := fun B H0 ow σ H γ v q Q hj r z k => by
  obtain ⟨a, xs, rfl, n, lz⟩ := z.tup_inv
  obtain ⟨x, y, rfl, z1, z2⟩ := fzl2 (ds := []) lz
  have e1 : ∀ u : Option V, oa (σ.set i u) ow = oa σ ow := fun u => oa_set (hj i (by simp))
  have r1 := r.set (hj i (by simp)) z1
  refine ⟨a, _, rfl, n.sq, rfl, x, _, rfl, y, [], rfl, ?_⟩
  refine (tg_pair (K := K) (ca := cb) (cb := cc) j l) B H0 ow _ H _ y q.2 _ (fun m hm => hj m (List.mem_cons_of_mem _ hm)) r1 (by unfold Bd.full; rw [e1]; exact z2) fun σ' r' h1 h2 => ⟨rfl, k σ' r' (fun m hm => ?_) (by rw [h2]; simp)⟩
  rw [h1 m fun z => hm (List.mem_cons_of_mem _ z), List.getElem?_set_ne fun e => hm (by simp [e])]
end
/-- room for what sorts, compares -/
theorem room_un {k : Nat} {A : Around} (r : Room k A) : A.units + 200 < cLine := by have := r.un; omega
theorem room_65 {k : Nat} {A : Around} (r : Room k A) : A.units + 65 < cLine := by have := r.un; omega
end Y
namespace Y
open PySem PySem.Spec PyProof.Rows L2

@[reducible] def c5 {α β γ δ η : Type} (a : α → D) (b : β → D) (c : γ → D) (d : δ → D) (e : η → D) : α × β × γ × δ × η → D := fun p => .tuple [a p.1, b p.2.1, c p.2.2.1, d p.2.2.2.1, e p.2.2.2.2]
@[reducible] def c6 {α β γ δ η θ : Type} (a : α → D) (b : β → D) (c : γ → D) (d : δ → D) (e : η → D) (f : θ → D) : α × β × γ × δ × η × θ → D := fun p => .tuple [a p.1, b p.2.1, c p.2.2.1, d p.2.2.2.1, e p.2.2.2.2.1, f p.2.2.2.2.2]
section
variable {X : Cx} {B : Bd} {ow : List Nat} {E α β γ δ η θ : Type} {Γ : E → List (Option D)} {p s : Bool} {es : List Expr} {pos : Pos} {a : α → D} {b : β → D} {c : γ → D} {d : δ → D} {e : η → D} {f : θ → D} {G : E → Prop} {u : E → E} {x1 : Nat}
/-- fixed tuples -/
theorem d_tp0 : De X B ow Γ true s (.Tuple [] x1 pos) (cT a) (fun _ => True) (fun _ => []) (fun ε => ε) :=
  (d_tup (cs := an) (ct := fun _ => .tuple []) (fun _ => rfl) (fun _ => Nat.zero_le _) a_nil).as (c' := cT a) (g := fun _ => []) fun _ => rfl
theorem d_tp1 {v : E → α × Unit} (h : DA X B ow Γ p s es (ac a an) G v u) : De X B ow Γ p s (.Tuple es x1 pos) (c1 a) G (fun ε => (v ε).1) u :=
  (d_tup (ct := fun q : α × Unit => .tuple (ac a an q)) (fun _ => rfl) (fun _ => Nat.le_of_ble_eq_true rfl) h).as (c' := c1 a) (g := fun q : α × Unit => q.1) fun _ => rfl
theorem d_tp2 {v : E → α × β × Unit} (h : DA X B ow Γ p s es (ac a (ac b an)) G v u) : De X B ow Γ p s (.Tuple es x1 pos) (c2 a b) G (fun ε => ((v ε).1, (v ε).2.1)) u :=
  (d_tup (ct := fun q : α × β × Unit => .tuple (ac a (ac b an) q)) (fun _ => rfl) (fun _ => Nat.le_of_ble_eq_true rfl) h).as (c' := c2 a b) (g := fun q : α × β × Unit => (q.1, q.2.1)) fun _ => rfl
theorem d_tp3 {v : E → α × β × γ × Unit} (h : DA X B ow Γ p s es (ac a (ac b (ac c an))) G v u) : De X B ow Γ p s (.Tuple es x1 pos) (c3 a b c) G (fun ε => ((v ε).1, (v ε).2.1, (v ε).2.2.1)) u :=
  (d_tup (ct := fun q : α × β × γ × Unit => .tuple (ac a (ac b (ac c an)) q)) (fun _ => rfl) (fun _ => Nat.le_of_ble_eq_true rfl) h).as (c' := c3 a b c) (g := fun q : α × β × γ × Unit => (q.1, q.2.1, q.2.2.1)) fun _ => rfl
theorem d_tp4 {v : E → α × β × γ × δ × Unit} (h : DA X B ow Γ p s es (ac a (ac b (ac c (ac d an)))) G v u) : De X B ow Γ p s (.Tuple es x1 pos) (c4 a b c d) G (fun ε => ((v ε).1, (v ε).2.1, (v ε).2.2.1, (v ε).2.2.2.1)) u :=
  (d_tup (ct := fun q : α × β × γ × δ × Unit => .tuple (ac a (ac b (ac c (ac d an))) q)) (fun _ => rfl) (fun _ => Nat.le_of_ble_eq_true rfl) h).as (c' := c4 a b c d) (g := fun q : α × β × γ × δ × Unit => (q.1, q.2.1, q.2.2.1, q.2.2.2.1)) fun _ => rfl
theorem d_tp5 {v : E → α × β × γ × δ × η × Unit} (h : DA X B ow Γ p s es (ac a (ac b (ac c (ac d (ac e an))))) G v u) : De X B ow Γ p s (.Tuple es x1 pos) (c5 a b c d e) G (fun ε => ((v ε).1, (v ε).2.1, (v ε).2.2.1, (v ε).2.2.2.1, (v ε).2.2.2.2.1)) u :=
  (d_tup (ct := fun q : α × β × γ × δ × η × Unit => .tuple (ac a (ac b (ac c (ac d (ac e an)))) q)) (fun _ => rfl) (fun _ => Nat.le_of_ble_eq_true rfl) h).as (c' := c5 a b c d e) (g := fun q : α × β × γ × δ × η × Unit => (q.1, q.2.1, q.2.2.1, q.2.2.2.1, q.2.2.2.2.1)) fun _ => rfl
/-- tuples, lists of one kind -/
theorem d_tpT {cs : β → List D} {v : E → β} (g : β → List α) (hc : ∀ x, cs x = (g x).map a) (hl : ∀ x, (g x).length ≤ 1000) (h : DA X B ow Γ p s es cs G v u) : De X B ow Γ p s (.Tuple es x1 pos) (cT a) G (fun ε => g (v ε)) u :=
  (d_tup (ct := fun q => .tuple (cs q)) (fun _ => rfl) (fun q => by rw [hc, List.length_map]; exact hl q) h).as (c' := cT a) (g := g) fun q => by
    show PyData.tuple (cs q) = .tuple ((g q).map a)
    rw [hc]
theorem l_nil : DL X B ow Γ true (.List [] pos) a (fun _ => True) (fun _ => []) (fun ε => ε) := l_disp (cs := an) (g := fun _ => []) (fun _ => rfl) (fun _ => Nat.zero_le _) a_nil
theorem l_dispE {cs : β → List D} {v : E → β} (g : β → List α) (hc : ∀ x, cs x = (g x).map a) (hl : ∀ x, (g x).length ≤ 1000) (h : DA X B ow Γ false true es cs G v u) : De X B ow Γ false true (.List es pos) (cL a) G (fun ε => g (v ε)) u :=
  l_dispX hc hl h
end
section
variable {M R S α β : Type}
theorem ends_ret {c : β → D} {cr : R → D} (g : R → β) (hg : ∀ r, cr r = c (g r)) (o : Out Empty R Empty) : Ends cr c o (g o.ret) := by
  cases o with
  | rt r => exact hg r
  | nx e => exact nomatch e
  | bk e => exact nomatch e
  | ct e => exact nomatch e
theorem ends_und (o : Out M Unit Empty) : Ends cN cN o () := by
  cases o with
  | rt r => rfl
  | nx e => rfl
  | bk e => exact nomatch e
  | ct e => exact nomatch e
theorem ret_ex {c : β → D} {τ : Type} {cb : τ → List D} (o : Out Empty (β × τ) Empty) : ∃ r, o = .rt r ∧ (fun q : β × τ => c q.1) r = c o.ret.1 ∧ (fun q : β × τ => cb q.2) r = cb o.ret.2 := by
  cases o with
  | rt r => exact ⟨r, rfl, rfl, rfl⟩
  | nx e => exact nomatch e
  | bk e => exact nomatch e
  | ct e => exact nomatch e
@[simp] theorem ret_rt (r : R) : (Out.rt r : Out Empty R Empty).ret = r := rfl
@[simp] theorem ret_ite {c : Prop} [Decidable c] (a b : Out Empty R Empty) : (if c then a else b).ret = if c then a.ret else b.ret := by split <;> rfl
@[simp] theorem bind_ite {N : Type} {c : Prop} [Decidable c] (a b : Out M R S) (k : M → Out N R S) : (if c then a else b).bind k = if c then a.bind k else b.bind k := by split <;> rfl
end
/-- the state of a law -/
abbrev St4 := List Int × Int × Int × Int
abbrev cSt : St4 → List D := fun t => [.list (t.1.map cI), .int t.2.1, .int t.2.2.1, .int t.2.2.2]
end Y
namespace Y
open PySem PySem.Spec PyProof.Rows L2
instance {N R S : Type} [Inhabited R] : Inhabited (Out N R S) := ⟨.rt default⟩
theorem keep_nx {E M R S : Type} {o : Out M R S} {ε : E} {n : E × M} (e : o.keep ε = .nx n) (P : E × M → Prop) (h : ∀ m, o = .nx m → P (ε, m)) : P n := by
  cases o with
  | nx m =>
    cases e
    exact h m rfl
  | rt r => cases e
  | bk r => cases e
  | ct r => cases e
section
variable {X : Cx} {B : Bd} {ow ow1 ow' owS : List Nat} {E M N R S : Type} {Γ : E → List (Option D)} {Γ1 : E × M → List (Option D)} {Γ' : N → List (Option D)} {ΓS : S → List (Option D)} {cr : R → D} {ci : R → List D} {st : Stmt} {sts a b : List Stmt} {G1 G Ga Gb : E → Prop} {G2 : E × M → Prop} {oL : E → Out M R S} {ue : E → E} {d2 : E × M → Out N R S} {e : Expr} {pos : Pos} {p : Bool} {t : E → Bool} {u : E → E}
/-- a loop that may leave, the rest -/
theorem s_consK (h1 : Ds X B ow Γ cr ci owS ΓS st G1 (fun ε => (oL ε).keep (ue ε)) ow1 Γ1) (h2 : Dss X B ow1 Γ1 cr ci owS ΓS sts G2 d2 ow' Γ') :
    Dss X B ow Γ cr ci owS ΓS (st :: sts) (fun ε => G1 ε ∧ ∀ m, oL ε = .nx m → G2 (ue ε, m)) (fun ε => (oL ε).bind fun m => d2 (ue ε, m)) ow' Γ' :=
  (s_consM h1 h2).is (fun ε h => ⟨h.1, fun n e => keep_nx e G2 h.2⟩) fun ε _ => by
    show (Out.keep (oL ε) (ue ε)).bind d2 = _
    cases oL ε <;> rfl
/-- if that may leave, the rest -/
theorem s_ifK {da db : E → Out (E × M) R S} {oa ob : E → Out M R S} (ht : Dt X B ow Γ p e G t u) (ha : Dss X B ow Γ cr ci owS ΓS a Ga da ow1 Γ1) (hb : Dss X B ow Γ cr ci owS ΓS b Gb db ow1 Γ1) (hka : ∀ ε, da ε = (oa ε).keep ε) (hkb : ∀ ε, db ε = (ob ε).keep ε) :
    Ds X B ow Γ cr ci owS ΓS (.If e a b pos) (fun ε => G ε ∧ (t ε = true → Ga (u ε)) ∧ (t ε = false → Gb (u ε))) (fun ε => (if t ε = true then oa (u ε) else ob (u ε)).keep (u ε)) ow1 Γ1 :=
  (s_ifM ht ha hb).is (fun _ h => h) fun ε _ => by
    rw [hka, hkb]
    cases t ε <;> rfl
variable {τ : Type} {p1 p2 : Bool} {e1 e2 : Expr} {es : List Expr} {t1 t2 : E → Bool} {u1 u2 : E → E} {s1 s2 : E → τ} {H1 H2 : E → Prop}
theorem Dw.un {u' : E → E} (h : Dw X B ow Γ p e G t u) (hu : ∀ ε, u ε = u' ε) : Dw X B ow Γ p e G t u' := by
  have : u = u' := funext hu
  rw [← this]; exact h
theorem w_andS (put : E → τ → E) (h1 : Dt X B ow Γ p1 e1 H1 t1 u1) (h2 : Dw X B ow Γ p2 (.BoolOp .And (e2 :: es) pos) H2 t2 u2) (q1 : ∀ ε, u1 ε = put ε (s1 ε)) (q2 : ∀ ε, u2 (u1 ε) = put ε (s2 ε)) :
    Dw X B ow Γ (p1 && p2) (.BoolOp .And (e1 :: e2 :: es) pos) (fun ε => H1 ε ∧ (t1 ε = true → H2 (u1 ε))) (fun ε => t1 ε && t2 (u1 ε)) (fun ε => put ε (if t1 ε = true then s2 ε else s1 ε)) :=
  (w_and h1 h2).un fun ε => by
    cases t1 ε
    · exact q1 ε
    · exact q2 ε
theorem w_orS (put : E → τ → E) (h1 : Dt X B ow Γ p1 e1 H1 t1 u1) (h2 : Dw X B ow Γ p2 (.BoolOp .Or (e2 :: es) pos) H2 t2 u2) (q1 : ∀ ε, u1 ε = put ε (s1 ε)) (q2 : ∀ ε, u2 (u1 ε) = put ε (s2 ε)) :
    Dw X B ow Γ (p1 && p2) (.BoolOp .Or (e1 :: e2 :: es) pos) (fun ε => H1 ε ∧ (t1 ε = false → H2 (u1 ε))) (fun ε => t1 ε || t2 (u1 ε)) (fun ε => put ε (if t1 ε = true then s1 ε else s2 ε)) :=
  (w_or h1 h2).un fun ε => by
    cases t1 ε
    · exact q2 ε
    · exact q1 ε
end
end Y
namespace Y
open PySem PySem.Spec PyProof.Rows L2

/-! ### repr -/
def rRepr (K : Frag) : List V → Hp → VK → Prop := fun vs H Q => ∃ (v : V) (d : D), vs = [v] ∧ Dp K H v d ∧ d.showable = true ∧ d.hasDict = false ∧ d.depth ≤ 64 ∧ d.shown.length ≤ sizeLine ∧ Q (.str d.shown) H
section
variable {X : Cx}
theorem cr_repr (hgd : X.A.guards = some []) (hu : X.A.units + 200 < cLine) : CallR X (.builtin "repr") (rRepr X.K) := by
  intro pins s σ H vs us Q I r h
  obtain ⟨v, d, rfl, hd, h1, h2, h3, h4, q⟩ := h
  obtain ⟨u, rfl, ru⟩ := vals1 r
  have fin : ∀ (tk : Nat), EP X pins σ Q (.str d.shown tk) { s with toks := tk + 1 } := fun tk => ⟨.str _, H, I.tok _, ⟨_, rfl⟩, q⟩
  cases d with
  | none =>
    cases hd
    obtain rfl : u = Value.none := ru
    exact PySem.P.repr_of_none (fin _)
  | bool b =>
    cases hd
    obtain rfl : u = Value.bool b := ru
    exact PySem.P.repr_of_bool (fin _)
  | int i =>
    cases hd
    obtain ⟨t, rfl⟩ := ru
    exact PySem.P.repr_of_int (by simpa [PyData.showable] using h1) (fin _)
  | str x =>
    cases hd
    obtain ⟨t, rfl⟩ := ru
    exact PySem.P.repr_of_str (fin _) h4
  | list ds =>
    obtain ⟨as, rd⟩ := Dp.reads I _ v u hd ru
    cases hd with
    | lst hs ha =>
      cases ru
      exact repr_of_reads' rd h1 (fun e => by rw [h2] at e; cases e) hgd (by omega) (fun _ _ e => e) (fun h' t tk hk => ⟨.str _, H, I.kept hk, ⟨_, rfl⟩, q⟩) h4
  | tuple ds =>
    obtain ⟨as, rd⟩ := Dp.reads I _ v u hd ru
    cases hd with
    | tup hs ha =>
      cases ru
      exact repr_of_reads' rd h1 (fun e => by rw [h2] at e; cases e) hgd (by omega) (fun _ _ e => e) (fun h' t tk hk => ⟨.str _, H, I.kept hk, ⟨_, rfl⟩, q⟩) h4
  | dict kvs => cases hd
end
/-- what may be shown -/
def Shw (d : D) : Prop := d.showable = true ∧ d.hasDict = false ∧ d.depth ≤ 64 ∧ d.shown.length ≤ 16777216
theorem v_repr {K : Frag} {α : Type} {c : α → D} : OpL K (rRepr K) (ac c an) cS (fun q => Shw (c q.1)) (fun q => (c q.1).shown) := fun A H q vs Q _ z hc k => by
  obtain ⟨v, rfl, z1⟩ := fzl1 (ds := []) z
  exact ⟨v, _, rfl, z1.dp, hc.1, hc.2.1, hc.2.2.1, by rw [sizeLine_eq]; exact hc.2.2.2, k _ H (Fr.refl _ _) (.str _)⟩

/-! ### a list of a known form, one's own: parts read and written -/
section
variable {X : Cx} {B : Bd} {ow owS : List Nat} {E R S α β τ : Type} {Γ : E → List (Option D)} {ΓS : S → List (Option D)} {cr : R → D} {ci : R → List D} {p s : Bool} {e : Expr} {pos px py : Pos} {G : E → Prop} {d : E → α} {u : E → E} {y : Str} {c : α → D}
theorem d_prjL {b : Expr} (n : Int) {cb : β → D} (g : α → β) (hc : ∀ x, ∃ ds, c x = .list ds ∧ atI ds n = some (cb (g x))) (h : De X B ow Γ p s e c G d u)
    (hb : De X B ow Γ true true b cI (fun _ => True) (fun _ => n) (fun ε => ε)) (hx : PlainIx b := by exact fun _ _ => rfl) : De X B ow Γ p s (.Subscript e b pos) cb G (fun ε => g (d ε)) u :=
  ⟨(pe_ix (pos := pos) ix_list h.pe hb.pe hx).weaken fun σ H Q ⟨H0, ε, rl, g1, k⟩ => ⟨H0, ε, rl, g1, fun v H1 f1 r1 z1 => ⟨H0, u ε, r1, trivial, fun w H2 f2 r2 z2 => by
    obtain ⟨ds, e1, e2⟩ := hc (d ε)
    rw [e1] at z1
    obtain ⟨a, vs, rfl, nd, l⟩ := z1.lst_inv
    cases z2.int_inv
    obtain ⟨v', e3, z⟩ := l.atI e2
    have f2' : Fr [] H1 H2 := f2
    exact ⟨a, vs, n, v', rfl, rfl, (nd.fr f2'.nil).sq, e3, k _ H2 (f1.trans f2'.nil) r2 (z.fr f2'.nil)⟩⟩⟩⟩
theorem s_setF {cs : τ → List D} (j : Nat) (n : Nat) (gt : E → τ) (new : τ → α → τ) (hnew : ∀ t a, cs (new t a) = (cs t).set n (c a)) (hn : ∀ t, n < (cs t).length) (hget : ∀ ε, (Γ ε)[j]? = some (some (.list (cs (gt ε))))) (he : De X B ow Γ p true e c G d u) {p1 : Pos} {k1 : Nat} (hj : j ∈ ow := by decide) (hN : X.N[j]? = some y := by rfl)
    (hv : Vis X.env.scope y := by first | exact Or.inl rfl | exact Or.inr (Or.inl rfl) | exact Or.inr (Or.inr rfl)) (hd : (y == ("__debug__" : Str)) = false := by decide) (hcd : (y == ("__classdict__" : Str)) = false := by decide)
    (ha : ∀ v, assign (.Subscript (.Name y py) (.Constant (.int (n : Nat)) k1 p1) px) X.env v = (do
      let ov ← holding [v] (eval (.Name y py) X.env)
      let iv ← holding [v, ov] (eval (.Constant (.int (n : Nat)) k1 p1) X.env)
      standAt px
      holding [v, ov, iv] (setItem ov iv v)
      release [v, ov, iv] []) := by intro _; rfl)
    (hs : swapsWithSole [.Subscript (.Name y py) (.Constant (.int (n : Nat)) k1 p1) px] e pos.line X.env = pure false := by rfl) (hw : swappedStores [.Subscript (.Name y py) (.Constant (.int (n : Nat)) k1 p1) px] e X.env = pure none := by rfl)
    (h1 : (assignEach [.Subscript (.Name y py) (.Constant (.int (n : Nat)) k1 p1) px] X.env).map (·.2) = [assign (.Subscript (.Name y py) (.Constant (.int (n : Nat)) k1 p1) px) X.env] := by rfl) :
    Ds X B ow Γ cr ci owS ΓS (.Assign [.Subscript (.Name y py) (.Constant (.int (n : Nat)) k1 p1) px] e pos) G (fun ε => .nx (u ε, new (gt (u ε)) (d ε))) ow (fun q : E × τ => (Γ q.1).set j (some (.list (cs q.2)))) :=
  ⟨(ps_asg he.pe (pg_sub (pe_var hN hv hd hcd) pe_int set_list ha) hs hw h1).weaken fun Dn σ H ⟨H0, ε, rl, g, k⟩ => ⟨H0, ε, rl, g, fun v H1 f1 r1 z1 => by
    obtain ⟨a, vs, ds, e1, e2, e3, e4⟩ := r1.own j _ hj (hget (u ε))
    injection e2 with e2
    subst e2
    have hl : vs.length = (cs (gt (u ε))).length := e4.length
    refine ⟨_, e1, a, vs, n, n, rfl, rfl, e3.1, ?_, ?_⟩
    · unfold ixN
      rw [if_pos (by omega), if_pos (by have := hn (gt (u ε)); omega)]
      simp
    · have ha : a ∈ B.full σ ow := mem_full.mpr (.inr (mem_oa.mpr ⟨j, hj, e1⟩))
      refine k _ _ (r1.write hj e1 (Fr.at (by simp)) upd_same (by rw [List.length_set]; exact e3.2) ?_)
      rw [hnew]
      exact (e4.fr (Fr.at ha)).set n (z1.fr (Fr.at ha))⟩⟩
end

theorem hfz_of {ow : List Nat} {γ γ' : List (Option D)} {x : Option D} (j : Nat) (hj : j ∈ ow) (h : γ' = γ.set j x) {i : Nat} {d : D} (hi : i ∉ ow) (e : γ[i]? = some (some d)) : γ'[i]? = some (some d) := by
  rw [h, List.getElem?_set_ne fun z => hi (by rw [← z]; exact hj)]
  exact e
theorem int_at {ns : List Int} {i : Nat} {x : V} (h : (ns.map V.int)[i]? = some x) : ∃ z, ns[i]? = some z ∧ x = .int z := by
  rw [List.getElem?_map] at h
  cases e : ns[i]? with
  | none => rw [e] at h; cases h
  | some z => rw [e] at h; injection h with h; exact ⟨z, rfl, h.symm⟩
/-! ### the law's start -/
def seedF (ns : List Int) : Int := ns.foldl (fun z c => (z * 48271 + c) % 2147483629 + 1) 7
def spStart (K : Frag) : Sp := fun vs H Q _ => ∃ (a : Addr) (ns : List Int), vs = [.ref a] ∧ SqL K H a (ns.map V.int) ∧ ns.length ≤ 63 ∧
  ∀ (q l : Addr) (H' : Hp), H q = none → H l = none → l ≠ q → Fr [] H H' → H' q = some (.lst [.ref l, .int 0, .int 0, .int (seedF ns)]) → H' l = some (.lst (ns.map V.int)) → Q (.ref q) H'
def spLaw (K : Frag) : Sp := fun vs H Q _ => ∃ (a : Addr) (ns : List Int), vs = [.ref a] ∧ SqL K H a (ns.map V.int) ∧ ns.length ≤ 63 ∧ ∀ H', Q (.bl true) H'
/-- the state as it may stand -/
def Wf (t : St4) : Prop := t.1.length ≤ 63 ∧ 0 ≤ t.2.1 ∧ 0 ≤ t.2.2.1 ∧ t.2.2.1 ≤ t.1.length ∧ 0 ≤ t.2.2.2 ∧ t.2.2.2 ≤ 2147483629
theorem seedF_ok (ns : List Int) : 0 ≤ seedF ns ∧ seedF ns ≤ 2147483629 := by
  unfold seedF
  have h : ∀ (xs : List Int) (z : Int), 0 ≤ z ∧ z ≤ 2147483629 → 0 ≤ xs.foldl (fun z c => (z * 48271 + c) % 2147483629 + 1) z ∧ xs.foldl (fun z c => (z * 48271 + c) % 2147483629 + 1) z ≤ 2147483629 := by
    intro xs
    induction xs with
    | nil => intro z h; exact h
    | cons x xs ih =>
      intro z h
      exact ih _ (by
        show 0 ≤ (z * 48271 + x) % 2147483629 + 1 ∧ (z * 48271 + x) % 2147483629 + 1 ≤ 2147483629
        omega)
  exact h ns 7 (by omega)
theorem seedF_take {ns : List Int} {i : Nat} {z : Int} (h : ns[i]? = some z) : seedF (ns.take (i + 1)) = (seedF (ns.take i) * 48271 + z) % 2147483629 + 1 := by
  unfold seedF
  rw [List.take_add_one, h, List.foldl_append]
  rfl
section
variable {P : Program} {w : World} {K : Frag} {mg : Str → Option Value} {base : Heap} {k : Nat} {f fS : Addr} {fd fdS : FuncData} {qual : Str} {st : Stmt} {N : List Str} {N' S' : Type}
theorem fn_law {owS ow' : List Nat} {ΓS : S' → List (Option D)} {Γ' : N' → List (Option D)} {G : St4 → Prop} {d : St4 → Out N' Bool S'} {px p1 p2 p3 p4 : Pos} {rest : List Stmt} (F : Fun K "law" qual st f fd) (m : Nat) (hN : N.length = m + 2) (S : FnScope N ["script"] (defScope st))
    (hbody : defBody st = .Assign [.Name "state" px] (.Call (.Name "_law_start" p1) [.Name "script" p2] [] p3) p4 :: rest) (GS : FnG P w K mg base k fS fdS ["script"] (spStart K)) (hm : mg "_law_start" = some (.ref fS)) (hk : PySem.W.keepIn K (.ref fS) = true) (hb : Binds K fdS ["script"] [])
    (body : ∀ (cdv : Value) (A : Around) (outer : List Env) (s : Shared) (H : Hp) (E : XK), Room k (A.deeper (envOfC qual (defScope st) s.heap.objs.size f cdv)) → A.guards = some [] →
      (∃ t, PS (XF P w K mg base N qual st f cdv A outer s H E) (.Assign [.Name "state" px] (.Call (.Name "_law_start" p1) [.Name "script" p2] [] p3) p4) t ∧ ∀ (a : Addr) (D : L2.Ends) (σ : L2.St) (H : Hp), σ = L2.start N [.ref a] → spStart K [.ref a] H (fun v H' => D.nx (σ.set 1 (some v)) H') E0 → t D σ H) ∧
      Dss (XF P w K mg base N qual st f cdv A outer s H E) ⟨[], [], none⟩ [1] (fun t : St4 => none :: some (.list (cSt t)) :: List.replicate m none) cB (fun _ => []) owS ΓS rest G d ow' Γ')
    (hG : ∀ t, Wf t → G t) (hd : ∀ t, Wf t → d t = .rt true) : FnG P w K mg base (k + 1) f fd ["script"] (spLaw K) := by
  refine fnG F S (fun vs H Q E ⟨a, ns, e, _⟩ => by rw [e]; rfl) fun cdv A outer s H vs Q E hr hg ⟨a, ns, e, hS, hlen, q⟩ => ?_
  subst e
  obtain ⟨⟨t, ht, hq⟩, hb2⟩ := body cdv A outer s H E hr hg
  rw [hbody]
  refine ⟨_, pss_cons ht hb2.pss, hq a _ _ _ rfl ⟨a, ns, rfl, hS, hlen, fun q' l H' h1 h2 h3 h4 h5 h6 => ?_⟩⟩
  have hw : Wf (ns, 0, 0, seedF ns) := ⟨hlen, Int.le_refl _, Int.le_refl _, (by show (0 : Int) ≤ (ns.length : Int); omega), seedF_ok ns⟩
  have es : L2.start N [V.ref a] = some (.ref a) :: none :: List.replicate m none := by
    unfold L2.start
    rw [hN]
    show some (V.ref a) :: List.replicate (m + 2 - 1) none = _
    rw [show m + 2 - 1 = m + 1 from rfl, List.replicate_succ]
  have eσ : (L2.start N [V.ref a]).set 1 (some (.ref q')) = some (.ref a) :: some (.ref q') :: List.replicate m none := by rw [es]; rfl
  refine ⟨H, (ns, 0, 0, seedF ns), ?_, hG _ hw, ?_⟩
  · rw [eσ]
    have ea : oa (some (V.ref a) :: some (V.ref q') :: List.replicate m none) [1] = [q'] := by simp [oa]
    have ef : (⟨[], [], none⟩ : Bd).full (some (V.ref a) :: some (V.ref q') :: List.replicate m none) [1] = [q'] := by simp [Bd.full, Bd.base, ea]
    refine ⟨by simp, fun i j a' hi hj _ _ => by rw [List.mem_singleton.mp hi, List.mem_singleton.mp hj], fun i d hi e => ?_, fun i d hi e => ?_, fun a' h => ?_, fun b o e _ => h4 b o e (by simp), fun a' h => ?_, fun a' h => absurd h (by simp), fun a' h => absurd h (by simp), fun p h => absurd h (by simp)⟩
    · match i with
      | 0 => simp at e
      | 1 => exact absurd (by simp) hi
      | i + 2 =>
        have e' : (List.replicate m (none : Option D))[i]? = some (some d) := by simpa using e
        have := List.eq_of_mem_replicate (List.mem_of_getElem? e')
        cases this
    · rw [List.mem_singleton.mp hi] at e ⊢
      have e' : PyData.list (cSt (ns, 0, 0, seedF ns)) = d := by simpa using e
      refine ⟨q', _, _, rfl, e'.symm, ⟨h5, by show 4 ≤ szN; decide⟩, ?_⟩
      rw [ef]
      exact .cons (.lst ⟨⟨by simp; exact h3, h6⟩, by rw [List.length_map]; show _ ≤ 16777216; omega⟩ (ints_fzl ns)) (.cons (.int _) (.cons (.int _) (.cons (.int _) .nil)))
    · rw [ea, List.mem_singleton] at h
      rw [h]
      exact ⟨_, h5⟩
    · rw [ea, List.mem_singleton] at h
      rw [h]
      exact .inl h1
  · rw [hd _ hw]
    intro v H' ex
    cases ex.2.1
    exact q H'
end
end Y
namespace Y
open PySem PySem.Spec PyProof.Rows L2

/-! ### the end of a law -/
theorem hp_law {P : Program} {w : World} {K : Frag} {mg mb : Str → Option Value} {k : Nat} {fa a : Addr} {fd : FuncData} {x : Str} {sp : Sp} {t1 : Shared} {vs : List Value} {ns : List Int} (KX : K.In t1.heap) (hns : t1.heap.Ns mainGlobals mg)
    (hb : t1.heap.Ns builtinsNs mb) (hbb : ∀ x : Str, x ≠ "__name__" → mb x = bootBuiltins x) (hlim : t1.heap.NoLimit) (hg : t1.gens = #[]) (ha : t1.heap.get? a = some { cls := .type "list", data := .seq vs.toArray }) (hl : ns.length ≤ sizeLine) (hr : Room k callerA)
    (F : ∀ base : Heap, K.In base → base.Ns mainGlobals mg → FnG P w K mg base k fa fd [x] sp) (hbind : ∀ (s : Shared) (u : Value), BindsTo s fd ⟨[u], []⟩ [(x, u)]) {H : Hp} (hO : Only H) (hsp : sp [.ref a] H (fun v _ => v = .bl true) E0)
    (hok : HOk P w H t1.heap) (hA : ∀ b, H b ≠ none → b = a) (hK : H a ≠ none → K.lookup a = none) :
    codeAny (model P w) callerA (.call (.ref fa) ⟨[.ref a], []⟩) (fun r s' => r = .ok (.ret (.bool true)) ∧ OldK t1.heap s'.heap ∧ s'.os = t1.os ∧ AllBare s'.gens) t1 := by
  have is_a : ∀ {b : Addr}, H b ≠ none → b = a := fun {b} h => hA b h
  have keepN : ∀ {b : Addr} {o : Obj} {es : Array DictEntry} {ep : Nat}, t1.heap.get? b = some o → o.data = .dict es ep → H b = none := fun {b o es ep} e d => Classical.byContradiction fun q => by
    have q2 := is_a q
    subst q2
    rw [ha] at e
    cases e
    have d2 : Data.seq vs.toArray _ = Data.dict es ep := d
    cases d2
  have nsK : ∀ {b : Addr} {m : Str → Option Value}, t1.heap.Ns b m → (hidT t1.heap H).Ns b m := fun {b m} h => by
    obtain ⟨o, es, ep, e, d, r⟩ := h
    exact ⟨o, es, ep, hidT_get e (keepN e d), d, r⟩
  have hKb : K.In (hidT t1.heap H) := fun b o e => hidT_get (KX b o e) (Classical.byContradiction fun q => by
    have q2 := is_a q
    subst q2
    rw [hK q] at e
    cases e)
  have hM : Mod K mg (hidT t1.heap H) := ⟨hKb, nsK hns, ⟨mb, nsK hb, hbb⟩, by obtain ⟨mc, h1, h2⟩ := hlim; exact ⟨mc, nsK h1, h2⟩⟩
  have env0 : Env0 P w K mg (hidT t1.heap H) callerA [] t1 H := ⟨rfl, hM, fun b o e => of_hidT e, Nat.le_of_eq (hidT_size _ _), trivial, fun b hb => absurd (show b ∈ ([] : List Addr) from hb) (by simp), hok, .of_eq hg⟩
  refine codeAny_mono ((F _ hKb (nsK hns)).run callerA [] t1 H ⟨[.ref a], []⟩ [.ref a] [.ref a] _ _ hr rfl env0 (hbind t1 (.ref a)) (.cons rfl .nil) hsp) fun r s' h => ?_
  match r, h with
  | .error e, h => exact (show False from h).elim
  | .ok .next, h => exact False.elim h
  | .ok .brk, h => exact False.elim h
  | .ok .cont, h => exact False.elim h
  | .ok (.ret u), h =>
    obtain ⟨v, H', os, bare, un, hok', r', q⟩ := h
    have q' : v = .bl true := q
    subst q'
    obtain rfl : u = Value.bool true := r'
    refine ⟨rfl, OldK.of_keep fun b o e => ?_, os, bare⟩
    rcases hO b with z | ⟨ob, xs, z⟩
    · exact un.keep b o e z (fun z => absurd (show b ∈ ([] : List Addr) from z) (by simp)) (by simp)
    · obtain ⟨e1, _⟩ := hok b _ z
      obtain ⟨e2, _⟩ := hok' b _ (un.frzs b ob _ z)
      rw [e] at e1
      cases e1
      exact e2
theorem fin_law {P : Program} {w : World} {K : Frag} {mg mb : Str → Option Value} {k : Nat} {fa a : Addr} {fd : FuncData} {x : Str} {t1 : Shared} {vs : List Value} {ns : List Int} (KX : K.In t1.heap) (hns : t1.heap.Ns mainGlobals mg)
    (hb : t1.heap.Ns builtinsNs mb) (hbb : ∀ x : Str, x ≠ "__name__" → mb x = bootBuiltins x) (hlim : t1.heap.NoLimit) (hg : t1.gens = #[]) (ha : t1.heap.get? a = some { cls := .type "list", data := .seq vs.toArray }) (hi : IntsAre vs ns) (hl : ns.length ≤ 63) (hr : Room k callerA)
    (F : ∀ base : Heap, K.In base → base.Ns mainGlobals mg → FnG P w K mg base k fa fd [x] (spLaw K)) (hbind : ∀ (s : Shared) (u : Value), BindsTo s fd ⟨[u], []⟩ [(x, u)]) :
    codeAny (model P w) callerA (.call (.ref fa) ⟨[.ref a], []⟩) (fun r s' => r = .ok (.ret (.bool true)) ∧ OldK t1.heap s'.heap ∧ s'.os = t1.os ∧ AllBare s'.gens) t1 := by
  have rv := vals_ints hi
  have lenV := hi.length
  have hz : ns.length ≤ sizeLine := by rw [sizeLine_eq]; omega
  cases hk : K.lookup a with
  | some o =>
    have e := KX a o hk
    rw [ha] at e
    cases e
    have hS : SqL K (fun _ => none) a (ns.map V.int) := .inr ⟨_, vs.toArray, _, hk, rfl, rfl, rfl, by rw [List.size_toArray, lenV]; exact hz, by simpa using rv⟩
    exact hp_law (H := fun _ => none) KX hns hb hbb hlim hg ha hz hr F hbind (fun _ => .inl rfl) ⟨a, ns, rfl, hS, hl, fun _ => rfl⟩ (fun b u z => by cases z) (fun b z => absurd rfl z) fun z => absurd rfl z
  | none =>
    have at_a : ∀ {b : Addr} {u : HO}, (if b = a then some (HO.frz { cls := .type "list", data := .seq vs.toArray } (.lst (ns.map V.int))) else none) = some u → b = a ∧ u = .frz { cls := .type "list", data := .seq vs.toArray } (.lst (ns.map V.int)) := fun {b u} z => by
      by_cases h : b = a
      · rw [if_pos h] at z
        injection z with z
        exact ⟨h, z.symm⟩
      · rw [if_neg h] at z
        cases z
    refine hp_law (H := fun b => if b = a then some (.frz { cls := .type "list", data := .seq vs.toArray } (.lst (ns.map V.int))) else none) KX hns hb hbb hlim hg ha hz hr F hbind (fun b => ?_) ⟨a, ns, rfl, .inl (.inr ⟨_, if_pos rfl⟩), hl, fun _ => rfl⟩ (fun b u z => ?_) (fun b z => ?_) fun _ => hk
    · by_cases h : b = a
      · exact .inr ⟨_, _, if_pos h⟩
      · exact .inl (if_neg h)
    · obtain ⟨h1, h2⟩ := at_a z
      subst h1 h2
      exact ⟨ha, by rw [List.length_map]; exact hz, vs, _, rv, ha⟩
    · by_cases h : b = a
      · exact h
      · exact absurd (if_neg h) z
theorem walk_law {l : PySem.W.OpenLaw} {k : Nat} {q : Program} {loose : List Str} {XP : (Str → Option Value) → Heap → Prop} {YP : World → Heap → Prop} {d : DefRec} {K : Params → Frag} {x : Str} (hn : l.most = some 63) (hdf : d.params.defaults = []) (hr : Room k callerA)
    (hY : ∀ (w : World) (h : Heap), YP w h → (K w.params).In h)
    (F : ∀ (w : World) (mg : Str → Option Value) (fa : Addr) (h : Heap), (K w.params).In h → h.Ns mainGlobals mg → mg d.name = some (.ref fa) →
      ∃ fd : FuncData, (∀ (s : Shared) (u : Value), BindsTo s fd ⟨[u], []⟩ [(x, u)]) ∧ ∀ base : Heap, (K w.params).In base → base.Ns mainGlobals mg → FnG l.prog w (K w.params) mg base k fa fd [x] (spLaw (K w.params))) :
    PySem.W.WalkO q loose XP YP l.row.toRowW d [] (fun f vs => PySem.call f vs) := by
  refine Att.attach_call hn hdf fun w s0 t1 mg mb fa o pm cd doc a vs ns G Z ho hd hcd hmg hobj hints hlen hg => ?_
  have KX := hY w _ Z
  obtain ⟨fd, hbd, hF⟩ := F w mg fa _ KX G.T.g hmg
  exact fin_law KX G.T.g G.T.b G.T.builtins G.T.nolimit hg hobj hints hlen hr hF hbd
end Y
namespace Y
open PySem PySem.Spec PyProof.Rows L2

/-! ### plain facts of the mirrors' words -/
section
variable {α β τ : Type}
theorem ixD_of [Inhabited α] {xs : List α} {k : Nat} {v : α} (h : xs[k]? = some v) : ixD xs (k : Int) = v := by
  unfold ixD
  rw [atI_nat h]
  rfl
theorem ixD_get [Inhabited α] {xs : List α} {k : Nat} (h : k < xs.length) : ixD xs (k : Int) = xs[k] := ixD_of (List.getElem?_eq_getElem h)
theorem cix_nat {xs : List α} {k : Nat} (h : k < xs.length) : CIx xs (k : Int) := ⟨by omega, by omega⟩
theorem cix_of {xs : List α} {i : Int} (h0 : 0 ≤ i) (h1 : i < xs.length) : CIx xs i := ⟨by omega, h1⟩
theorem ixD_mem [Inhabited α] {xs : List α} {i : Int} (h0 : 0 ≤ i) (h1 : i < xs.length) : ixD xs i ∈ xs := by
  obtain ⟨k, rfl⟩ := Int.eq_ofNat_of_zero_le h0
  have h : k < xs.length := by omega
  rw [ixD_get h]
  exact List.getElem_mem h
theorem mem_rng {a b x : Int} : x ∈ rng a b ↔ a ≤ x ∧ x < b := by
  unfold rng
  rw [List.mem_map]
  constructor
  · rintro ⟨i, h, rfl⟩
    rw [List.mem_range] at h
    omega
  · intro h
    exact ⟨(x - a).toNat, by rw [List.mem_range]; omega, by omega⟩
theorem rng_eq (n : Nat) : rng 0 (n : Int) = (List.range n).map fun (i : Nat) => (i : Int) := by
  unfold rng
  have e : ((n : Int) - 0).toNat = n := by omega
  rw [e]
  exact List.map_congr_left fun i _ => by omega
theorem cut_take {xs : List α} {i : Int} (h : 0 ≤ i) : cut xs none (some i) = xs.take i.toNat := by
  obtain ⟨k, rfl⟩ := Int.eq_ofNat_of_zero_le h
  unfold cut
  rw [HT.sIx_none, HT.sIx_nat, List.drop_zero, Nat.sub_zero, Int.toNat_natCast]
  rcases Nat.le_total k xs.length with h | h
  · rw [Nat.min_eq_left h]
  · rw [Nat.min_eq_right h, List.take_length, List.take_of_length_le h]
theorem cut_drop {xs : List α} {i : Int} (h : 0 ≤ i) : cut xs (some i) none = xs.drop i.toNat := by
  obtain ⟨k, rfl⟩ := Int.eq_ofNat_of_zero_le h
  unfold cut
  rw [HT.sIx_none, HT.sIx_nat, Int.toNat_natCast]
  rcases Nat.le_total k xs.length with h | h
  · rw [Nat.min_eq_left h, List.take_of_length_le (by simp)]
  · rw [Nat.min_eq_right h, List.drop_of_length_le h, List.drop_length]
    simp
theorem enum_eq (xs : List α) (k : Nat) (h : k < (enum xs).length) : (enum xs)[k] = ((k : Int), xs[k]'(by rw [enum_length] at h; exact h)) := by
  have h' : k < xs.length := by rw [enum_length] at h; exact h
  have e := enum_get xs k
  rw [List.getElem?_eq_getElem h, List.getElem?_eq_getElem h'] at e
  exact Option.some.inj e
/-- a loop by what holds at each turn, no turn leaving -/
theorem for_inv {R S T : Type} {g : T × α → Prop} {f : T × α → Out T R T} (P : T → Prop) : ∀ (xs : List α) (t : T), P t → (∀ t x, P t → x ∈ xs → g (t, x) ∧ ∃ t', f (t, x) = .nx t' ∧ P t') → forG g f t xs ∧ ∃ t', forO (S := S) f t xs = .nx t' ∧ P t'
  | [], t, h, _ => ⟨trivial, t, rfl, h⟩
  | x :: xs, t, h, k => by
    obtain ⟨h1, t', h2, h3⟩ := k t x h List.mem_cons_self
    obtain ⟨i1, t2, i2, i3⟩ := for_inv P xs t' h3 fun t y p m => k t y p (List.mem_cons_of_mem _ m)
    refine ⟨⟨h1, ?_⟩, t2, ?_, i3⟩
    · rw [h2]; exact i1
    · rw [forO, h2]; exact i2
theorem for_use {R S T : Type} {g : T × α → Prop} {f : T × α → Out T R T} {xs : List α} {t : T} (P : T → Prop) {G' : T → Prop} {Z : Out T R S → Prop} (h0 : P t) (k : ∀ t x, P t → x ∈ xs → g (t, x) ∧ ∃ t', f (t, x) = .nx t' ∧ P t') (rest : ∀ t', P t' → G' t' ∧ Z (.nx t')) :
    (forG g f t xs ∧ ∀ l, forO (S := S) f t xs = .nx l → G' l) ∧ Z (forO f t xs) := by
  obtain ⟨h1, t', h2, h3⟩ := for_inv (S := S) P xs t h0 k
  obtain ⟨r1, r2⟩ := rest t' h3
  rw [h2]
  exact ⟨⟨h1, fun l e => by injection e with e; rw [← e]; exact r1⟩, r2⟩
theorem forO_use {R S T : Type} {f : T × α → Out T R T} {xs : List α} {t : T} (P : T → Prop) {Z : Out T R S → Prop} (h0 : P t) (k : ∀ t x, P t → x ∈ xs → ∃ t', f (t, x) = .nx t' ∧ P t') (rest : ∀ t', P t' → Z (.nx t')) : Z (forO f t xs) := by
  obtain ⟨_, t', h2, h3⟩ := for_inv (g := fun _ => True) (S := S) P xs t h0 fun t x p m => ⟨trivial, k t x p m⟩
  rw [h2]
  exact rest t' h3
theorem forG_use {R T : Type} {g : T × α → Prop} {f : T × α → Out T R T} {xs : List α} {t : T} (P : T → Prop) (h0 : P t) (k : ∀ t x, P t → x ∈ xs → g (t, x) ∧ ∃ t', f (t, x) = .nx t' ∧ P t') : forG g f t xs := (for_inv (S := Unit) P xs t h0 k).1
/-- items drawn one by one -/
theorem lcS_inv {g : τ → α → Prop} {f : τ → α → β × τ} (P : τ → Prop) (Q : β → Prop) : ∀ (xs : List α) (s : τ), P s → (∀ s x, P s → x ∈ xs → g s x ∧ Q (f s x).1 ∧ P (f s x).2) → lcG g f s xs ∧ (∀ y ∈ (lcS f s xs).1, Q y) ∧ P (lcS f s xs).2 ∧ (lcS f s xs).1.length = xs.length
  | [], s, h, _ => ⟨trivial, fun _ z => (by cases z), h, rfl⟩
  | x :: xs, s, h, k => by
    obtain ⟨h1, h2, h3⟩ := k s x h List.mem_cons_self
    obtain ⟨i1, i2, i3, i4⟩ := lcS_inv P Q xs (f s x).2 h3 fun s y p m => k s y p (List.mem_cons_of_mem _ m)
    refine ⟨⟨h1, i1⟩, fun y hy => ?_, i3, by simp only [lcS, List.length_cons, i4]⟩
    rcases List.mem_cons.mp hy with rfl | hy
    · exact h2
    · exact i2 y hy
end

/-! ### what is shown -/
structure Sw (n k : Nat) (x : D) : Prop where
  s : x.showable = true
  h : x.hasDict = false
  d : x.depth ≤ k
  l : x.shown.length ≤ n
theorem Sw.shw {n k : Nat} {d : D} (x : Sw n k d) (hn : n ≤ 16777216) (hk : k ≤ 64) : Shw d := ⟨x.s, x.h, Nat.le_trans x.d hk, Nat.le_trans x.l hn⟩
theorem sw_int {i : Int} (h : i.natAbs.log2 < 200) : Sw 201 0 (.int i) :=
  ⟨by simp only [PyData.showable, decide_eq_true_eq]; omega, by simp [PyData.hasDict], by simp [PyData.depth], by
    have e := int_text_length_le (k := 200) (by decide) h
    show (Str.ofString (toString i)).length ≤ 201
    rw [PySem.ofString_length]; exact e⟩
theorem log2_lt {i : Int} {k : Nat} (h : i.natAbs < 2 ^ (k + 1)) : i.natAbs.log2 < k + 1 := by
  by_cases h0 : i.natAbs = 0
  · rw [h0, Nat.log2_zero]; omega
  · exact (Nat.log2_lt h0).mpr h
theorem sw_bool (b : Bool) : Sw 5 0 (.bool b) := ⟨by simp [PyData.showable], by simp [PyData.hasDict], by simp [PyData.depth], by cases b <;> decide⟩
theorem sw_none : Sw 4 0 .none := ⟨by simp [PyData.showable], by simp [PyData.hasDict], by simp [PyData.depth], by decide⟩
theorem Sw.mono {n k n' k' : Nat} {d : D} (x : Sw n k d) (hn : n ≤ n') (hk : k ≤ k') : Sw n' k' d := ⟨x.s, x.h, Nat.le_trans x.d hk, Nat.le_trans x.l hn⟩
theorem sw_all {n k : Nat} : ∀ (xs : List D), (∀ x ∈ xs, Sw n k x) → PyData.showableAll xs = true ∧ PyData.hasDictAll xs = false ∧ PyData.depthAll xs ≤ k ∧ ((PyData.shownAll xs).map (·.length)).sum ≤ xs.length * n ∧ (PyData.shownAll xs).length = xs.length
  | [], _ => ⟨by simp [PyData.showableAll], by simp [PyData.hasDictAll], by simp [PyData.depthAll], by simp [PyData.shownAll], by simp [PyData.shownAll]⟩
  | x :: xs, h => by
    have a := h x List.mem_cons_self
    obtain ⟨h1, h2, h3, h4, h5⟩ := sw_all xs fun y hy => h y (List.mem_cons_of_mem _ hy)
    refine ⟨by simp [PyData.showableAll, a.s, h1], by simp [PyData.hasDictAll, a.h, h2], ?_, ?_, by simp [PyData.shownAll, h5]⟩
    · have := a.d
      simp only [PyData.depthAll]; omega
    · have := a.l
      simp only [PyData.shownAll, List.map_cons, List.sum_cons, List.length_cons, Nat.add_mul]
      omega
theorem sw_tup {n k m : Nat} {xs : List D} (h : ∀ x ∈ xs, Sw n k x) (hl : xs.length ≤ m) : Sw (m * (n + 2) + 3) (k + 1) (.tuple xs) := by
  obtain ⟨h1, h2, h3, h4, h5⟩ := sw_all xs h
  refine ⟨by simp only [PyData.showable]; exact h1, by simp only [PyData.hasDict]; exact h2, by simp only [PyData.depth]; omega, ?_⟩
  have := tupleText_len_le (PyData.shownAll xs)
  rw [h5] at this
  have a1 : xs.length * (n + 2) ≤ m * (n + 2) := Nat.mul_le_mul_right _ hl
  have a2 : xs.length * (n + 2) = xs.length * n + xs.length * 2 := Nat.mul_add ..
  simp only [PyData.shown]
  omega
theorem sw_lst {n k m : Nat} {xs : List D} (h : ∀ x ∈ xs, Sw n k x) (hl : xs.length ≤ m) : Sw (m * (n + 2) + 3) (k + 1) (.list xs) := by
  obtain ⟨h1, h2, h3, h4, h5⟩ := sw_all xs h
  refine ⟨by simp only [PyData.showable]; exact h1, by simp only [PyData.hasDict]; exact h2, by simp only [PyData.depth]; omega, ?_⟩
  have := listText_len_le (PyData.shownAll xs)
  rw [h5] at this
  have a1 : xs.length * (n + 2) ≤ m * (n + 2) := Nat.mul_le_mul_right _ hl
  have a2 : xs.length * (n + 2) = xs.length * n + xs.length * 2 := Nat.mul_add ..
  simp only [PyData.shown]
  omega
theorem shw_TI {xs : List Int} (hl : xs.length ≤ 1000) (h : ∀ x ∈ xs, x.natAbs < 2 ^ 200) : Shw (cT cI xs) :=
  (sw_tup (n := 201) (k := 0) (m := 1000) (fun d hd => by
    obtain ⟨x, hx, rfl⟩ := List.mem_map.mp hd
    exact sw_int (log2_lt (k := 199) (h x hx))) (by rw [List.length_map]; exact hl)).shw (by decide) (by decide)
theorem eqv_T {α : Type} {c : α → D} {n : Nat} (h : Cq n c) (x : α) : PyData.eqv (c x) (c x) = true := PySem.SeqAt.eqv_refl _ (h.lay x)
end Y
namespace Y
open PySem PySem.Spec PyProof.Rows L2

/-! ### data of more than one form -/
section
variable {X : Cx} {B : Bd} {ow : List Nat} {E α β : Type} {Γ : E → List (Option D)} {p s : Bool} {e : Expr} {pos : Pos} {c : α → D} {c' : β → D} {G : E → Prop} {d : E → α} {u : E → E}
/-- told by another codec where it is of that form -/
theorem De.cast (g : α → β) (h : De X B ow Γ p s e c G d u) : De X B ow Γ p s e c' (fun ε => G ε ∧ c (d ε) = c' (g (d ε))) (fun ε => g (d ε)) u :=
  ⟨h.pe.weaken fun σ H Q ⟨H0, ε, r, ⟨gg, ge⟩, k⟩ => ⟨H0, ε, r, gg, fun v H' f r' z => k v H' f r' (by
    show Fz _ _ _ _ (c' (g (d ε)))
    rw [← ge]; exact z)⟩⟩
def asI : D → Int
  | .int i => i
  | _ => 0
def asB : D → Bool
  | .bool i => i
  | _ => false
def asS : D → Str
  | .str i => i
  | _ => default
def asT {α : Type} (f : D → α) : D → List α
  | .tuple ds => ds.map f
  | _ => []
def asL {α : Type} (f : D → α) : D → List α
  | .list ds => ds.map f
  | _ => []
def asO {α : Type} (f : D → α) : D → Option α
  | .none => none
  | d => some (f d)
def dnth (d : D) (n : Int) : D := match d with
  | .tuple ds => (atI ds n).getD .none
  | .list ds => (atI ds n).getD .none
  | _ => .none
def as2 {α β : Type} (f : D → α) (g : D → β) : D → α × β := fun d => (f (dnth d 0), g (dnth d 1))
def as3 {α β γ : Type} (f : D → α) (g : D → β) (h : D → γ) : D → α × β × γ := fun d => (f (dnth d 0), g (dnth d 1), h (dnth d 2))
/-- a part of a tuple of any form -/
def NthT (d : D) (n : Int) : Prop := ∃ ds x, d = .tuple ds ∧ atI ds n = some x
theorem d_nth {b : Expr} (n : Int) {dd : E → D} (h : De X B ow Γ p s e cD G dd u) (hb : De X B ow Γ true true b cI (fun _ => True) (fun _ => n) (fun ε => ε)) (hx : PlainIx b := by exact fun _ _ => rfl) :
    De X B ow Γ p s (.Subscript e b pos) cD (fun ε => G ε ∧ NthT (dd ε) n) (fun ε => dnth (dd ε) n) u :=
  ⟨(pe_ix (pos := pos) ix_tup h.pe hb.pe hx).weaken fun σ H Q ⟨H0, ε, rl, ⟨g1, g2⟩, k⟩ => ⟨H0, ε, rl, g1, fun v H1 f1 r1 z1 => ⟨H0, u ε, r1, trivial, fun w H2 f2 r2 z2 => by
    obtain ⟨ds, x, e1, e2⟩ := g2
    have z1' : Fz X.K (cond s (B.full σ ow) B.base) H1 v (.tuple ds) := by rw [← e1]; exact z1
    obtain ⟨a, vs, rfl, nd, l⟩ := z1'.tup_inv
    cases z2.int_inv
    obtain ⟨v', e3, z⟩ := l.atI e2
    have f2' : Fr [] H1 H2 := f2
    refine ⟨a, vs, n, v', rfl, rfl, (nd.fr f2'.nil).sq, e3, k _ H2 (f1.trans f2'.nil) r2 ?_⟩
    show Fz _ _ _ _ (dnth (dd ε) n)
    rw [e1]
    show Fz _ _ _ _ ((atI ds n).getD .none)
    rw [e2]
    exact z.fr f2'.nil⟩⟩⟩
/-- not, by truth -/
theorem d_notT {b : α → Bool} (h : De X B ow Γ p s e c G d u) (hb : ∀ (A : List Addr) (H : Hp) (v : V) (x : α), Fz X.K A H v (c x) → TruV X.K v H (b x)) : De X B ow Γ p s (.UnaryOp .Not e pos) cB G (fun ε => !b (d ε)) u :=
  ⟨(pe_notT h.pe).weaken fun σ H Q ⟨H0, ε, rl, g, k⟩ => ⟨H0, ε, rl, g, fun v H1 f1 r1 z1 => ⟨_, hb _ _ _ _ z1, k _ H1 f1 r1 (.bl _)⟩⟩⟩
end
/-- name, name = [] , e -/
theorem s_parN {X : Cx} {B : Bd} {ow ow' owS : List Nat} {E R S α β : Type} {Γ : E → List (Option D)} {ΓS : S → List (Option D)} {cr : R → D} {ci : R → List D} {pos px py pt pl : Pos} {x y : Str} {b : Expr} {ca : α → D} {cb : β → D} {G : E → Prop} {db : E → β} {kt k2 pt2} (i j : Nat)
    (h : ∀ B', De X B' ow Γ true true b cb G db (fun ε => ε)) (hl : ∀ ε, i < (Γ ε).length) (h' : ∀ m, m ∈ ow' ↔ m ∈ ow ∨ m = i) (h0 : B.io ≠ none → i ≠ 0)
    (hw : swappedStores [.Tuple [.Name x px, .Name y py] kt pt] (.Tuple [.List [] pl, b] k2 pt2) X.env = pure (some [x, y])) (hij : i ≠ j := by decide) (hjo : j ∉ ow := by decide) (hi : X.N[i]? = some x := by rfl) (hj : X.N[j]? = some y := by rfl)
    (hx : X.env.scope.names.lookup x = some .local := by rfl) (hy : X.env.scope.names.lookup y = some .local := by rfl) (hN : X.N.Nodup := by assumption) (hc : X.calm = true := by rfl)
    (hst1 : starEach [.List [] pl, b] X.env = (false, eval (.List [] pl) X.env) :: starEach [b] X.env := by rfl) (hst2 : starEach [b] X.env = (false, eval b X.env) :: starEach [] X.env := by rfl)
    (hs : swapsWithSole [.Tuple [.Name x px, .Name y py] kt pt] (.Tuple [.List [] pl, b] k2 pt2) pos.line X.env = pure false := by rfl) :
    Ds X B ow Γ cr ci owS ΓS (.Assign [.Tuple [.Name x px, .Name y py] kt pt] (.Tuple [.List [] pl, b] k2 pt2) pos) G (fun ε => .nx ((ε, ([] : List α)), db ε)) ow' (fun q : (E × List α) × β => ((Γ q.1.1).set i (some (.list (q.1.2.map ca)))).set j (some (cb q.2))) :=
  ⟨(ps_par hc hN hi hj hij hx hy (pa_cons (pe_lst pa_nil) (pa_cons (te := fun σ H Q => ∃ B', tS X.K B' ow Γ true true cb G db (fun ε => ε) σ H Q) ⟨fun pins s σ H Q I ⟨B', q⟩ => (h B').pe.run pins s σ H Q I q⟩ pa_nil hst2) hst1) hw hs).weaken fun Dn σ H ⟨H0, ε, rl, g, k⟩ => by
    refine ⟨Nat.zero_le _, fun q hq => ⟨B.plus q, H0, ε, rl.plus hq, g, fun w H' f r z => ⟨.ref q, w, rfl, ?_⟩⟩⟩
    have f' : Fr [] (upd H q (.lst [])) H' := f
    have r1 := (r.set hjo z)
    have z1 : FzL X.K ((B.plus q).full (σ.set j (some w)) ow) H' [] [] := .nil
    have hbq : q ∉ B.base := fun z => rl.base_trk q z hq
    have r2 := r1.setOwn (i := i) (ow' := ow') (f' _ _ upd_same (by simp)) (Nat.zero_le _) ((rl.h0 hq).resolve_right (rl.notio hq)) hbq z1 (by rw [List.length_set]; exact hl ε) h' h0
    have e1 : (σ.set j (some w)).set i (some (.ref q)) = (σ.set i (some (.ref q))).set j (some w) := (List.set_comm _ _ hij.symm)
    have e2 : ((Γ ε).set j (some (cb (db ε)))).set i (some (.list [])) = ((Γ ε).set i (some (.list []))).set j (some (cb (db ε))) := (List.set_comm _ _ hij.symm)
    rw [e1, e2] at r2
    exact k _ H' r2⟩
/-- name, name, name = e, e, e -/
theorem s_par3 {X : Cx} {B : Bd} {ow owS : List Nat} {E R S α β γ τ : Type} {Γ : E → List (Option D)} {ΓS : S → List (Option D)} {cr : R → D} {ci : R → List D} {pos px py pz pt : Pos} {x y z : Str} {a b c : Expr} {p : Bool} {u : E → E} {cs : τ → List D} {ca : α → D} {cb : β → D} {cc : γ → D} {dv : E → τ} {ga : τ → α} {gb : τ → β} {gc : τ → γ} {G : E → Prop} {kt k2 pt2} (i j l : Nat)
    (h : DA X B ow Γ p true [a, b, c] cs G dv u) (hcs : ∀ t, cs t = [ca (ga t), cb (gb t), cc (gc t)]) (hw : swappedStores [.Tuple [.Name x px, .Name y py, .Name z pz] kt pt] (.Tuple [a, b, c] k2 pt2) X.env = pure (some [x, y, z]))
    (hij : i ≠ j := by decide) (hil : i ≠ l := by decide) (hjl : j ≠ l := by decide) (hio : i ∉ ow := by decide) (hjo : j ∉ ow := by decide) (hlo : l ∉ ow := by decide) (hi : X.N[i]? = some x := by rfl) (hj : X.N[j]? = some y := by rfl) (hl : X.N[l]? = some z := by rfl)
    (hx : X.env.scope.names.lookup x = some .local := by rfl) (hy : X.env.scope.names.lookup y = some .local := by rfl) (hz : X.env.scope.names.lookup z = some .local := by rfl) (hN : X.N.Nodup := by assumption) (hc : X.calm = true := by rfl)
    (hs : swapsWithSole [.Tuple [.Name x px, .Name y py, .Name z pz] kt pt] (.Tuple [a, b, c] k2 pt2) pos.line X.env = pure false := by rfl) :
    Ds X B ow Γ cr ci owS ΓS (.Assign [.Tuple [.Name x px, .Name y py, .Name z pz] kt pt] (.Tuple [a, b, c] k2 pt2) pos) G (fun ε => .nx (((u ε, ga (dv ε)), gb (dv ε)), gc (dv ε))) ow
      (fun q : ((E × α) × β) × γ => (((Γ q.1.1.1).set i (some (ca q.1.1.2))).set j (some (cb q.1.2))).set l (some (cc q.2))) :=
  ⟨(ps_par3 hc hN hi hj hl hij hil hjl hx hy hz h.pa hw hs).weaken fun Dn σ H ⟨H0, ε, rl, g, k⟩ => ⟨H0, ε, rl, g, fun vs H' f r q => by
    have q' : FzL X.K (B.full σ ow) H' vs [ca (ga (dv ε)), cb (gb (dv ε)), cc (gc (dv ε))] := by rw [← hcs]; exact q
    obtain ⟨v, w, m, rfl, z1, z2, z3⟩ := fzl3 q'
    have r1 := r.set hio z1
    have e1 : oa (σ.set i (some v)) ow = oa σ ow := oa_set hio
    have r2 := r1.set (i := j) (v := w) (d := cb (gb (dv ε))) hjo (by unfold Bd.full; rw [e1]; exact z2)
    have e2 : oa ((σ.set i (some v)).set j (some w)) ow = oa σ ow := by rw [oa_set hjo, e1]
    exact ⟨v, w, m, rfl, k _ H' (r2.set hlo (by unfold Bd.full; rw [e2]; exact z3))⟩⟩⟩
end Y
namespace Y
open PySem PySem.Spec PyProof.Rows L2

/-! ### lists of one's own, read as if frozen -/
theorem Rel.plusTo {K : Frag} {B : Bd} {H0 H H' : Hp} {ow : List Nat} {σ : L2.St} {γ : List (Option D)} {q : Addr} {o : HO} (r : Rel K B H0 ow σ H γ) (hq : H q = none) (f : Fr [] H H') (h : H' q = some o) : Rel K (B.plus q) H0 ow σ H' γ :=
  (r.plus hq (o := o)).grow fun b u e _ => by
    by_cases hb : b = q
    · rw [hb, upd_same] at e
      rw [hb, h, e]
    · rw [upd_ne hb] at e
      exact f b u e (by simp)
theorem lfs_map {α : Type} {c : α → D} (h : ∀ x, lf (c x) = true) : ∀ xs : List α, lf.lfs (xs.map c) = true
  | [] => by simp [lf.lfs]
  | x :: xs => by simp [lf.lfs, h x, lfs_map h xs]
section
variable {X : Cx} {B : Bd} {ow ow2 owS : List Nat} {E R S α β : Type} {Γ : E → List (Option D)} {ΓS : S → List (Option D)} {cr : R → D} {ci : R → List D} {pos spos py : Pos} {tg e elt : Expr} {ifs : List Expr} {c : α → D} {ce : β → D} {s : Bool} {G : E → Prop} {dl : E → List β} {dv : E → β}
theorem tFs_thaw {K : Frag} {σ : L2.St} {H : Hp} {Q : VK} (hs : ∀ i ∈ ow2, i ∈ ow) (hio : B.io ≠ none → 0 ∈ ow2) (hl : ∀ x, lf (ce x) = true) (h : tFs K B ow Γ true ce G dl (fun ε => ε) σ H Q) : tFs K B ow2 Γ true ce G dl (fun ε => ε) σ H Q := by
  obtain ⟨H0, ε, rl, g, k⟩ := h
  refine ⟨H0, ε, rl.freeze hs hio, g, fun q H' vs hq f r hv hz z => ?_⟩
  have f' : Fr [] H H' := f
  have r1 := rl.plusTo hq f' hv
  refine k q H' vs hq f r1 hv hz ((z.up (A' := oa σ ow) r1.trk (lfs_map hl _)).sub fun a ha => ?_)
  rcases mem_full.mp ha with h | h
  · exact List.mem_append_left _ (mem_full.mpr (.inl h))
  · exact List.mem_append_right _ h
theorem DL.thaw (hs : ∀ i ∈ ow2, i ∈ ow) (hio : B.io ≠ none → 0 ∈ ow2) (hl : ∀ x, lf (ce x) = true) (h : DL X B ow2 Γ true e ce G dl (fun ε => ε)) : DL X B ow Γ true e ce G dl (fun ε => ε) :=
  ⟨h.pe.weaken fun σ H Q q => tFs_thaw hs hio hl q⟩
theorem De.thaw (hs : ∀ i ∈ ow2, i ∈ ow) (hio : B.io ≠ none → 0 ∈ ow2) (hl : ∀ x, lf (ce x) = true) (h : De X B ow2 Γ true true e ce G dv (fun ε => ε)) : De X B ow Γ true true e ce G dv (fun ε => ε) :=
  ⟨h.pe.weaken fun σ H Q ⟨H0, ε, rl, g, k⟩ => ⟨H0, ε, rl.freeze hs hio, g, fun v H' f r z => by
    have f' : Fr [] H H' := f
    have r1 := rl.grow f'
    refine k v H' f r1 ?_
    have z1 : Fz X.K (B.full σ ow2) H' v (ce (dv ε)) := z
    refine (z1.up (A' := oa σ ow) r1.trk (hl _)).sub fun a ha => ?_
    rcases mem_full.mp ha with h | h
    · exact List.mem_append_left _ (mem_full.mpr (.inl h))
    · exact List.mem_append_right _ h⟩⟩
variable {xs : E → List α} {js : List Nat} {g : TG} {ft : α → List (Option D) → List (Option D)} {tt : E × α → Bool} {Gt Ge : E × α → Prop} {de : E × α → β} {own : List (Str × Nat)} {scope : Scope} {y : Str}
theorem s_asgLcT (i : Nat) (hsw : swapsWith (.ListComp elt [⟨tg, e, ifs, 0⟩] scope pos) (some (.Name y py)) spos.line X.env = pure true) (hs2 : ∀ i ∈ ow2, i ∈ ow) (hio2 : B.io ≠ none → 0 ∈ ow2) (hl : ∀ x, lf (ce x) = true) (hi : DI X B ow2 Γ true tg e c G xs (fun ε => ε)) (ok : BlkOk X.N X.env.scope scope own) (ht : TgR X.K c js g ft)
    (hg : ∀ (s : Shared) (H : Hp) (C : Addr) (cl : List (Str × Addr)) (fp : List Addr), PG (X.blk s H scope (compEnvC scope cl C X.env) fp) tg g)
    (hT : ∀ (s : Shared) (H : Hp) (C : Addr) (cl : List (Str × Addr)) (fp : List Addr), DT (X.blk s H scope (compEnvC scope cl C X.env) fp) ow2 (fun q : E × α => ft q.2 (wipeG (Γ q.1) (own.map (·.2)))) ifs Gt tt)
    (hE : ∀ (s : Shared) (H : Hp) (C : Addr) (cl : List (Str × Addr)) (fp : List Addr) (B' : Bd), De (X.blk s H scope (compEnvC scope cl C X.env) fp) B' ow2 (fun q : E × α => ft q.2 (wipeG (Γ q.1) (own.map (·.2)))) true true elt ce Ge de (fun q => q))
    (hio : i ∉ ow := by decide) (hjv : ∀ j ∈ js, j ∈ own.map (·.2) := by decide) (hvo : ∀ j ∈ own.map (·.2), j ∉ ow2 := by decide) (hy : X.N[i]? = some y := by rfl) (hyl : X.env.scope.names.lookup y = some .local := by rfl)
    (hN : X.N.Nodup := by assumption) (hc : X.calm = true := by rfl) (hs : ∀ x, foldedSetIterable e X.env x = pure x := by intro _; rfl) :
    Ds X B ow Γ cr ci owS ΓS (.Assign [.Name y py] (.ListComp elt [⟨tg, e, ifs, 0⟩] scope pos) spos) (fun ε => G ε ∧ ∀ x ∈ xs ε, Gt (ε, x) ∧ (tt (ε, x) = true → Ge (ε, x))) (fun ε => .nx (ε, ((xs ε).filter fun x => tt (ε, x)).map fun x => de (ε, x))) ow
      (fun q : E × List β => (Γ q.1).set i (some (cL ce q.2))) :=
  ⟨(ps_setLc (te := tSB X.K ow2 (fun q : E × α => ft q.2 (wipeG (Γ q.1) (own.map (·.2)))) ce Ge de) hc hN hy hyl hsw hi.pi ok hg (fun s H C cl fp => (hT s H C cl fp).pts) (fun s H C cl fp => ⟨fun pins s' σ H' Q I ⟨B', q⟩ => (hE s H C cl fp B').pe.run pins s' σ H' Q I q⟩) hs).weaken fun Dn σ H ⟨H0, ε, rl, g, k⟩ => by
    refine lc_pure (Q := fun x H1 => Dn.nx (σ.set i (some x)) H1) ht hjv hvo (tFs_thaw (ow := ow) hs2 hio2 hl ⟨H0, ε, rl, g, fun q H' vs hq f r hv hz z => ?_⟩)
    have z2 : Fz X.K (B.full σ ow) H' (.ref q) (cL ce (((xs ε).filter fun x => tt (ε, x)).map fun x => de (ε, x))) := by
      refine .lst ⟨⟨fun h => ?_, hv⟩, hz⟩ (z.sub full_plus)
      rcases mem_full.mp h with h | h
      · exact rl.base_trk q h hq
      · exact (r.xt q (by simp [Bd.plus])).2 h
    exact k _ H' (r.unplus.set hio z2)⟩
theorem s_asgLcT0 (i : Nat) (hsw : swapsWith (.ListComp elt [⟨tg, e, [], 0⟩] scope pos) (some (.Name y py)) spos.line X.env = pure true) (hs2 : ∀ i ∈ ow2, i ∈ ow) (hio2 : B.io ≠ none → 0 ∈ ow2) (hl : ∀ x, lf (ce x) = true) (hi : DI X B ow2 Γ true tg e c G xs (fun ε => ε)) (ok : BlkOk X.N X.env.scope scope own) (ht : TgR X.K c js g ft)
    (hg : ∀ (s : Shared) (H : Hp) (C : Addr) (cl : List (Str × Addr)) (fp : List Addr), PG (X.blk s H scope (compEnvC scope cl C X.env) fp) tg g)
    (hE : ∀ (s : Shared) (H : Hp) (C : Addr) (cl : List (Str × Addr)) (fp : List Addr) (B' : Bd), De (X.blk s H scope (compEnvC scope cl C X.env) fp) B' ow2 (fun q : E × α => ft q.2 (wipeG (Γ q.1) (own.map (·.2)))) true true elt ce Ge de (fun q => q))
    (hio : i ∉ ow := by decide) (hjv : ∀ j ∈ js, j ∈ own.map (·.2) := by decide) (hvo : ∀ j ∈ own.map (·.2), j ∉ ow2 := by decide) (hy : X.N[i]? = some y := by rfl) (hyl : X.env.scope.names.lookup y = some .local := by rfl)
    (hN : X.N.Nodup := by assumption) (hc : X.calm = true := by rfl) (hs : ∀ x, foldedSetIterable e X.env x = pure x := by intro _; rfl) :
    Ds X B ow Γ cr ci owS ΓS (.Assign [.Name y py] (.ListComp elt [⟨tg, e, [], 0⟩] scope pos) spos) (fun ε => G ε ∧ ∀ x ∈ xs ε, Ge (ε, x)) (fun ε => .nx (ε, (xs ε).map fun x => de (ε, x))) ow
      (fun q : E × List β => (Γ q.1).set i (some (cL ce q.2))) :=
  (s_asgLcT i hsw hs2 hio2 hl hi ok ht hg (fun _ _ _ _ _ => dt_nil) hE hio hjv hvo hy hyl hN hc hs).is (fun _ h => ⟨h.1, fun x hx => ⟨trivial, fun _ => h.2 x hx⟩⟩) fun _ _ => by rw [filt_true]
end
theorem lf_T {α : Type} {c : α → D} (h : ∀ x, lf (c x) = true) (xs : List α) : lf (cT c xs) = true := by
  simp only [lf]
  exact lfs_map h xs
theorem lf_O {α : Type} {c : α → D} (h : ∀ x, lf (c x) = true) (o : Option α) : lf (cO c o) = true := by
  cases o with
  | none => rfl
  | some x => exact h x
theorem lf_1 {α : Type} {a : α → D} (h : ∀ x, lf (a x) = true) (x : α) : lf (c1 a x) = true := by simp [lf, lf.lfs, h]
theorem lf_2 {α β : Type} {a : α → D} {b : β → D} (h : ∀ x, lf (a x) = true) (h2 : ∀ x, lf (b x) = true) (x : α × β) : lf (c2 a b x) = true := by simp [lf, lf.lfs, h, h2]
theorem lf_3 {α β γ : Type} {a : α → D} {b : β → D} {c : γ → D} (h : ∀ x, lf (a x) = true) (h2 : ∀ x, lf (b x) = true) (h3 : ∀ x, lf (c x) = true) (x : α × β × γ) : lf (c3 a b c x) = true := by simp [lf, lf.lfs, h, h2, h3]
theorem lf_4 {α β γ δ : Type} {a : α → D} {b : β → D} {c : γ → D} {d : δ → D} (h : ∀ x, lf (a x) = true) (h2 : ∀ x, lf (b x) = true) (h3 : ∀ x, lf (c x) = true) (h4 : ∀ x, lf (d x) = true) (x : α × β × γ × δ) : lf (c4 a b c d x) = true := by simp [lf, lf.lfs, h, h2, h3, h4]
theorem dss_eq {X : Cx} {B : Bd} {ow ow' owS : List Nat} {E N R S : Type} {Γ : E → List (Option D)} {Γ' : N → List (Option D)} {ΓS : S → List (Option D)} {cr : R → D} {ci : R → List D} {sts : List Stmt} {G G' : E → Prop} {d d' : E → Out N R S} (h : Dss X B ow Γ cr ci owS ΓS sts G d ow' Γ') (hg : G' = G) (hd : d' = d) : Dss X B ow Γ cr ci owS ΓS sts G' d' ow' Γ' := by
  subst hg hd; exact h
end Y
namespace Y
open PySem PySem.Spec PyProof.Rows PySem.W L2

/-! ### plain facts of loops that seek -/
section
variable {α β R S T : Type}
theorem forO_find {f : Unit × α → Out Unit R Unit} (p : α → Bool) (v : α → R) : ∀ (xs : List α), (∀ x ∈ xs, f ((), x) = if p x = true then .rt (v x) else .nx ()) → forO (S := S) f () xs = match xs.find? p with
    | some x => .rt (v x)
    | none => .nx ()
  | [], _ => rfl
  | x :: xs, h => by
    have h1 := h x List.mem_cons_self
    have ih := forO_find p v xs fun y hy => h y (List.mem_cons_of_mem _ hy)
    rw [forO, h1, List.find?_cons]
    cases p x
    · exact ih
    · rfl
theorem forG_all {g : Unit × α → Prop} {f : Unit × α → Out Unit R Unit} : ∀ (xs : List α), (∀ x ∈ xs, g ((), x)) → forG g f () xs
  | [], _ => trivial
  | x :: xs, h => by
    refine ⟨h x List.mem_cons_self, ?_⟩
    have ih := forG_all (g := g) (f := f) xs fun y hy => h y (List.mem_cons_of_mem _ hy)
    cases f ((), x) <;> first | exact ih | trivial
/-- a loop that no turn leaves, by its states -/
theorem forG_inv {g : T × α → Prop} {f : T × α → Out T R T} (P : T → Prop) : ∀ (xs : List α) (t : T), P t → (∀ t x, P t → x ∈ xs → g (t, x) ∧ ∀ t', f (t, x) = .nx t' ∨ f (t, x) = .ct t' → P t') → forG g f t xs
  | [], t, h, _ => trivial
  | x :: xs, t, h, k => by
    obtain ⟨h1, h2⟩ := k t x h List.mem_cons_self
    refine ⟨h1, ?_⟩
    have ih := fun t' (q : P t') => forG_inv (g := g) (f := f) P xs t' q fun t y p m => k t y p (List.mem_cons_of_mem _ m)
    cases e : f (t, x) with
    | nx t' => exact ih t' (h2 t' (.inl e))
    | ct t' => exact ih t' (h2 t' (.inr e))
    | bk t' => trivial
    | rt r => trivial
theorem forN_inv {g : T × α → Prop} {f : T × α → T} (P : T → Prop) : ∀ (xs : List α) (t : T), P t → (∀ t x, P t → x ∈ xs → g (t, x) ∧ P (f (t, x))) → forN g f t xs ∧ P (xs.foldl (fun m x => f (m, x)) t)
  | [], t, h, _ => ⟨trivial, h⟩
  | x :: xs, t, h, k => by
    obtain ⟨h1, h2⟩ := k t x h List.mem_cons_self
    obtain ⟨i1, i2⟩ := forN_inv P xs _ h2 fun t y p m => k t y p (List.mem_cons_of_mem _ m)
    exact ⟨⟨h1, i1⟩, i2⟩
theorem forN_rest {g : T × α → Prop} {f : T × α → T} (P : T → List α → Prop) (k : ∀ t x xs, P t (x :: xs) → g (t, x) ∧ P (f (t, x)) xs) : ∀ (xs : List α) (t : T), P t xs → forN g f t xs ∧ P (xs.foldl (fun m x => f (m, x)) t) []
  | [], t, h => ⟨trivial, h⟩
  | x :: xs, t, h => by
    obtain ⟨h1, h2⟩ := k t x xs h
    obtain ⟨i1, i2⟩ := forN_rest P k xs _ h2
    exact ⟨⟨h1, i1⟩, i2⟩
theorem forN_all {g : T × α → Prop} {f : T × α → T} (xs : List α) (t : T) (h : ∀ t, ∀ x ∈ xs, g (t, x)) : forN g f t xs := (forN_inv (fun _ => True) xs t trivial fun t x _ m => ⟨h t x m, trivial⟩).1
theorem srt_map {c : α → D} {c' : β → D} {f : α → β} {xs : List α} (h : ∀ a ∈ xs, ∀ b ∈ xs, dataLe false c a b = dataLe false c' (f a) (f b)) : srt c' (xs.map f) = (srt c xs).map f := (List.map_mergeSort h).symm
theorem srt_mem {c : α → D} {xs : List α} {x : α} : x ∈ srt c xs ↔ x ∈ xs := List.mem_mergeSort
theorem srt_length {c : α → D} {xs : List α} : (srt c xs).length = xs.length := List.length_mergeSort _
theorem le_I : dataLe false cI = fun a b : Int => decide (a ≤ b) := dataLe_int (β := Int) id
end
theorem rng_nil {a b : Int} (h : b ≤ a) : rng a b = [] := by
  unfold rng
  have : (b - a).toNat = 0 := by omega
  rw [this]; rfl
theorem rng_cons {a b : Int} (h : a < b) : rng a b = a :: rng (a + 1) b := by
  unfold rng
  obtain ⟨n, hn⟩ : ∃ n, (b - a).toNat = n + 1 := ⟨(b - a).toNat - 1, by omega⟩
  have h2 : (b - (a + 1)).toNat = n := by omega
  rw [hn, h2, List.range_succ_eq_map, List.map_cons, List.map_map]
  congr 1
  · omega
  · exact List.map_congr_left fun i _ => by simp only [Function.comp]; omega
theorem rng_snoc {a b : Int} (h : a ≤ b) : rng a (b + 1) = rng a b ++ [b] := by
  unfold rng
  have h2 : (b + 1 - a).toNat = (b - a).toNat + 1 := by omega
  rw [h2, List.range_succ, List.map_append, List.map_singleton]
  congr 2
  omega
end Y
namespace HT
open PySem PySem.Spec PyProof.Rows
section
variable {prog : Program} {w : World} {A : Around} {E : Value → Shared → Prop} {s : Shared}
theorem sliceApplied_rev {sl : Addr} {vl vu vs : Value} {n : Nat} {Q : Int × Int × Nat → Shared → Prop} (hs : s.heap.IsSliceOf sl vl vu vs) (pl : IsPart vl none) (pu : IsPart vu none) (ps : IsPart vs (some (-1)))
    (h : Q ((n : Int) - 1, -1, n) s) : wpAny (model prog w) A (Builtin.Slice.sliceApplied (.ref sl) (pure (n : Int))) Q E s := by
  obtain ⟨os, hos, hcs, hds⟩ := id hs
  unfold Builtin.Slice.sliceApplied Builtin.Slice.sliceFields
  refine wpAny_bind (wpAny_bind (wpAny_field hos hds (x := vl) rfl (wpAny_bind (wpAny_field hos hds (x := vu) rfl (wpAny_bind (wpAny_field hos hds (x := vs) rfl (wpAny_pure ?_)))))))
  refine wpAny_bind (slicePart_ ps ?_)
  show wpAny _ _ (if ((-1 : Int) == 0) = true then _ else _) _ _ s
  rw [if_neg (by decide)]
  refine wpAny_bind (slicePart_ pl (wpAny_bind (slicePart_ pu (wpAny_bind (wpAny_pure ?_)))))
  show wpAny _ _ (match Builtin.Slice.sliceAdjust none none (-1) (n : Int) with | (lo, hi) => pure (lo, (-1 : Int), Builtin.Slice.slicePlaces lo hi (-1))) _ _ s
  show wpAny _ _ (pure ((n : Int) - 1, (-1 : Int), Builtin.Slice.slicePlaces ((n : Int) - 1) (-1) (-1))) _ _ s
  have e : Builtin.Slice.slicePlaces ((n : Int) - 1) (-1) (-1) = n := by
    unfold Builtin.Slice.slicePlaces
    have h1 : ¬ ((-1 : Int) > 0) := by omega
    simp only [h1, if_false, Int.neg_neg, Int.ediv_one]
    split <;> omega
  rw [e]
  exact wpAny_pure h
theorem filterMap_same {α β : Type} {f g : α → Option β} : ∀ (xs : List α), (∀ x ∈ xs, f x = g x) → xs.filterMap f = xs.filterMap g
  | [], _ => rfl
  | x :: xs, h => by
    rw [List.filterMap_cons, List.filterMap_cons, h x List.mem_cons_self, filterMap_same xs fun y hy => h y (List.mem_cons_of_mem _ hy)]
theorem pick_rev (xs : Array Value) : ((List.range xs.size).filterMap fun (m : Nat) => xs[((xs.size : Int) - 1 + (m : Int) * (-1)).toNat]?).toArray = xs.toList.reverse.toArray := by
  have e : ∀ m ∈ List.range xs.size, (fun (m : Nat) => xs[((xs.size : Int) - 1 + (m : Int) * (-1)).toNat]?) m = (fun m => xs.toList.reverse[m]?) m := fun m hm => by
    rw [List.mem_range] at hm
    show xs[((xs.size : Int) - 1 + (m : Int) * (-1)).toNat]? = xs.toList.reverse[m]?
    have : ((xs.size : Int) - 1 + (m : Int) * (-1)).toNat = xs.size - 1 - m := by omega
    rw [this, List.getElem?_reverse (by simpa using hm), Array.getElem?_toList, Array.length_toList]
  rw [filterMap_same _ e]
  congr 1
  have : ∀ ys : List Value, (List.range ys.length).filterMap (fun m => ys[m]?) = ys := fun ys => by
    induction ys with
    | nil => rfl
    | cons y ys ih =>
      rw [List.length_cons, List.range_succ_eq_map, List.filterMap_cons]
      simp only [List.getElem?_cons_zero, List.filterMap_map]
      congr 1
  have := this xs.toList.reverse
  rw [List.length_reverse, Array.length_toList] at this
  exact this
theorem getItem_tuple_rev {t sl : Addr} {items : Array Value} {vl vu vs : Value} {Q : Value → Shared → Prop} (ht : IsTup s.heap t items) (hs : s.heap.IsSliceOf sl vl vu vs) (pl : IsPart vl none) (pu : IsPart vu none) (ps : IsPart vs (some (-1)))
    (h : Q (.ref s.heap.objs.size) { s with heap := s.heap.push { cls := .type "tuple", data := .seq items.toList.reverse.toArray } })
    (hsz : items.size ≤ sizeLine) : wpAny (model prog w) A (getItem (.ref t) (.ref sl)) Q E s := by
  have htake : sizeOk (.seq items.toList.reverse.toArray) := by
    show items.toList.reverse.toArray.size ≤ sizeLine
    rw [List.size_toArray, List.length_reverse, Array.length_toList]
    omega
  obtain ⟨os, hos, hcs, hds⟩ := id hs
  have hTs : s.TypeIs (.ref sl) "slice" := ⟨os, hos, hcs⟩
  unfold getItem
  try with_reducible refine wpAny_holding ?_
  first | refine wpAny_bind (wpAny_pure ?_) | skip
  refine wpAny_bind (wpAny_sequenceKey ht.typeIs (by decide) ?_)
  refine wpAny_bind (wpAny_callSpecial?_slot (name := Str.ofString "__getitem__") ht.typeIs PyProof.Rows.slot_tuple_getitem
    (wpAny_call_entry PyProof.Rows.slot_tuple_getitem ht.typeIs entry_tuple_getitem ?_ (args_tuple_getitem _ _)))
  show wpAny _ _ (Builtin.Tuple.tupleItemsOf (.ref t) >>= _) _ _ s
  refine wpAny_bind (tupleItemsOf_ ht ?_)
  refine wpAny_bind (wpAny_typeOf hTs ?_)
  rw [if_pos (by decide)]
  refine wpAny_bind (sliceApplied_rev hs pl pu ps ?_)
  have hno : ¬ (((items.size : Int) - 1 == 0 && (-1 : Int) == 1 && items.size == items.size) = true) := by
    intro q
    rw [Bool.and_eq_true, Bool.and_eq_true] at q
    exact absurd q.1.2 (by decide)
  show wpAny _ _ (if ((items.size : Int) - 1 == 0 && (-1 : Int) == 1 && items.size == items.size) = true then _ else _) _ _ s
  rw [if_neg hno, pick_rev]
  first
    | exact wpAny_bind (m := Builtin.Tuple.tupleExact _) (wpAny_newObj_type (wpAny_pure ⟨_, rfl, wpAny_pure h⟩) htake)
    | exact wpAny_bind (m := Builtin.Tuple.tupleExact _) (wpAny_newObj_type (wpAny_bind (wpAny_pure (wpAny_pure ⟨_, rfl, wpAny_pure h⟩))) htake)
    | exact wpAny_bind (wpAny_bind (m := Builtin.Tuple.tupleExact _) (wpAny_newObj_type (wpAny_pure (wpAny_pure ⟨_, rfl, wpAny_pure h⟩)) htake))
    | exact wpAny_bind (wpAny_bind (m := Builtin.Tuple.tupleExact _) (wpAny_newObj_type (wpAny_pure ⟨_, rfl, wpAny_pure h⟩) htake))
end
end HT
namespace Y
open PySem PySem.Spec PyProof.Rows L2
/-! ### xs[::-1] -/
section
variable {X : Cx}
def tRevT (K : PySem.W.Frag) (te : TE) : TE := fun σ H Q => te σ H fun x H1 => ∃ a xs, x = .ref a ∧ SqT K H1 a xs ∧ ∀ p, H1 p = none → Q (.ref p) (upd H1 p (.tup xs.reverse))
theorem pe_revT {e : Expr} {te : TE} {k : Nat} {p1 p2 p3 pos : Pos} (he : PE X e te) : PE X (.Subscript e (.Slice none none (some (.UnaryOp .USub (.Constant (.int 1) k p1) p2)) p3) pos) (tRevT X.K te) := by
  refine ⟨fun pins s σ H Q I h => ?_⟩
  refine Subscript_ (thn (he.run pins s σ H _ I h) fun v s1 ⟨x, H1, I1, r1, q1⟩ => ?_)
  obtain ⟨a, xs, ex, hx, q⟩ := q1
  subst ex
  cases r1
  have hst : PO X (some (.UnaryOp .USub (.Constant (.int 1) k p1) p2)) (tPart (tUn (rU fun i => .int (-i)) (tC (.int 1)))) := po_some (pe_un un_neg pe_int)
  refine wpAny_Slice (thn (po_none.run pins s1 σ H1 (fun o H2 => o = none ∧ H2 = H1) I1 ⟨rfl, rfl⟩) fun vl s2 ⟨l, H2, I2, pl, el, e2⟩ => ?_)
  subst el e2
  refine thn (po_none.run pins s2 σ H2 (fun o H3 => o = none ∧ H3 = H2) I2 ⟨rfl, rfl⟩) fun vu s3 ⟨u, H3, I3, pu, eu, e3⟩ => ?_
  subst eu e3
  refine thn (hst.run pins s3 σ H3 (fun o H4 => o = some (-1) ∧ H4 = H3) I3 ⟨1, rfl, -1, rfl, rfl, rfl⟩) fun vs s4 ⟨o, H4, I4, ps, eo, e4⟩ => ?_
  subst eo e4
  have I5 : Inv X pins σ H4 { s4 with heap := s4.heap.push { cls := .type "slice", data := .fields #[vl, vu, vs] } } := I4.kept (t' := s4.toks) fun b ob q => Heap.get?_push_of_some _ q
  obtain ⟨its, r, ht, hz⟩ := I5.tuple hx
  have hlen := r.length
  show wpAny (model X.prog X.w) X.A (subscriptTail e (.Slice none none (some (.UnaryOp .USub (.Constant (.int 1) k p1) p2)) p3) (.ref a) (.ref s4.heap.objs.size)) (EP X pins σ Q) X.xe { s4 with heap := s4.heap.push { cls := .type "slice", data := .fields #[vl, vu, vs] } }
  refine tail_any (ops := [.ref a, .ref s4.heap.objs.size]) ht.typeIs (PyProof.Rows.slot_tuple_getitem.lookup) ?_ (by with_unfolding_all rfl)
  refine HT.getItem_tuple_rev ht (Heap.IsSliceOf.new _ vl vu vs) pl pu ps ?_ (by rw [List.size_toArray]; omega)
  refine ⟨.ref _, _, I5.laid (t' := s4.toks) (o := .tup xs.reverse) (fun b ob q => Heap.get?_push_of_some _ q) (Nat.le_refl _) ?_, rfl, q _ (I5.hok.fresh (Nat.le_refl _))⟩
  exact ⟨by rw [List.length_reverse]; exact hz, _, r.reverse, IsTup.new _ _⟩
end
section
variable {X : Cx} {B : Bd} {ow : List Nat} {E α β : Type} {Γ : E → List (Option D)} {p s : Bool} {e : Expr} {pos p1 p2 p3 : Pos} {kk : Nat} {c : α → D} {G : E → Prop} {d : E → List α} {u : E → E}
theorem d_revT (h : De X B ow Γ p s e (cT c) G d u) : De X B ow Γ p s (.Subscript e (.Slice none none (some (.UnaryOp .USub (.Constant (.int 1) kk p1) p2)) p3) pos) (cT c) G (fun ε => (d ε).reverse) u :=
  ⟨(pe_revT h.pe).weaken fun σ H Q ⟨H0, ε, rl, g, k⟩ => ⟨H0, ε, rl, g, fun v H1 f1 r1 z1 => by
    obtain ⟨a, vs, rfl, n, l⟩ := z1.tup_inv
    refine ⟨a, vs, rfl, n.sq, fun q hq => k _ _ ((show Fr _ H H1 from f1).trans (Fr.new hq)) (r1.grow (Fr.new hq)) ?_⟩
    refine .tup (.inl ⟨(r1.tr s).new hq, upd_same, by rw [List.length_reverse]; exact n.sz⟩) ?_
    dsimp only
    rw [List.map_reverse]
    exact l.rev.fr (Fr.new hq)⟩⟩
theorem d_revL (h : De X B ow Γ true true e (cL c) G d u) : DL X B ow Γ true (.Subscript e (.Slice none none (some (.UnaryOp .USub (.Constant (.int 1) kk p1) p2)) p3) pos) c G (fun ε => (d ε).reverse) u :=
  ⟨(pe_revL h.pe).weaken fun σ H Q ⟨H0, ε, rl, g, k⟩ => ⟨H0, ε, rl, g, fun v H1 f1 r1 z1 => by
    have f1' : Fr [] H H1 := f1
    obtain ⟨a, vs, rfl, n, l⟩ := z1.lst_inv
    refine ⟨a, vs, rfl, n.sq, fun q hq => k q _ _ (f1'.back hq) (f1'.trans (Fr.new hq)) (r1.plus hq) upd_same (by rw [List.length_reverse]; exact n.2) ?_⟩
    dsimp only
    rw [List.map_reverse]
    exact fzl_plus hq l.rev⟩⟩
end
end Y
namespace Y
open PySem PySem.Spec PyProof.Rows L2

/-! ### what is shown, what is shaped -/
section
variable {α β γ : Type} {n k m l : Nat} {c : α → D} {c' : β → D} {a b d : D}
theorem sw_I {x : Int} (h : -1000000000000000000 ≤ x ∧ x ≤ 1000000000000000000) : Sw 201 0 (cI x) := sw_int (log2_lt (k := 199) (by
  have : x.natAbs ≤ 1000000000000000000 := by omega
  exact Nat.lt_of_le_of_lt this (by decide)))
theorem sw_1 (h1 : Sw n k a) : Sw (1 * (n + 2) + 3) (k + 1) (.tuple [a]) := sw_tup (fun d hd => by
  simp only [List.mem_cons, List.not_mem_nil, or_false] at hd
  rw [hd]; exact h1) (by simp)
theorem sw_2 (h1 : Sw n k a) (h2 : Sw n k b) : Sw (2 * (n + 2) + 3) (k + 1) (.tuple [a, b]) := sw_tup (fun d hd => by
  simp only [List.mem_cons, List.not_mem_nil, or_false] at hd
  rcases hd with rfl | rfl
  · exact h1
  · exact h2) (by simp)
theorem sw_3 {e : D} (h1 : Sw n k a) (h2 : Sw n k b) (h3 : Sw n k e) : Sw (3 * (n + 2) + 3) (k + 1) (.tuple [a, b, e]) := sw_tup (fun d hd => by
  simp only [List.mem_cons, List.not_mem_nil, or_false] at hd
  rcases hd with rfl | rfl | rfl
  · exact h1
  · exact h2
  · exact h3) (by simp)
theorem sw_4 {e f : D} (h1 : Sw n k a) (h2 : Sw n k b) (h3 : Sw n k e) (h4 : Sw n k f) : Sw (4 * (n + 2) + 3) (k + 1) (.tuple [a, b, e, f]) := sw_tup (fun d hd => by
  simp only [List.mem_cons, List.not_mem_nil, or_false] at hd
  rcases hd with rfl | rfl | rfl | rfl
  · exact h1
  · exact h2
  · exact h3
  · exact h4) (by simp)
theorem sw_T {xs : List α} (m : Nat) (hl : xs.length ≤ m) (h : ∀ x ∈ xs, Sw n k (c x)) : Sw (m * (n + 2) + 3) (k + 1) (cT c xs) := sw_tup (fun d hd => by
  obtain ⟨x, hx, rfl⟩ := List.mem_map.mp hd
  exact h x hx) (by rw [List.length_map]; exact hl)
theorem sw_L {xs : List α} (m : Nat) (hl : xs.length ≤ m) (h : ∀ x ∈ xs, Sw n k (c x)) : Sw (m * (n + 2) + 3) (k + 1) (cL c xs) := sw_lst (fun d hd => by
  obtain ⟨x, hx, rfl⟩ := List.mem_map.mp hd
  exact h x hx) (by rw [List.length_map]; exact hl)
theorem sw_O {o : Option α} (h : ∀ x, o = some x → Sw n k (c x)) : Sw (n + 4) k (cO c o) := by
  cases o with
  | none => exact sw_none.mono (by omega) (by omega)
  | some x => exact (h x rfl).mono (by omega) (by omega)
theorem shaped_lay {d : D} (h : SeqAt.shaped d = true) : d.canLay0 = true := SeqAt.canLay_of_shaped h
/-- shaped, by depth -/
structure Sp (k : Nat) (d : D) : Prop where
  l : d.canLay0 = true
  d : d.depth ≤ k
theorem Sp.ok (h : Sp k d) (hk : k ≤ 64 := by decide) : SeqAt.shaped d = true := by
  show (d.canLay0 && decide (d.depth ≤ 64)) = true
  rw [Bool.and_eq_true]
  exact ⟨h.l, decide_eq_true (Nat.le_trans h.d hk)⟩
theorem Sp.mono (h : Sp k d) (hk : k ≤ l) : Sp l d := ⟨h.l, Nat.le_trans h.d hk⟩
theorem sp_int (i : Int) : Sp 0 (.int i) := ⟨by simp [PyData.canLay0], by simp [PyData.depth]⟩
theorem sp_bool (i : Bool) : Sp 0 (.bool i) := ⟨by simp [PyData.canLay0], by simp [PyData.depth]⟩
theorem sp_none : Sp 0 .none := ⟨by simp [PyData.canLay0], by simp [PyData.depth]⟩
theorem sp_str {x : Str} (h : (PyData.str x).canLay0 = true) : Sp 0 (.str x) := ⟨h, by simp [PyData.depth]⟩
theorem sp_all : ∀ (xs : List D), (∀ x ∈ xs, Sp k x) → PyData.canLayAll0 xs = true ∧ PyData.depthAll xs ≤ k
  | [], _ => ⟨by simp [PyData.canLayAll0], by simp [PyData.depthAll]⟩
  | x :: xs, h => by
    obtain ⟨h1, h2⟩ := sp_all xs fun y hy => h y (List.mem_cons_of_mem _ hy)
    have h3 := h x List.mem_cons_self
    refine ⟨by simp [PyData.canLayAll0, h3.l, h1], ?_⟩
    have := h3.d
    simp only [PyData.depthAll]; omega
theorem sp_tup {xs : List D} (h : ∀ x ∈ xs, Sp k x) : Sp (k + 1) (.tuple xs) := ⟨by simp only [PyData.canLay0]; exact (sp_all xs h).1, by have := (sp_all xs h).2; simp only [PyData.depth]; omega⟩
theorem sp_lst {xs : List D} (h : ∀ x ∈ xs, Sp k x) : Sp (k + 1) (.list xs) := ⟨by simp only [PyData.canLay0]; exact (sp_all xs h).1, by have := (sp_all xs h).2; simp only [PyData.depth]; omega⟩
theorem sp_1 (h1 : Sp k a) : Sp (k + 1) (.tuple [a]) := sp_tup fun d hd => by
  simp only [List.mem_cons, List.not_mem_nil, or_false] at hd
  rw [hd]; exact h1
theorem sp_2 (h1 : Sp k a) (h2 : Sp k b) : Sp (k + 1) (.tuple [a, b]) := sp_tup fun d hd => by
  simp only [List.mem_cons, List.not_mem_nil, or_false] at hd
  rcases hd with rfl | rfl
  · exact h1
  · exact h2
theorem sp_3 {e : D} (h1 : Sp k a) (h2 : Sp k b) (h3 : Sp k e) : Sp (k + 1) (.tuple [a, b, e]) := sp_tup fun d hd => by
  simp only [List.mem_cons, List.not_mem_nil, or_false] at hd
  rcases hd with rfl | rfl | rfl
  · exact h1
  · exact h2
  · exact h3
theorem sp_T {xs : List α} (h : ∀ x ∈ xs, Sp k (c x)) : Sp (k + 1) (cT c xs) := sp_tup fun d hd => by
  obtain ⟨x, hx, rfl⟩ := List.mem_map.mp hd
  exact h x hx
theorem sp_L {xs : List α} (h : ∀ x ∈ xs, Sp k (c x)) : Sp (k + 1) (cL c xs) := sp_lst fun d hd => by
  obtain ⟨x, hx, rfl⟩ := List.mem_map.mp hd
  exact h x hx
theorem sp_O {o : Option α} (h : ∀ x, o = some x → Sp k (c x)) : Sp k (cO c o) := by
  cases o with
  | none => exact sp_none.mono (by omega)
  | some x => exact h x rfl
theorem eqv_str (x y : Str) : PyData.eqv (.str x) (.str y) = decide (x = y) := by
  by_cases h : x = y
  · subst h; rw [decide_eq_true rfl]; simp [PyData.eqv]
  · rw [decide_eq_false h]; simp [PyData.eqv, h]
theorem eqv_int (x y : Int) : PyData.eqv (.int x) (.int y) = decide (x = y) := by
  by_cases h : x = y
  · subst h; rw [decide_eq_true rfl]; simp [PyData.eqv]
  · rw [decide_eq_false h]; simp [PyData.eqv, h]
end
theorem ixD_last {α : Type} [Inhabited α] {xs : List α} {a : α} : ixD (xs ++ [a]) (-1) = a := by
  have e : ixN (xs ++ [a]).length (-1) = some xs.length := by
    unfold ixN
    rw [if_neg (by omega), List.length_append, List.length_singleton, if_pos (by omega)]
    congr 1
    omega
  unfold ixD L2.atI
  rw [e]
  simp
theorem ixD_zero {α : Type} [Inhabited α] {xs : List α} {a : α} : ixD (a :: xs) 0 = a := ixD_of (k := 0) rfl
theorem cix_ne {α : Type} {xs : List α} (h : (!xs.isEmpty) = true) : CIx xs 0 := by
  have : 0 < xs.length := List.length_pos_iff.mpr fun e => by rw [e] at h; cases h
  exact ⟨by omega, by omega⟩
theorem cix_ne1 {α : Type} {xs : List α} (h : (!xs.isEmpty) = true) : CIx xs (-1) := by
  have : 0 < xs.length := List.length_pos_iff.mpr fun e => by rw [e] at h; cases h
  exact ⟨by omega, by omega⟩
end Y
namespace Y
open PySem PySem.Spec PyProof.Rows L2
section
variable {X : Cx} {B : Bd} {ow : List Nat} {E α β τ : Type} {Γ : E → List (Option D)} {p p0 p1 p2 s : Bool} {e e1 e2 : Expr} {pos : Pos} {c : α → D} {c' : β → D} {G G1 G2 : E → Prop} {d d1 d2 : E → α} {t : E → Bool} {u u0 u1 u2 : E → E} {s1 s2 : E → τ}
/-- a if c else b, with effects -/
theorem d_ifE (put : E → τ → E) (hc : Dt X B ow Γ p0 e G t u0) (h1 : De X B ow Γ p1 s e1 c G1 d1 u1) (h2 : De X B ow Γ p2 s e2 c G2 d2 u2) (q1 : ∀ ε, u1 (u0 ε) = put ε (s1 ε)) (q2 : ∀ ε, u2 (u0 ε) = put ε (s2 ε)) :
    De X B ow Γ false s (.IfExp e e1 e2 pos) c (fun ε => G ε ∧ (t ε = true → G1 (u0 ε)) ∧ (t ε = false → G2 (u0 ε))) (fun ε => if t ε = true then d1 (u0 ε) else d2 (u0 ε)) (fun ε => put ε (if t ε = true then s1 ε else s2 ε)) :=
  ⟨(pe_ifExp hc.pt h1.pe h2.pe).weaken fun σ H Q ⟨H0, ε, rl, ⟨g, g1, g2⟩, k⟩ => ⟨H0, ε, rl, g, fun H1 f1 r1 => by
    have w : ∀ {q : Bool} {A : List Addr} {H H' : Hp}, Fr (cond q [] A) H H' → Fr A H H' := fun {q A H H'} f => by
      cases q
      · exact f
      · exact Fr.nil f
    cases h : t ε with
    | true =>
      show tS X.K B ow Γ p1 s c G1 d1 u1 σ H1 Q
      simp only [h, if_true] at k
      refine ⟨H0, u0 ε, r1, g1 h, fun v H2 f2 r2 z2 => k v H2 ((w f1).trans (w f2)) ?_ z2⟩
      rw [← q1]; exact r2
    | false =>
      show tS X.K B ow Γ p2 s c G2 d2 u2 σ H1 Q
      simp only [h, Bool.false_eq_true, if_false] at k
      refine ⟨H0, u0 ε, r1, g2 h, fun v H2 f2 r2 z2 => k v H2 ((w f1).trans (w f2)) ?_ z2⟩
      rw [← q2]; exact r2⟩⟩
/-- told by another codec, of that form wherever it stands -/
theorem De.asD (g : α → β) (h : De X B ow Γ p s e c G d u) (hc : ∀ ε, c (d ε) = c' (g (d ε))) : De X B ow Γ p s e c' G (fun ε => g (d ε)) u :=
  ⟨h.pe.weaken fun σ H Q ⟨H0, ε, r, gg, k⟩ => ⟨H0, ε, r, gg, fun v H' f r' z => k v H' f r' (by
    show Fz _ _ _ _ (c' (g (d ε)))
    rw [← hc]; exact z)⟩⟩
end
def fx1 {α : Type} [Inhabited α] : List α → α
  | a :: _ => a
  | _ => default
def fx2 {α : Type} [Inhabited α] : List α → α × α
  | a :: b :: _ => (a, b)
  | _ => default
def fx3 {α : Type} [Inhabited α] : List α → α × α × α
  | a :: b :: c :: _ => (a, b, c)
  | _ => default
def fx4 {α : Type} [Inhabited α] : List α → α × α × α × α
  | a :: b :: c :: d :: _ => (a, b, c, d)
  | _ => default

theorem v_mulW {K : Frag} : Op2 K (rI CMulW fun i j => .int (i * j)) cI cI cI CMulW (fun i j => i * j) := v_I fun _ _ _ _ => .int _
end Y
namespace Y
open PySem PySem.Spec PyProof.Rows PySem.W L2
section
variable {α β R S T : Type}
/-- a loop whose state is told by what was gone through -/
theorem fold_pre {g : T × α → Prop} {f : T × α → T} (st : List α → T) (xs : List α) (h : ∀ l1 x l2, xs = l1 ++ x :: l2 → g (st l1, x) ∧ f (st l1, x) = st (l1 ++ [x])) : forN g f (st []) xs ∧ xs.foldl (fun m x => f (m, x)) (st []) = st xs := by
  have key : ∀ l2 l1, xs = l1 ++ l2 → forN g f (st l1) l2 ∧ l2.foldl (fun m x => f (m, x)) (st l1) = st xs := by
    intro l2
    induction l2 with
    | nil =>
      intro l1 e
      rw [List.append_nil] at e
      subst e
      exact ⟨trivial, rfl⟩
    | cons x l2 ih =>
      intro l1 e
      obtain ⟨h1, h2⟩ := h l1 x l2 e
      obtain ⟨i1, i2⟩ := ih (l1 ++ [x]) (by rw [e, List.append_assoc]; rfl)
      refine ⟨⟨h1, ?_⟩, ?_⟩
      · rw [h2]; exact i1
      · rw [List.foldl_cons, h2]; exact i2
  exact key xs [] rfl
/-- the same over a range -/
theorem fold_rng {g : T × Int → Prop} {f : T × Int → T} (st : Nat → T) (n : Nat) (h : ∀ k, k < n → g (st k, (k : Int)) ∧ f (st k, (k : Int)) = st (k + 1)) : forN g f (st 0) (rng 0 (n : Int)) ∧ (rng 0 (n : Int)).foldl (fun m x => f (m, x)) (st 0) = st n := by
  have key : ∀ d k : Nat, k + d = n → forN g f (st k) (rng (k : Int) n) ∧ (rng (k : Int) n).foldl (fun m x => f (m, x)) (st k) = st n := by
    intro d
    induction d with
    | zero =>
      intro k e
      have : k = n := by omega
      subst this
      rw [rng_nil (Int.le_refl _)]
      exact ⟨trivial, rfl⟩
    | succ d ih =>
      intro k e
      obtain ⟨h1, h2⟩ := h k (by omega)
      obtain ⟨i1, i2⟩ := ih (k + 1) (by omega)
      have e2 : ((k + 1 : Nat) : Int) = (k : Int) + 1 := by omega
      rw [e2] at i1 i2
      rw [rng_cons (by omega)]
      refine ⟨⟨h1, ?_⟩, ?_⟩
      · rw [h2]; exact i1
      · rw [List.foldl_cons, h2]; exact i2
  exact key n 0 (by omega)
/-- a loop that does not leave, whose state is told by what was gone through -/
theorem forO_pre {g : T × α → Prop} {f : T × α → Out T R T} (st : List α → T) (xs : List α) (h : ∀ l1 x l2, xs = l1 ++ x :: l2 → g (st l1, x) ∧ (f (st l1, x) = .nx (st (l1 ++ [x])) ∨ f (st l1, x) = .ct (st (l1 ++ [x])))) : forG g f (st []) xs ∧ forO (S := S) f (st []) xs = .nx (st xs) := by
  have key : ∀ l2 l1, xs = l1 ++ l2 → forG g f (st l1) l2 ∧ forO (S := S) f (st l1) l2 = .nx (st xs) := by
    intro l2
    induction l2 with
    | nil =>
      intro l1 e
      rw [List.append_nil] at e
      subst e
      exact ⟨trivial, rfl⟩
    | cons x l2 ih =>
      intro l1 e
      obtain ⟨h1, h2⟩ := h l1 x l2 e
      obtain ⟨i1, i2⟩ := ih (l1 ++ [x]) (by rw [e, List.append_assoc]; rfl)
      rcases h2 with h2 | h2
      · refine ⟨⟨h1, ?_⟩, ?_⟩
        · rw [h2]; exact i1
        · rw [forO, h2]; exact i2
      · refine ⟨⟨h1, ?_⟩, ?_⟩
        · rw [h2]; exact i1
        · rw [forO, h2]; exact i2
  exact key xs [] rfl
/-- a loop over a range that may leave at a turn -/
theorem forO_rng {g : T × Int → Prop} {f : T × Int → Out T R T} (st : Nat → T) (p : Nat → Bool) (v : Nat → R) (n : Nat) (h : ∀ k, k < n → g (st k, (k : Int)) ∧ f (st k, (k : Int)) = if p k = true then .rt (v k) else .nx (st (k + 1))) :
    forG g f (st 0) (rng 0 (n : Int)) ∧ forO (S := S) f (st 0) (rng 0 (n : Int)) = match (List.range n).find? p with
      | some k => .rt (v k)
      | none => .nx (st n) := by
  have key : ∀ d k : Nat, k + d = n → forG g f (st k) (rng (k : Int) n) ∧ forO (S := S) f (st k) (rng (k : Int) n) = match (List.range' k d).find? p with
      | some k => .rt (v k)
      | none => .nx (st n) := by
    intro d
    induction d with
    | zero =>
      intro k e
      have : k = n := by omega
      subst this
      rw [rng_nil (Int.le_refl _)]
      exact ⟨trivial, rfl⟩
    | succ d ih =>
      intro k e
      obtain ⟨h1, h2⟩ := h k (by omega)
      obtain ⟨i1, i2⟩ := ih (k + 1) (by omega)
      have e2 : ((k + 1 : Nat) : Int) = (k : Int) + 1 := by omega
      rw [e2] at i1 i2
      rw [rng_cons (by omega), List.range'_succ, List.find?_cons]
      cases c : p k with
      | true =>
        rw [c, if_pos rfl] at h2
        refine ⟨⟨h1, by rw [h2]; trivial⟩, ?_⟩
        rw [forO, h2]
      | false =>
        rw [c, if_neg Bool.false_ne_true] at h2
        refine ⟨⟨h1, by rw [h2]; exact i1⟩, ?_⟩
        rw [forO, h2]
        exact i2
  have := key n 0 (by omega)
  rwa [← List.range_eq_range'] at this
theorem ixD_getLast [Inhabited α] {xs : List α} {a : α} (h : xs.getLast? = some a) : ixD xs (-1) = a := by
  obtain ⟨ys, rfl⟩ := List.getLast?_eq_some_iff.mp h
  exact ixD_last
theorem zip_maps {γ : Type} (f : α → β) (g : α → γ) (l : List α) : (l.map f).zip (l.map g) = l.map fun x => (f x, g x) := by
  induction l with
  | nil => rfl
  | cons x l ih => simp only [List.map_cons, List.zip_cons_cons, ih]
theorem mem_enum {xs : List α} {p : Int × α} (h : p ∈ enum xs) : ∃ (k : Nat) (hk : k < xs.length), p = ((k : Int), xs[k]) := by
  obtain ⟨k, hk, e⟩ := List.mem_iff_getElem.mp h
  have hk' : k < xs.length := by rw [enum_length] at hk; exact hk
  exact ⟨k, hk', by rw [← e]; exact enum_eq xs k hk⟩
theorem nx_all {N R S : Type} (v : N) (P : N → Prop) : (∀ l, (Out.nx v : Out N R S) = .nx l → P l) = P v := propext ⟨fun h => h v rfl, fun h l e => by injection e with e; rw [← e]; exact h⟩
theorem nx_bind {M N R S : Type} (v : N) (k : N → Out M R S) : (Out.nx v : Out N R S).bind k = k v := rfl
theorem rt_bind {M N R S : Type} (v : R) (k : N → Out M R S) : (Out.rt v : Out N R S).bind k = .rt v := rfl
theorem rt_nx {N R S : Type} (v : R) (P : N → Prop) : (∀ l, (Out.rt v : Out N R S) = .nx l → P l) = True := propext ⟨fun _ => trivial, fun _ l e => by cases e⟩
end
end Y
namespace Y
open PySem PySem.Spec PyProof.Rows L2
section
variable {K : Frag} {α β γ' δ : Type}
theorem fzl4 {K : Frag} {A : List Addr} {H : Hp} {vs : List V} {d d' d'' d3 : D} (h : FzL K A H vs [d, d', d'', d3]) : ∃ v w u t, vs = [v, w, u, t] ∧ Fz K A H v d ∧ Fz K A H w d' ∧ Fz K A H u d'' ∧ Fz K A H t d3 := by
  cases h with | cons a b => cases b with | cons a' b' => cases b' with | cons a'' b'' => cases b'' with | cons a3 b3 => cases b3; exact ⟨_, _, _, _, rfl, a, a', a'', a3⟩
theorem tg_four {ca : α → D} {cb : β → D} {cc : γ' → D} {cd : δ → D} (i j l o : Nat) : TgR K (c4 ca cb cc cd) [i, j, l, o] (gTup K 4 (gCons (gName i) (gCons (gName j) (gCons (gName l) (gCons (gName o) gNil))))) fun q γ => (((γ.set i (some (ca q.1))).set j (some (cb q.2.1))).set l (some (cc q.2.2.1))).set o (some (cd q.2.2.2)) := fun B H0 ow σ H γ v q Q hj r z k => by
  obtain ⟨a, xs, rfl, n, lz⟩ := z.tup_inv
  obtain ⟨x, y, w, t, rfl, z1, z2, z3, z4⟩ := fzl4 lz
  have r1 := r.set (hj i (by simp)) z1
  have e1 : ∀ u : Option V, oa (σ.set i u) ow = oa σ ow := fun u => oa_set (hj i (by simp))
  have r2 := r1.set (i := j) (v := y) (d := cb q.2.1) (hj j (by simp)) (by unfold Bd.full; rw [e1]; exact z2)
  have e2 : ∀ u w : Option V, oa ((σ.set i u).set j w) ow = oa σ ow := fun u w => by rw [oa_set (hj j (by simp)), e1]
  have r3 := r2.set (i := l) (v := w) (d := cc q.2.2.1) (hj l (by simp)) (by unfold Bd.full; rw [e2]; exact z3)
  have e3 : ∀ u w t : Option V, oa (((σ.set i u).set j w).set l t) ow = oa σ ow := fun u w t => by rw [oa_set (hj l (by simp)), e2]
  refine ⟨a, _, rfl, n.sq, rfl, x, _, rfl, y, _, rfl, w, _, rfl, t, [], rfl, rfl, k _ (r3.set (hj o (by simp)) ?_) (fun m hm => ?_) (by simp)⟩
  · unfold Bd.full
    rw [e3]
    exact z4
  · have h1 : i ≠ m := fun e => hm (by simp [e])
    have h2 : j ≠ m := fun e => hm (by simp [e])
    have h3 : l ≠ m := fun e => hm (by simp [e])
    have h4 : o ≠ m := fun e => hm (by simp [e])
    rw [List.getElem?_set_ne h4, List.getElem?_set_ne h3, List.getElem?_set_ne h2, List.getElem?_set_ne h1]
end
theorem rgV_rng (a b : Int) : rgV a b = (rng a b).map V.int := by
  unfold rgV rng
  rw [List.map_map]
  rfl
section
variable {X : Cx} {B : Bd} {ow : List Nat} {E α β : Type} {Γ : E → List (Option D)} {p s : Bool} {e e1 e2 : Expr} {pos px p2 p3 : Pos} {c : α → D} {G G1 G2 : E → Prop} {d1 d2 : E → Int} {u u1 u2 : E → E}
theorem crg_ok {a b : Int} (h : CRg a b) : RgOk a b := by
  obtain ⟨h1, h2, h3, h4, h5⟩ := h
  refine ⟨by omega, by omega, by omega, by omega, by omega⟩
theorem l_lrg1 (h : De X B ow Γ true true e cI G d1 (fun ε => ε)) (hm : X.mg "list" = none) (hm2 : X.mg "range" = none) (hg : Gl X "list" := by rfl) (hg2 : Gl X "range" := by rfl) (hc : X.calm = true := by rfl)
    (na : starEach [e] X.env = (false, eval e X.env) :: starEach [] X.env := by rfl) (na2 : starEach [.Call (.Name "range" p2) [e] [] p3] X.env = (false, eval (.Call (.Name "range" p2) [e] [] p3) X.env) :: starEach [] X.env := by rfl) :
    DL X B ow Γ true (.Call (.Name "list" px) [.Call (.Name "range" p2) [e] [] p3] [] pos) cI (fun ε => G ε ∧ CRg 0 (d1 ε)) (fun ε => rng 0 (d1 ε)) (fun ε => ε) :=
  ⟨(pe_listRg hc hg hm (prg_1 hg2 hm2 h.pe na) na2).weaken fun σ H Q ⟨H0, ε, rl, ⟨g1, g2⟩, k⟩ => ⟨H0, ε, rl, g1, fun v H1 f1 r1 z1 => by
    have f1' : Fr [] H H1 := f1
    cases z1.int_inv
    refine ⟨_, rfl, crg_ok g2, fun q hq => k q _ _ (f1'.back hq) (f1'.trans (Fr.new hq)) (r1.plus hq) upd_same ?_ ?_⟩
    · rw [rgV_length]
      have := g2.2.2.2.2
      show _ ≤ 16777216
      omega
    · rw [rgV_rng]
      exact ints_fzl _⟩⟩
theorem l_lrg2 (h1 : De X B ow Γ true true e1 cI G1 d1 (fun ε => ε)) (h2 : De X B ow Γ true true e2 cI G2 d2 (fun ε => ε)) (hm : X.mg "list" = none) (hm2 : X.mg "range" = none) (hg : Gl X "list" := by rfl) (hg2 : Gl X "range" := by rfl) (hc : X.calm = true := by rfl)
    (na : starEach [e1, e2] X.env = (false, eval e1 X.env) :: starEach [e2] X.env := by rfl) (nb : starEach [e2] X.env = (false, eval e2 X.env) :: starEach [] X.env := by rfl) (na2 : starEach [.Call (.Name "range" p2) [e1, e2] [] p3] X.env = (false, eval (.Call (.Name "range" p2) [e1, e2] [] p3) X.env) :: starEach [] X.env := by rfl)
    (hp : (backTo p3 (starEach [e2] X.env)).any (·.1) = false := by rfl) :
    DL X B ow Γ true (.Call (.Name "list" px) [.Call (.Name "range" p2) [e1, e2] [] p3] [] pos) cI (fun ε => G1 ε ∧ G2 ε ∧ CRg (d1 ε) (d2 ε)) (fun ε => rng (d1 ε) (d2 ε)) (fun ε => ε) :=
  ⟨(pe_listRg hc hg hm (prg_2 hg2 hm2 h1.pe h2.pe na nb hp) na2).weaken fun σ H Q ⟨H0, ε, rl, ⟨g1, g2, g3⟩, k⟩ => ⟨H0, ε, rl, g1, fun v H1 f1 r1 z1 => ⟨H0, ε, r1, g2, fun w H2 f2 r2 z2 => by
    have f1' : Fr [] H H1 := f1
    have f2' : Fr [] H1 H2 := f2
    have fa := f1'.trans f2'
    cases z1.int_inv
    cases z2.int_inv
    refine ⟨_, _, rfl, rfl, crg_ok g3, fun q hq => k q _ _ (fa.back hq) (fa.trans (Fr.new hq)) (r2.plus hq) upd_same ?_ ?_⟩
    · rw [rgV_length]
      have := g3.2.2.2.2
      show _ ≤ 16777216
      omega
    · rw [rgV_rng]
      exact ints_fzl _⟩⟩⟩
theorem d_trg1 (h : De X B ow Γ true s e cI G d1 (fun ε => ε)) (hm : X.mg "tuple" = none) (hm2 : X.mg "range" = none) (hg : Gl X "tuple" := by rfl) (hg2 : Gl X "range" := by rfl) (hc : X.calm = true := by rfl)
    (na : starEach [e] X.env = (false, eval e X.env) :: starEach [] X.env := by rfl) (na2 : starEach [.Call (.Name "range" p2) [e] [] p3] X.env = (false, eval (.Call (.Name "range" p2) [e] [] p3) X.env) :: starEach [] X.env := by rfl) :
    De X B ow Γ true s (.Call (.Name "tuple" px) [.Call (.Name "range" p2) [e] [] p3] [] pos) (cT cI) (fun ε => G ε ∧ CRg 0 (d1 ε)) (fun ε => rng 0 (d1 ε)) (fun ε => ε) :=
  ⟨(pe_tupRg hc hg hm (prg_1 hg2 hm2 h.pe na) na2).weaken fun σ H Q ⟨H0, ε, rl, ⟨g1, g2⟩, k⟩ => ⟨H0, ε, rl, g1, fun v H1 f1 r1 z1 => by
    have f1' : Fr [] H H1 := f1
    cases z1.int_inv
    refine ⟨_, rfl, crg_ok g2, fun q hq => k _ _ (f1'.trans (Fr.new hq)) (r1.grow (Fr.new hq)) ?_⟩
    refine .tup (.inl ⟨(r1.tr s).new hq, upd_same, ?_⟩) ?_
    · rw [rgV_length]
      have := g2.2.2.2.2
      show _ ≤ 16777216
      omega
    · rw [rgV_rng]
      exact ints_fzl _⟩⟩
theorem d_trg2 (h1 : De X B ow Γ true s e1 cI G1 d1 (fun ε => ε)) (h2 : De X B ow Γ true s e2 cI G2 d2 (fun ε => ε)) (hm : X.mg "tuple" = none) (hm2 : X.mg "range" = none) (hg : Gl X "tuple" := by rfl) (hg2 : Gl X "range" := by rfl) (hc : X.calm = true := by rfl)
    (na : starEach [e1, e2] X.env = (false, eval e1 X.env) :: starEach [e2] X.env := by rfl) (nb : starEach [e2] X.env = (false, eval e2 X.env) :: starEach [] X.env := by rfl) (na2 : starEach [.Call (.Name "range" p2) [e1, e2] [] p3] X.env = (false, eval (.Call (.Name "range" p2) [e1, e2] [] p3) X.env) :: starEach [] X.env := by rfl)
    (hp : (backTo p3 (starEach [e2] X.env)).any (·.1) = false := by rfl) :
    De X B ow Γ true s (.Call (.Name "tuple" px) [.Call (.Name "range" p2) [e1, e2] [] p3] [] pos) (cT cI) (fun ε => G1 ε ∧ G2 ε ∧ CRg (d1 ε) (d2 ε)) (fun ε => rng (d1 ε) (d2 ε)) (fun ε => ε) :=
  ⟨(pe_tupRg hc hg hm (prg_2 hg2 hm2 h1.pe h2.pe na nb hp) na2).weaken fun σ H Q ⟨H0, ε, rl, ⟨g1, g2, g3⟩, k⟩ => ⟨H0, ε, rl, g1, fun v H1 f1 r1 z1 => ⟨H0, ε, r1, g2, fun w H2 f2 r2 z2 => by
    have f1' : Fr [] H H1 := f1
    have f2' : Fr [] H1 H2 := f2
    have fa := f1'.trans f2'
    cases z1.int_inv
    cases z2.int_inv
    refine ⟨_, _, rfl, rfl, crg_ok g3, fun q hq => k _ _ (fa.trans (Fr.new hq)) (r2.grow (Fr.new hq)) ?_⟩
    refine .tup (.inl ⟨(r2.tr s).new hq, upd_same, ?_⟩) ?_
    · rw [rgV_length]
      have := g3.2.2.2.2
      show _ ≤ 16777216
      omega
    · rw [rgV_rng]
      exact ints_fzl _⟩⟩⟩
/-! ### xs.index(y) -/
def idxD {α : Type} (c : α → D) (xs : List α) (y : α) : Int := ((xs.findIdx fun x => PyData.eqv (c x) (c y) : Nat) : Int)
def IdxOk {α : Type} (c : α → D) (xs : List α) (y : α) : Prop := SeqAt.shaped (cL c xs) = true ∧ SeqAt.shaped (c y) = true ∧ ∃ x ∈ xs, PyData.eqv (c x) (c y) = true
theorem d_index {o e : Expr} {apos : Pos} {dx : E → List α} {dy : E → α} {u' : E → E} {p' : Bool} (hu : X.A.units + 65 < cLine) (ho : De X B ow Γ p true o (cL c) G1 dx u) (he : De X B ow Γ p' true e c G2 dy u')
    (hp' : p' = true)
    (hbase : attributeBase o "index" X.env (eval o X.env) = eval o X.env := by rfl)
    (hst : starEach [e] X.env = (false, eval e X.env) :: starEach [] X.env := by rfl)
    (hfew : ((backTo pos (starEach [e] X.env)).all (fun x => !x.1) && (backToKw pos (keywordEach [] X.env)).all (fun x => x.1.isSome)
      && decide (([e] : List Expr).length + ([] : List Keyword).length + (if ([] : List Keyword).isEmpty then 0 else 1) < 30)) = true := by rfl)
    (hline : (apos.endLine == pos.line) = true := by rfl) (hplain : (backTo pos (starEach [] X.env)).any (·.1) = false := by rfl) :
    De X B ow Γ p true (.Call (.Attribute o "index" apos) [e] [] pos) cI (fun ε => G1 ε ∧ G2 (u ε) ∧ IdxOk c (dx ε) (dy (u ε))) (fun ε => idxD c (dx ε) (dy (u ε))) (fun ε => u' (u ε)) :=
  ⟨(pe_bm PySem.F.plainAttrs_list PySem.F.slot_list_index PySem.F.type_list_index (mt_indexD hu) ho.pe (pa_cons he.pe pa_nil hst) hbase hfew hline hst hplain).weaken fun σ H Q ⟨H0, ε, rl, ⟨g1, g2, g3⟩, k⟩ => ⟨H0, ε, rl, g1, fun v H1 f1 r1 z1 => by
    obtain ⟨a, vs, rfl, n, l⟩ := z1.lst_inv
    refine ⟨.inl ⟨rfl, _, n.sq⟩, H0, u ε, r1, g2, fun w H2 f2 r2 z2 => ?_⟩
    subst hp'
    have f2' : Fr [] H1 H2 := f2
    obtain ⟨s1, s2, x, hx, ex⟩ := g3
    have hlt : (dx ε).findIdx (fun x => PyData.eqv (c x) (c (dy (u ε)))) < (dx ε).length := List.findIdx_lt_length_of_exists ⟨x, hx, ex⟩
    have z1' : Fz X.K (B.full σ ow) H2 (.ref a) (cL c (dx ε)) := (Fz.lst n l).fr f2'.nil
    refine ⟨a, w, _, _, (dx ε).findIdx (fun x => PyData.eqv (c x) (c (dy (u ε)))), c (dx ε)[(dx ε).findIdx (fun x => PyData.eqv (c x) (c (dy (u ε))))], rfl, rfl, z1'.dp, z2.dp, s1, s2, ?_, ?_, fun m z' hm e => ?_, k _ H2 ?_ r2 (.int _)⟩
    · rw [List.getElem?_map, List.getElem?_eq_getElem hlt]; rfl
    · exact List.findIdx_getElem (w := hlt)
    · rw [List.getElem?_map] at e
      have hml : m < (dx ε).length := by omega
      rw [List.getElem?_eq_getElem hml] at e
      injection e with e
      rw [← e]
      have := List.not_of_lt_findIdx hm
      simpa using this
    · exact (show Fr (cond p [] (oa σ ow)) H H1 from f1).trans f2'.nil⟩⟩
end
section
variable {E M N R S : Type}
theorem keep_ite {c : Prop} [Decidable c] (a b : Out M R S) (ε : E) : (if c then a else b).keep ε = if c then a.keep ε else b.keep ε := by split <;> rfl
theorem keep_bind (o : Out N R S) (k : N → Out M R S) (ε : E) : (o.bind k).keep ε = o.bind fun n => (k n).keep ε := by cases o <;> rfl
end
section
variable {X : Cx} {B : Bd} {ow : List Nat} {E α β : Type} {Γ : E → List (Option D)} {p s : Bool} {e : Expr} {c : α → D} {c' : β → D} {G : E → Prop} {d : E → List α} {u : E → E}
theorem De.asL (g : α → β) (hc : ∀ x, c x = c' (g x)) (h : De X B ow Γ p s e (cL c) G d u) : De X B ow Γ p s e (cL c') G (fun ε => (d ε).map g) u :=
  h.as (c' := cL c') (g := List.map g) fun x => by
    show PyData.list (x.map c) = .list ((x.map g).map c')
    rw [List.map_map]
    exact congrArg _ (List.map_congr_left fun a _ => hc a)
theorem De.asT (g : α → β) (hc : ∀ x, c x = c' (g x)) (h : De X B ow Γ p s e (cT c) G d u) : De X B ow Γ p s e (cT c') G (fun ε => (d ε).map g) u :=
  h.as (c' := cT c') (g := List.map g) fun x => by
    show PyData.tuple (x.map c) = .tuple ((x.map g).map c')
    rw [List.map_map]
    exact congrArg _ (List.map_congr_left fun a _ => hc a)
end
theorem v_fdivN {K : Frag} : Op2 K (rI CDivN fun i j => .int (i.fdiv j)) cI cI cI CDivN (fun i j => i.fdiv j) := v_I fun _ _ _ _ => .int _
end Y
namespace Z
open PySem PySem.Spec PyProof.Rows L2 Y
def topS (i : Nat) : Stmt := PySem.Challenge.pw_ferrybook_k22_costs_added_year_by_year.main.body.getD i (.Pass ⟨0, 0, 0, 0⟩)
structure Tx (K : Y.Frag) (mg : Str → Option Value) (ad : Nat → Addr) (fd : Nat → FuncData) : Prop where
  F5 : Fun K "is_integer" "is_integer" (topS 5) (ad 5) (fd 5)
  M5 : mg "is_integer" = some (.ref (ad 5))
  F9 : Fun K "greatest_divisor" "greatest_divisor" (topS 9) (ad 9) (fd 9)
  M9 : mg "greatest_divisor" = some (.ref (ad 9))
  F10 : Fun K "quotient" "quotient" (topS 10) (ad 10) (fd 10)
  M10 : mg "quotient" = some (.ref (ad 10))
  F11 : Fun K "plus" "plus" (topS 11) (ad 11) (fd 11)
  M11 : mg "plus" = some (.ref (ad 11))
  F12 : Fun K "minus" "minus" (topS 12) (ad 12) (fd 12)
  M12 : mg "minus" = some (.ref (ad 12))
  F13 : Fun K "times" "times" (topS 13) (ad 13) (fd 13)
  M13 : mg "times" = some (.ref (ad 13))
  F14 : Fun K "over" "over" (topS 14) (ad 14) (fd 14)
  M14 : mg "over" = some (.ref (ad 14))
  F15 : Fun K "is_less" "is_less" (topS 15) (ad 15) (fd 15)
  M15 : mg "is_less" = some (.ref (ad 15))
  F16 : Fun K "sum_of" "sum_of" (topS 16) (ad 16) (fd 16)
  M16 : mg "sum_of" = some (.ref (ad 16))
  F17 : Fun K "power" "power" (topS 17) (ad 17) (fd 17)
  M17 : mg "power" = some (.ref (ad 17))
  F18 : Fun K "is_quotient" "is_quotient" (topS 18) (ad 18) (fd 18)
  M18 : mg "is_quotient" = some (.ref (ad 18))
  F19 : Fun K "is_number" "is_number" (topS 19) (ad 19) (fd 19)
  M19 : mg "is_number" = some (.ref (ad 19))
  F21 : Fun K "is_plan" "is_plan" (topS 21) (ad 21) (fd 21)
  M21 : mg "is_plan" = some (.ref (ad 21))
  F22 : Fun K "check_plans" "check_plans" (topS 22) (ad 22) (fd 22)
  M22 : mg "check_plans" = some (.ref (ad 22))
  F23 : Fun K "check_traffic" "check_traffic" (topS 23) (ad 23) (fd 23)
  M23 : mg "check_traffic" = some (.ref (ad 23))
  F24 : Fun K "check_rate" "check_rate" (topS 24) (ad 24) (fd 24)
  M24 : mg "check_rate" = some (.ref (ad 24))
  F25 : Fun K "check_case" "check_case" (topS 25) (ad 25) (fd 25)
  M25 : mg "check_case" = some (.ref (ad 25))
  F26 : Fun K "break_even" "break_even" (topS 26) (ad 26) (fd 26)
  M26 : mg "break_even" = some (.ref (ad 26))
  F27 : Fun K "from_zero" "from_zero" (topS 27) (ad 27) (fd 27)
  M27 : mg "from_zero" = some (.ref (ad 27))
  F28 : Fun K "ferry_costs" "ferry_costs" (topS 28) (ad 28) (fd 28)
  M28 : mg "ferry_costs" = some (.ref (ad 28))
  F29 : Fun K "bridge_costs" "bridge_costs" (topS 29) (ad 29) (fd 29)
  M29 : mg "bridge_costs" = some (.ref (ad 29))
  F30 : Fun K "switch_costs" "switch_costs" (topS 30) (ad 30) (fd 30)
  M30 : mg "switch_costs" = some (.ref (ad 30))
  F31 : Fun K "worth_of" "worth_of" (topS 31) (ad 31) (fd 31)
  M31 : mg "worth_of" = some (.ref (ad 31))
  F32 : Fun K "check_year" "check_year" (topS 32) (ad 32) (fd 32)
  M32 : mg "check_year" = some (.ref (ad 32))
  F33 : Fun K "whole_cost" "whole_cost" (topS 33) (ad 33) (fd 33)
  M33 : mg "whole_cost" = some (.ref (ad 33))
  F34 : Fun K "yearly_costs" "yearly_costs" (topS 34) (ad 34) (fd 34)
  M34 : mg "yearly_costs" = some (.ref (ad 34))
  F35 : Fun K "judge_worth" "judge_worth" (topS 35) (ad 35) (fd 35)
  M35 : mg "judge_worth" = some (.ref (ad 35))
  F36 : Fun K "best_year" "best_year" (topS 36) (ad 36) (fd 36)
  M36 : mg "best_year" = some (.ref (ad 36))
  F37 : Fun K "later_savings" "later_savings" (topS 37) (ad 37) (fd 37)
  M37 : mg "later_savings" = some (.ref (ad 37))
  F38 : Fun K "accept_year" "accept_year" (topS 38) (ad 38) (fd 38)
  M38 : mg "accept_year" = some (.ref (ad 38))
  F39 : Fun K "grown_traffic" "grown_traffic" (topS 39) (ad 39) (fd 39)
  M39 : mg "grown_traffic" = some (.ref (ad 39))
  F40 : Fun K "even_payment" "even_payment" (topS 40) (ad 40) (fd 40)
  M40 : mg "even_payment" = some (.ref (ad 40))
  F41 : Fun K "debts" "debts" (topS 41) (ad 41) (fd 41)
  M41 : mg "debts" = some (.ref (ad 41))
  F43 : Fun K "_law_start" "_law_start" (topS 43) (ad 43) (fd 43)
  M43 : mg "_law_start" = some (.ref (ad 43))
  F44 : Fun K "_law_draw" "_law_draw" (topS 44) (ad 44) (fd 44)
  M44 : mg "_law_draw" = some (.ref (ad 44))
  F45 : Fun K "_law_pick" "_law_pick" (topS 45) (ad 45) (fd 45)
  M45 : mg "_law_pick" = some (.ref (ad 45))
  F46 : Fun K "_law_same" "_law_same" (topS 46) (ad 46) (fd 46)
  M46 : mg "_law_same" = some (.ref (ad 46))
  F47 : Fun K "_law_low" "_law_low" (topS 47) (ad 47) (fd 47)
  M47 : mg "_law_low" = some (.ref (ad 47))
  F48 : Fun K "_law_plus" "_law_plus" (topS 48) (ad 48) (fd 48)
  M48 : mg "_law_plus" = some (.ref (ad 48))
  F49 : Fun K "_law_mul" "_law_mul" (topS 49) (ad 49) (fd 49)
  M49 : mg "_law_mul" = some (.ref (ad 49))
  F50 : Fun K "_law_power" "_law_power" (topS 50) (ad 50) (fd 50)
  M50 : mg "_law_power" = some (.ref (ad 50))
  F51 : Fun K "_law_case" "_law_case" (topS 51) (ad 51) (fd 51)
  M51 : mg "_law_case" = some (.ref (ad 51))
  F52 : Fun K "_law_savings_hold" "_law_savings_hold" (topS 52) (ad 52) (fd 52)
  M52 : mg "_law_savings_hold" = some (.ref (ad 52))
  F53 : Fun K "_law_parts_hold" "_law_parts_hold" (topS 53) (ad 53) (fd 53)
  M53 : mg "_law_parts_hold" = some (.ref (ad 53))
  F54 : Fun K "_law_within" "_law_within" (topS 54) (ad 54) (fd 54)
  M54 : mg "_law_within" = some (.ref (ad 54))
  F55 : Fun K "_law_debts_hold" "_law_debts_hold" (topS 55) (ad 55) (fd 55)
  M55 : mg "_law_debts_hold" = some (.ref (ad 55))
  F56 : Fun K "law" "law" (topS 56) (ad 56) (fd 56)
  M56 : mg "law" = some (.ref (ad 56))
  z_abs : mg "abs" = none
  z_all : mg "all" = none
  z_bool : mg "bool" = none
  z_enumerate : mg "enumerate" = none
  z_int : mg "int" = none
  z_isinstance : mg "isinstance" = none
  z_len : mg "len" = none
  z_list : mg "list" = none
  z_range : mg "range" = none
  z_repr : mg "repr" = none
  z_sum : mg "sum" = none
  z_tuple : mg "tuple" = none
  c_MAX_SIZE : ∃ t, mg "MAX_SIZE" = some (.int 1000000000000 t)
  c_MAX_YEARS : ∃ t, mg "MAX_YEARS" = some (.int 40 t)
abbrev E0_is_integer : Type := Int × Unit
def o_is_integer (a : E0_is_integer) : Out Empty (Bool) Empty :=
  (let value := a.1; (Out.rt ((true && (!false)))))
def m_is_integer (a : E0_is_integer) : Bool := (o_is_integer a).ret
def g_is_integer (a : E0_is_integer) : Prop :=
  (let value := a.1; (True ∧ (true = true → True)))
theorem sc_is_integer : FnScope ["value"] ["value"] (defScope (topS 5)) := ⟨rfl, rfl, rfl, by decide +kernel, rfl, by decide +kernel, by decide +kernel⟩
theorem b_is_integer {K : Y.Frag} {mg : Str → Option Value} {ad : Nat → Addr} {fd : Nat → FuncData} (T : Tx K mg ad fd) : Binds K (fd 5) ["value"] [] := T.F5.binds (ps := ["value"]) fun _ _ _ _ _ _ us hl => match us, hl with | [_], _ => rfl
theorem f_is_integer {P : Program} {w : World} {K : Y.Frag} {mg : Str → Option Value} {base : Heap} {ad : Nat → Addr} {fd : Nat → FuncData} (T : Tx K mg ad fd) : FnG P w K mg base 1 (ad 5) (fd 5) ["value"] (spP K (ac cI an) cB g_is_integer m_is_integer) :=
  fn_pure T.F5 sc_is_integer 0 (fun _ => rfl) rfl (owS := []) (ow' := []) (ΓS := fun _ : Empty => []) (Γ' := fun _ : Empty => []) (cr := cB) (ci := fun _ => []) (G := g_is_integer) (d := o_is_integer) (fun A0 cdv A outer s H E hr hg => by
    have hu : (A.deeper (envOfC _ (defScope (topS 5)) s.heap.objs.size _ cdv)).units + 64 < cLine := Nat.lt_of_le_of_lt (Nat.add_le_add_left (by decide) _) (room_un hr)
    have key : Dss (XF P w K mg base ["value"] "is_integer" (topS 5) (ad 5) cdv A outer s H E) ⟨A0, [], none⟩ [] (fun a : E0_is_integer => ((ac cI an) a).map some ++ List.replicate 0 none) cB (fun _ => []) [] (fun _ : Empty => []) (defBody (topS 5)) _ _ [] (fun _ : Empty => []) := (s_one (s_ret (r := fun v (_ : E0_is_integer) => v) (fun _ _ => rfl) rfl (d_and (d_isi (C := "int") (b := true) (d_var 0 (fun q : E0_is_integer => q.1) cI (fun _ => rfl)) ty_I T.z_isinstance T.z_int (by decide +kernel) (by decide +kernel)) (d_one (d_not (d_isi (C := "bool") (b := false) (d_var 0 (fun q : E0_is_integer => q.1) cI (fun _ => rfl)) ty_I T.z_isinstance T.z_bool (by decide +kernel) (by decide +kernel)))))))
    exact dss_eq key (by kernel_rfl) (by kernel_rfl)) (fun _ h => h) (fun a _ => ends_ret (fun r => r) (fun _ => rfl) (o_is_integer a))
abbrev E0_greatest_divisor : Type := Int × Int × Unit
abbrev E1_greatest_divisor : Type := Int × Int
abbrev E2_greatest_divisor : Type := E1_greatest_divisor × Int
abbrev E3_greatest_divisor : Type := E2_greatest_divisor × Int
abbrev E4_greatest_divisor : Type := E0_greatest_divisor × E1_greatest_divisor
def k1_greatest_divisor (q2 : E1_greatest_divisor) : Out E1_greatest_divisor Int E1_greatest_divisor :=
  (let first3 : Int := q2.2; let second4 : Int := (q2.1 % q2.2); (Out.nx ((first3, second4))))
def kg1_greatest_divisor (q2 : E1_greatest_divisor) : Prop :=
  ((True ∧ ((True ∧ True ∧ ((0 : Int) < q2.2)) ∧ True)) ∧ (let first3 : Int := q2.2; let second4 : Int := (q2.1 % q2.2); True))
def kt1_greatest_divisor (q2 : E1_greatest_divisor) : Bool :=
  (decide ((0 : Int) < q2.2))
def ktg1_greatest_divisor (q2 : E1_greatest_divisor) : Prop :=
  (True ∧ True ∧ True)
def o_greatest_divisor (a : E0_greatest_divisor) : Out Empty (Int) Empty :=
  (let first := a.1; let second := a.2.1; ((whO kt1_greatest_divisor k1_greatest_divisor (((Int.toNat second) + 1)) (first, second)).bind (fun l5 : E1_greatest_divisor => (Out.rt l5.1))))
def m_greatest_divisor (a : E0_greatest_divisor) : Int := (o_greatest_divisor a).ret
def g_greatest_divisor (a : E0_greatest_divisor) : Prop :=
  (let first := a.1; let second := a.2.1; ((whG ktg1_greatest_divisor kt1_greatest_divisor kg1_greatest_divisor k1_greatest_divisor (((Int.toNat second) + 1)) (first, second)) ∧ (∀ l5 : E1_greatest_divisor, (whO kt1_greatest_divisor k1_greatest_divisor (((Int.toNat second) + 1)) (first, second)) = Out.nx (S := Empty) l5 → True)))
theorem sc_greatest_divisor : FnScope ["first", "second"] ["first", "second"] (defScope (topS 9)) := ⟨rfl, rfl, rfl, by decide +kernel, rfl, by decide +kernel, by decide +kernel⟩
theorem b_greatest_divisor {K : Y.Frag} {mg : Str → Option Value} {ad : Nat → Addr} {fd : Nat → FuncData} (T : Tx K mg ad fd) : Binds K (fd 9) ["first", "second"] [] := T.F9.binds (ps := ["first", "second"]) fun _ _ _ _ _ _ us hl => match us, hl with | [_, _], _ => rfl
theorem f_greatest_divisor {P : Program} {w : World} {K : Y.Frag} {mg : Str → Option Value} {base : Heap} {ad : Nat → Addr} {fd : Nat → FuncData} (T : Tx K mg ad fd) : FnG P w K mg base 1 (ad 9) (fd 9) ["first", "second"] (spP K (ac cI (ac cI an)) cI g_greatest_divisor m_greatest_divisor) :=
  fn_pure T.F9 sc_greatest_divisor 0 (fun _ => rfl) rfl (owS := []) (ow' := []) (ΓS := fun _ : Empty => []) (Γ' := fun _ : Empty => []) (cr := cI) (ci := fun _ => []) (G := g_greatest_divisor) (d := o_greatest_divisor) (fun A0 cdv A outer s H E hr hg => by
    have hu : (A.deeper (envOfC _ (defScope (topS 9)) s.heap.objs.size _ cdv)).units + 64 < cLine := Nat.lt_of_le_of_lt (Nat.add_le_add_left (by decide) _) (room_un hr)
    have key : Dss (XF P w K mg base ["first", "second"] "greatest_divisor" (topS 9) (ad 9) cdv A outer s H E) ⟨A0, [], none⟩ [] (fun a : E0_greatest_divisor => ((ac cI (ac cI an)) a).map some ++ List.replicate 0 none) cI (fun _ => []) [] (fun _ : Empty => []) (defBody (topS 9)) _ _ [] (fun _ : Empty => []) := (s_consK (s_whileP (ΓL := (fun (e1 : E0_greatest_divisor) (m : E1_greatest_divisor) => [some (cI m.1), some (cI m.2)])) (fun q : E0_greatest_divisor => (q.1, q.2.1)) (fun (e1 : E0_greatest_divisor) (m : E1_greatest_divisor) => ((Int.toNat m.2) + 1)) (fun _ _ _ _ r => r) (fun e1 : E0_greatest_divisor => (t_cmp op_gt v_gt (d_var 1 (fun q : E1_greatest_divisor => q.2) cI (fun _ => rfl)) d_int (nomark _))) (fun e1 : E0_greatest_divisor => (s_cons (s_par 0 1 (ca := cI) (cb := cI) (ga := fun x : Int × Int × Unit => x.1) (gb := fun x : Int × Int × Unit => x.2.1) (a_cons (d_var 1 (fun q : E1_greatest_divisor => q.2) cI (fun _ => rfl)) (a_cons (d_op op_mod v_mod (d_var 0 (fun q : E1_greatest_divisor => q.1) cI (fun _ => rfl)) (d_var 1 (fun q : E1_greatest_divisor => q.2) cI (fun _ => rfl))) a_nil)) (fun _ => rfl) rfl (hN := sc_greatest_divisor.nd)) (s_end (ow2 := []) (Γ2 := (fun m : E1_greatest_divisor => [some (cI m.1), some (cI m.2)])) (fun q : E3_greatest_divisor => (q.1.2, q.2)) (fun _ _ _ _ r => r)))) PassesOwn.never) (s_one (s_ret (r := fun v (_ : E4_greatest_divisor) => v) (fun _ _ => rfl) rfl (d_var 0 (fun q : E4_greatest_divisor => q.2.1) cI (fun _ => rfl)))))
    exact dss_eq key (by kernel_rfl) (by kernel_rfl)) (fun _ h => h) (fun a _ => ends_ret (fun r => r) (fun _ => rfl) (o_greatest_divisor a))
abbrev E0_quotient : Type := Int × Int × Unit
abbrev E1_quotient : Type := E0_quotient × Int
abbrev E2_quotient : Type := E1_quotient × Int
abbrev E3_quotient : Type := E0_quotient × (Int × Int)
abbrev E4_quotient : Type := E3_quotient × Int
def o_quotient (a : E0_quotient) : Out Empty (Int × Int) Empty :=
  (let up := a.1; let down := a.2.1; (let j4 : Int × Int := (if (decide (down < (0 : Int))) = true then (let up2 : Int := (-up); let down3 : Int := (-down); (up2, down3)) else (up, down)); (let divisor5 : Int := (m_greatest_divisor ((((j4.1).natAbs : Nat) : Int), j4.2, ())); (Out.rt (((j4.1 / divisor5), (j4.2 / divisor5)))))))
def m_quotient (a : E0_quotient) : Int × Int := (o_quotient a).ret
def g_quotient (a : E0_quotient) : Prop :=
  (let up := a.1; let down := a.2.1; (((True ∧ True ∧ True) ∧ ((decide (down < (0 : Int))) = true → (((True ∧ True) ∧ ((True ∧ True) ∧ True)) ∧ (let up2 : Int := (-up); let down3 : Int := (-down); True))) ∧ ((decide (down < (0 : Int))) = false → True)) ∧ (let j4 : Int × Int := (if (decide (down < (0 : Int))) = true then (let up2 : Int := (-up); let down3 : Int := (-down); (up2, down3)) else (up, down)); (((((True ∧ True) ∧ True) ∧ (True ∧ True)) ∧ (g_greatest_divisor ((((j4.1).natAbs : Nat) : Int), j4.2, ()))) ∧ (let divisor5 : Int := (m_greatest_divisor ((((j4.1).natAbs : Nat) : Int), j4.2, ())); ((True ∧ True ∧ (CDivW j4.1 divisor5)) ∧ ((True ∧ True ∧ (CDivW j4.2 divisor5)) ∧ True)))))))
theorem sc_quotient : FnScope ["up", "down", "divisor"] ["up", "down"] (defScope (topS 10)) := ⟨rfl, rfl, rfl, by decide +kernel, rfl, by decide +kernel, by decide +kernel⟩
theorem b_quotient {K : Y.Frag} {mg : Str → Option Value} {ad : Nat → Addr} {fd : Nat → FuncData} (T : Tx K mg ad fd) : Binds K (fd 10) ["up", "down"] [] := T.F10.binds (ps := ["up", "down"]) fun _ _ _ _ _ _ us hl => match us, hl with | [_, _], _ => rfl
theorem f_quotient {P : Program} {w : World} {K : Y.Frag} {mg : Str → Option Value} {base : Heap} {ad : Nat → Addr} {fd : Nat → FuncData} (T : Tx K mg ad fd) : FnG P w K mg base 2 (ad 10) (fd 10) ["up", "down"] (spP K (ac cI (ac cI an)) (c2 cI cI) g_quotient m_quotient) :=
  fn_pure T.F10 sc_quotient 1 (fun _ => rfl) rfl (owS := []) (ow' := []) (ΓS := fun _ : Empty => []) (Γ' := fun _ : Empty => []) (cr := (c2 cI cI)) (ci := fun _ => []) (G := g_quotient) (d := o_quotient) (fun A0 cdv A outer s H E hr hg => by
    have hu : (A.deeper (envOfC _ (defScope (topS 10)) s.heap.objs.size _ cdv)).units + 64 < cLine := Nat.lt_of_le_of_lt (Nat.add_le_add_left (by decide) _) (room_un hr)
    have key : Dss (XF P w K mg base ["up", "down", "divisor"] "quotient" (topS 10) (ad 10) cdv A outer s H E) ⟨A0, [], none⟩ [] (fun a : E0_quotient => ((ac cI (ac cI an)) a).map some ++ List.replicate 1 none) (c2 cI cI) (fun _ => []) [] (fun _ : Empty => []) (defBody (topS 10)) _ _ [] (fun _ : Empty => []) := (s_cons (s_ifJ (t_cmp op_lt v_lt (d_var 1 (fun q : E0_quotient => q.2.1) cI (fun _ => rfl)) d_int (nomark _)) (s_cons (s_par 0 1 (ca := cI) (cb := cI) (ga := fun x : Int × Int × Unit => x.1) (gb := fun x : Int × Int × Unit => x.2.1) (a_cons (d_un un_neg v_neg (d_var 0 (fun q : E0_quotient => q.1) cI (fun _ => rfl))) (a_cons (d_un un_neg v_neg (d_var 1 (fun q : E0_quotient => q.2.1) cI (fun _ => rfl))) a_nil)) (fun _ => rfl) rfl (hN := sc_quotient.nd)) (s_end (ow2 := []) (Γ2 := fun q : E3_quotient => [some (cI q.2.1), some (cI q.2.2), none]) (fun q : E2_quotient => (q.1.1, (q.1.2, q.2))) (fun _ _ _ _ r => r))) (s_end (ow2 := []) (Γ2 := fun q : E3_quotient => [some (cI q.2.1), some (cI q.2.2), none]) (fun q : E0_quotient => (q, (q.1, q.2.1))) (fun _ _ _ _ r => r)) (fun _ => rfl) (fun _ => rfl)) (s_cons (s_asg 2 (d_call ((f_greatest_divisor T).mono (by decide)) hr hg T.M9 T.F9.kp (b_greatest_divisor T) (a_cons (d_blt call_abs v_abs T.z_abs (by decide +kernel) (a_cons (d_var 0 (fun q : E3_quotient => q.2.1) cI (fun _ => rfl)) a_nil)) (a_cons (d_var 1 (fun q : E3_quotient => q.2.2) cI (fun _ => rfl)) a_nil))) (hN := sc_quotient.nd)) (s_one (s_ret (r := fun v (_ : E4_quotient) => v) (fun _ _ => rfl) rfl (d_tp2 (a_cons (d_op op_fdivW v_fdiv (d_var 0 (fun q : E4_quotient => q.1.2.1) cI (fun _ => rfl)) (d_var 2 (fun q : E4_quotient => q.2) cI (fun _ => rfl))) (a_cons (d_op op_fdivW v_fdiv (d_var 1 (fun q : E4_quotient => q.1.2.2) cI (fun _ => rfl)) (d_var 2 (fun q : E4_quotient => q.2) cI (fun _ => rfl))) a_nil)))))))
    exact dss_eq key (by kernel_rfl) (by kernel_rfl)) (fun _ h => h) (fun a _ => ends_ret (fun r => r) (fun _ => rfl) (o_quotient a))
abbrev E0_plus : Type := (Int × Int) × (Int × Int) × Unit
def o_plus (a : E0_plus) : Out Empty (Int × Int) Empty :=
  (let first := a.1; let second := a.2.1; (Out.rt ((m_quotient (((first.1 * second.2) + (second.1 * first.2)), (first.2 * second.2), ())))))
def m_plus (a : E0_plus) : Int × Int := (o_plus a).ret
def g_plus (a : E0_plus) : Prop :=
  (let first := a.1; let second := a.2.1; ((((True ∧ True ∧ (CMulW first.1 second.2)) ∧ (True ∧ True ∧ (CMulW second.1 first.2)) ∧ True) ∧ ((True ∧ True ∧ (CMulW first.2 second.2)) ∧ True)) ∧ (g_quotient (((first.1 * second.2) + (second.1 * first.2)), (first.2 * second.2), ()))))
theorem sc_plus : FnScope ["first", "second"] ["first", "second"] (defScope (topS 11)) := ⟨rfl, rfl, rfl, by decide +kernel, rfl, by decide +kernel, by decide +kernel⟩
theorem b_plus {K : Y.Frag} {mg : Str → Option Value} {ad : Nat → Addr} {fd : Nat → FuncData} (T : Tx K mg ad fd) : Binds K (fd 11) ["first", "second"] [] := T.F11.binds (ps := ["first", "second"]) fun _ _ _ _ _ _ us hl => match us, hl with | [_, _], _ => rfl
theorem f_plus {P : Program} {w : World} {K : Y.Frag} {mg : Str → Option Value} {base : Heap} {ad : Nat → Addr} {fd : Nat → FuncData} (T : Tx K mg ad fd) : FnG P w K mg base 3 (ad 11) (fd 11) ["first", "second"] (spP K (ac (c2 cI cI) (ac (c2 cI cI) an)) (c2 cI cI) g_plus m_plus) :=
  fn_pure T.F11 sc_plus 0 (fun _ => rfl) rfl (owS := []) (ow' := []) (ΓS := fun _ : Empty => []) (Γ' := fun _ : Empty => []) (cr := (c2 cI cI)) (ci := fun _ => []) (G := g_plus) (d := o_plus) (fun A0 cdv A outer s H E hr hg => by
    have hu : (A.deeper (envOfC _ (defScope (topS 11)) s.heap.objs.size _ cdv)).units + 64 < cLine := Nat.lt_of_le_of_lt (Nat.add_le_add_left (by decide) _) (room_un hr)
    have key : Dss (XF P w K mg base ["first", "second"] "plus" (topS 11) (ad 11) cdv A outer s H E) ⟨A0, [], none⟩ [] (fun a : E0_plus => ((ac (c2 cI cI) (ac (c2 cI cI) an)) a).map some ++ List.replicate 0 none) (c2 cI cI) (fun _ => []) [] (fun _ : Empty => []) (defBody (topS 11)) _ _ [] (fun _ : Empty => []) := (s_one (s_ret (r := fun v (_ : E0_plus) => v) (fun _ _ => rfl) rfl (d_call ((f_quotient T).mono (by decide)) hr hg T.M10 T.F10.kp (b_quotient T) (a_cons (d_op op_add v_add (d_op op_mulW v_mulW (d_prj 0 (fun x : Int × Int => x.1) (cb := cI) (fun _ => ⟨_, rfl, rfl⟩) (d_var 0 (fun q : E0_plus => q.1) (c2 cI cI) (fun _ => rfl)) d_int) (d_prj 1 (fun x : Int × Int => x.2) (cb := cI) (fun _ => ⟨_, rfl, rfl⟩) (d_var 1 (fun q : E0_plus => q.2.1) (c2 cI cI) (fun _ => rfl)) d_int)) (d_op op_mulW v_mulW (d_prj 0 (fun x : Int × Int => x.1) (cb := cI) (fun _ => ⟨_, rfl, rfl⟩) (d_var 1 (fun q : E0_plus => q.2.1) (c2 cI cI) (fun _ => rfl)) d_int) (d_prj 1 (fun x : Int × Int => x.2) (cb := cI) (fun _ => ⟨_, rfl, rfl⟩) (d_var 0 (fun q : E0_plus => q.1) (c2 cI cI) (fun _ => rfl)) d_int))) (a_cons (d_op op_mulW v_mulW (d_prj 1 (fun x : Int × Int => x.2) (cb := cI) (fun _ => ⟨_, rfl, rfl⟩) (d_var 0 (fun q : E0_plus => q.1) (c2 cI cI) (fun _ => rfl)) d_int) (d_prj 1 (fun x : Int × Int => x.2) (cb := cI) (fun _ => ⟨_, rfl, rfl⟩) (d_var 1 (fun q : E0_plus => q.2.1) (c2 cI cI) (fun _ => rfl)) d_int)) a_nil)))))
    exact dss_eq key (by kernel_rfl) (by kernel_rfl)) (fun _ h => h) (fun a _ => ends_ret (fun r => r) (fun _ => rfl) (o_plus a))
abbrev E0_minus : Type := (Int × Int) × (Int × Int) × Unit
def o_minus (a : E0_minus) : Out Empty (Int × Int) Empty :=
  (let first := a.1; let second := a.2.1; (Out.rt ((m_quotient (((first.1 * second.2) - (second.1 * first.2)), (first.2 * second.2), ())))))
def m_minus (a : E0_minus) : Int × Int := (o_minus a).ret
def g_minus (a : E0_minus) : Prop :=
  (let first := a.1; let second := a.2.1; ((((True ∧ True ∧ (CMulW first.1 second.2)) ∧ (True ∧ True ∧ (CMulW second.1 first.2)) ∧ True) ∧ ((True ∧ True ∧ (CMulW first.2 second.2)) ∧ True)) ∧ (g_quotient (((first.1 * second.2) - (second.1 * first.2)), (first.2 * second.2), ()))))
theorem sc_minus : FnScope ["first", "second"] ["first", "second"] (defScope (topS 12)) := ⟨rfl, rfl, rfl, by decide +kernel, rfl, by decide +kernel, by decide +kernel⟩
theorem b_minus {K : Y.Frag} {mg : Str → Option Value} {ad : Nat → Addr} {fd : Nat → FuncData} (T : Tx K mg ad fd) : Binds K (fd 12) ["first", "second"] [] := T.F12.binds (ps := ["first", "second"]) fun _ _ _ _ _ _ us hl => match us, hl with | [_, _], _ => rfl
theorem f_minus {P : Program} {w : World} {K : Y.Frag} {mg : Str → Option Value} {base : Heap} {ad : Nat → Addr} {fd : Nat → FuncData} (T : Tx K mg ad fd) : FnG P w K mg base 3 (ad 12) (fd 12) ["first", "second"] (spP K (ac (c2 cI cI) (ac (c2 cI cI) an)) (c2 cI cI) g_minus m_minus) :=
  fn_pure T.F12 sc_minus 0 (fun _ => rfl) rfl (owS := []) (ow' := []) (ΓS := fun _ : Empty => []) (Γ' := fun _ : Empty => []) (cr := (c2 cI cI)) (ci := fun _ => []) (G := g_minus) (d := o_minus) (fun A0 cdv A outer s H E hr hg => by
    have hu : (A.deeper (envOfC _ (defScope (topS 12)) s.heap.objs.size _ cdv)).units + 64 < cLine := Nat.lt_of_le_of_lt (Nat.add_le_add_left (by decide) _) (room_un hr)
    have key : Dss (XF P w K mg base ["first", "second"] "minus" (topS 12) (ad 12) cdv A outer s H E) ⟨A0, [], none⟩ [] (fun a : E0_minus => ((ac (c2 cI cI) (ac (c2 cI cI) an)) a).map some ++ List.replicate 0 none) (c2 cI cI) (fun _ => []) [] (fun _ : Empty => []) (defBody (topS 12)) _ _ [] (fun _ : Empty => []) := (s_one (s_ret (r := fun v (_ : E0_minus) => v) (fun _ _ => rfl) rfl (d_call ((f_quotient T).mono (by decide)) hr hg T.M10 T.F10.kp (b_quotient T) (a_cons (d_op op_sub v_sub (d_op op_mulW v_mulW (d_prj 0 (fun x : Int × Int => x.1) (cb := cI) (fun _ => ⟨_, rfl, rfl⟩) (d_var 0 (fun q : E0_minus => q.1) (c2 cI cI) (fun _ => rfl)) d_int) (d_prj 1 (fun x : Int × Int => x.2) (cb := cI) (fun _ => ⟨_, rfl, rfl⟩) (d_var 1 (fun q : E0_minus => q.2.1) (c2 cI cI) (fun _ => rfl)) d_int)) (d_op op_mulW v_mulW (d_prj 0 (fun x : Int × Int => x.1) (cb := cI) (fun _ => ⟨_, rfl, rfl⟩) (d_var 1 (fun q : E0_minus => q.2.1) (c2 cI cI) (fun _ => rfl)) d_int) (d_prj 1 (fun x : Int × Int => x.2) (cb := cI) (fun _ => ⟨_, rfl, rfl⟩) (d_var 0 (fun q : E0_minus => q.1) (c2 cI cI) (fun _ => rfl)) d_int))) (a_cons (d_op op_mulW v_mulW (d_prj 1 (fun x : Int × Int => x.2) (cb := cI) (fun _ => ⟨_, rfl, rfl⟩) (d_var 0 (fun q : E0_minus => q.1) (c2 cI cI) (fun _ => rfl)) d_int) (d_prj 1 (fun x : Int × Int => x.2) (cb := cI) (fun _ => ⟨_, rfl, rfl⟩) (d_var 1 (fun q : E0_minus => q.2.1) (c2 cI cI) (fun _ => rfl)) d_int)) a_nil)))))
    exact dss_eq key (by kernel_rfl) (by kernel_rfl)) (fun _ h => h) (fun a _ => ends_ret (fun r => r) (fun _ => rfl) (o_minus a))
abbrev E0_times : Type := (Int × Int) × (Int × Int) × Unit
def o_times (a : E0_times) : Out Empty (Int × Int) Empty :=
  (let first := a.1; let second := a.2.1; (Out.rt ((m_quotient ((first.1 * second.1), (first.2 * second.2), ())))))
def m_times (a : E0_times) : Int × Int := (o_times a).ret
def g_times (a : E0_times) : Prop :=
  (let first := a.1; let second := a.2.1; (((True ∧ True ∧ (CMulW first.1 second.1)) ∧ ((True ∧ True ∧ (CMulW first.2 second.2)) ∧ True)) ∧ (g_quotient ((first.1 * second.1), (first.2 * second.2), ()))))
theorem sc_times : FnScope ["first", "second"] ["first", "second"] (defScope (topS 13)) := ⟨rfl, rfl, rfl, by decide +kernel, rfl, by decide +kernel, by decide +kernel⟩
theorem b_times {K : Y.Frag} {mg : Str → Option Value} {ad : Nat → Addr} {fd : Nat → FuncData} (T : Tx K mg ad fd) : Binds K (fd 13) ["first", "second"] [] := T.F13.binds (ps := ["first", "second"]) fun _ _ _ _ _ _ us hl => match us, hl with | [_, _], _ => rfl
theorem f_times {P : Program} {w : World} {K : Y.Frag} {mg : Str → Option Value} {base : Heap} {ad : Nat → Addr} {fd : Nat → FuncData} (T : Tx K mg ad fd) : FnG P w K mg base 3 (ad 13) (fd 13) ["first", "second"] (spP K (ac (c2 cI cI) (ac (c2 cI cI) an)) (c2 cI cI) g_times m_times) :=
  fn_pure T.F13 sc_times 0 (fun _ => rfl) rfl (owS := []) (ow' := []) (ΓS := fun _ : Empty => []) (Γ' := fun _ : Empty => []) (cr := (c2 cI cI)) (ci := fun _ => []) (G := g_times) (d := o_times) (fun A0 cdv A outer s H E hr hg => by
    have hu : (A.deeper (envOfC _ (defScope (topS 13)) s.heap.objs.size _ cdv)).units + 64 < cLine := Nat.lt_of_le_of_lt (Nat.add_le_add_left (by decide) _) (room_un hr)
    have key : Dss (XF P w K mg base ["first", "second"] "times" (topS 13) (ad 13) cdv A outer s H E) ⟨A0, [], none⟩ [] (fun a : E0_times => ((ac (c2 cI cI) (ac (c2 cI cI) an)) a).map some ++ List.replicate 0 none) (c2 cI cI) (fun _ => []) [] (fun _ : Empty => []) (defBody (topS 13)) _ _ [] (fun _ : Empty => []) := (s_one (s_ret (r := fun v (_ : E0_times) => v) (fun _ _ => rfl) rfl (d_call ((f_quotient T).mono (by decide)) hr hg T.M10 T.F10.kp (b_quotient T) (a_cons (d_op op_mulW v_mulW (d_prj 0 (fun x : Int × Int => x.1) (cb := cI) (fun _ => ⟨_, rfl, rfl⟩) (d_var 0 (fun q : E0_times => q.1) (c2 cI cI) (fun _ => rfl)) d_int) (d_prj 0 (fun x : Int × Int => x.1) (cb := cI) (fun _ => ⟨_, rfl, rfl⟩) (d_var 1 (fun q : E0_times => q.2.1) (c2 cI cI) (fun _ => rfl)) d_int)) (a_cons (d_op op_mulW v_mulW (d_prj 1 (fun x : Int × Int => x.2) (cb := cI) (fun _ => ⟨_, rfl, rfl⟩) (d_var 0 (fun q : E0_times => q.1) (c2 cI cI) (fun _ => rfl)) d_int) (d_prj 1 (fun x : Int × Int => x.2) (cb := cI) (fun _ => ⟨_, rfl, rfl⟩) (d_var 1 (fun q : E0_times => q.2.1) (c2 cI cI) (fun _ => rfl)) d_int)) a_nil)))))
    exact dss_eq key (by kernel_rfl) (by kernel_rfl)) (fun _ h => h) (fun a _ => ends_ret (fun r => r) (fun _ => rfl) (o_times a))
abbrev E0_over : Type := (Int × Int) × (Int × Int) × Unit
def o_over (a : E0_over) : Out Empty (Int × Int) Empty :=
  (let first := a.1; let second := a.2.1; (Out.rt ((m_quotient ((first.1 * second.2), (first.2 * second.1), ())))))
def m_over (a : E0_over) : Int × Int := (o_over a).ret
def g_over (a : E0_over) : Prop :=
  (let first := a.1; let second := a.2.1; (((True ∧ True ∧ (CMulW first.1 second.2)) ∧ ((True ∧ True ∧ (CMulW first.2 second.1)) ∧ True)) ∧ (g_quotient ((first.1 * second.2), (first.2 * second.1), ()))))
theorem sc_over : FnScope ["first", "second"] ["first", "second"] (defScope (topS 14)) := ⟨rfl, rfl, rfl, by decide +kernel, rfl, by decide +kernel, by decide +kernel⟩
theorem b_over {K : Y.Frag} {mg : Str → Option Value} {ad : Nat → Addr} {fd : Nat → FuncData} (T : Tx K mg ad fd) : Binds K (fd 14) ["first", "second"] [] := T.F14.binds (ps := ["first", "second"]) fun _ _ _ _ _ _ us hl => match us, hl with | [_, _], _ => rfl
theorem f_over {P : Program} {w : World} {K : Y.Frag} {mg : Str → Option Value} {base : Heap} {ad : Nat → Addr} {fd : Nat → FuncData} (T : Tx K mg ad fd) : FnG P w K mg base 3 (ad 14) (fd 14) ["first", "second"] (spP K (ac (c2 cI cI) (ac (c2 cI cI) an)) (c2 cI cI) g_over m_over) :=
  fn_pure T.F14 sc_over 0 (fun _ => rfl) rfl (owS := []) (ow' := []) (ΓS := fun _ : Empty => []) (Γ' := fun _ : Empty => []) (cr := (c2 cI cI)) (ci := fun _ => []) (G := g_over) (d := o_over) (fun A0 cdv A outer s H E hr hg => by
    have hu : (A.deeper (envOfC _ (defScope (topS 14)) s.heap.objs.size _ cdv)).units + 64 < cLine := Nat.lt_of_le_of_lt (Nat.add_le_add_left (by decide) _) (room_un hr)
    have key : Dss (XF P w K mg base ["first", "second"] "over" (topS 14) (ad 14) cdv A outer s H E) ⟨A0, [], none⟩ [] (fun a : E0_over => ((ac (c2 cI cI) (ac (c2 cI cI) an)) a).map some ++ List.replicate 0 none) (c2 cI cI) (fun _ => []) [] (fun _ : Empty => []) (defBody (topS 14)) _ _ [] (fun _ : Empty => []) := (s_one (s_ret (r := fun v (_ : E0_over) => v) (fun _ _ => rfl) rfl (d_call ((f_quotient T).mono (by decide)) hr hg T.M10 T.F10.kp (b_quotient T) (a_cons (d_op op_mulW v_mulW (d_prj 0 (fun x : Int × Int => x.1) (cb := cI) (fun _ => ⟨_, rfl, rfl⟩) (d_var 0 (fun q : E0_over => q.1) (c2 cI cI) (fun _ => rfl)) d_int) (d_prj 1 (fun x : Int × Int => x.2) (cb := cI) (fun _ => ⟨_, rfl, rfl⟩) (d_var 1 (fun q : E0_over => q.2.1) (c2 cI cI) (fun _ => rfl)) d_int)) (a_cons (d_op op_mulW v_mulW (d_prj 1 (fun x : Int × Int => x.2) (cb := cI) (fun _ => ⟨_, rfl, rfl⟩) (d_var 0 (fun q : E0_over => q.1) (c2 cI cI) (fun _ => rfl)) d_int) (d_prj 0 (fun x : Int × Int => x.1) (cb := cI) (fun _ => ⟨_, rfl, rfl⟩) (d_var 1 (fun q : E0_over => q.2.1) (c2 cI cI) (fun _ => rfl)) d_int)) a_nil)))))
    exact dss_eq key (by kernel_rfl) (by kernel_rfl)) (fun _ h => h) (fun a _ => ends_ret (fun r => r) (fun _ => rfl) (o_over a))
abbrev E0_is_less : Type := (Int × Int) × (Int × Int) × Unit
def o_is_less (a : E0_is_less) : Out Empty (Bool) Empty :=
  (let first := a.1; let second := a.2.1; (Out.rt ((decide ((first.1 * second.2) < (second.1 * first.2))))))
def m_is_less (a : E0_is_less) : Bool := (o_is_less a).ret
def g_is_less (a : E0_is_less) : Prop :=
  (let first := a.1; let second := a.2.1; ((True ∧ True ∧ (CMulW first.1 second.2)) ∧ (True ∧ True ∧ (CMulW second.1 first.2)) ∧ True))
theorem sc_is_less : FnScope ["first", "second"] ["first", "second"] (defScope (topS 15)) := ⟨rfl, rfl, rfl, by decide +kernel, rfl, by decide +kernel, by decide +kernel⟩
theorem b_is_less {K : Y.Frag} {mg : Str → Option Value} {ad : Nat → Addr} {fd : Nat → FuncData} (T : Tx K mg ad fd) : Binds K (fd 15) ["first", "second"] [] := T.F15.binds (ps := ["first", "second"]) fun _ _ _ _ _ _ us hl => match us, hl with | [_, _], _ => rfl
theorem f_is_less {P : Program} {w : World} {K : Y.Frag} {mg : Str → Option Value} {base : Heap} {ad : Nat → Addr} {fd : Nat → FuncData} (T : Tx K mg ad fd) : FnG P w K mg base 1 (ad 15) (fd 15) ["first", "second"] (spP K (ac (c2 cI cI) (ac (c2 cI cI) an)) cB g_is_less m_is_less) :=
  fn_pure T.F15 sc_is_less 0 (fun _ => rfl) rfl (owS := []) (ow' := []) (ΓS := fun _ : Empty => []) (Γ' := fun _ : Empty => []) (cr := cB) (ci := fun _ => []) (G := g_is_less) (d := o_is_less) (fun A0 cdv A outer s H E hr hg => by
    have hu : (A.deeper (envOfC _ (defScope (topS 15)) s.heap.objs.size _ cdv)).units + 64 < cLine := Nat.lt_of_le_of_lt (Nat.add_le_add_left (by decide) _) (room_un hr)
    have key : Dss (XF P w K mg base ["first", "second"] "is_less" (topS 15) (ad 15) cdv A outer s H E) ⟨A0, [], none⟩ [] (fun a : E0_is_less => ((ac (c2 cI cI) (ac (c2 cI cI) an)) a).map some ++ List.replicate 0 none) cB (fun _ => []) [] (fun _ : Empty => []) (defBody (topS 15)) _ _ [] (fun _ : Empty => []) := (s_one (s_ret (r := fun v (_ : E0_is_less) => v) (fun _ _ => rfl) rfl (d_cmp op_lt v_lt (d_op op_mulW v_mulW (d_prj 0 (fun x : Int × Int => x.1) (cb := cI) (fun _ => ⟨_, rfl, rfl⟩) (d_var 0 (fun q : E0_is_less => q.1) (c2 cI cI) (fun _ => rfl)) d_int) (d_prj 1 (fun x : Int × Int => x.2) (cb := cI) (fun _ => ⟨_, rfl, rfl⟩) (d_var 1 (fun q : E0_is_less => q.2.1) (c2 cI cI) (fun _ => rfl)) d_int)) (d_op op_mulW v_mulW (d_prj 0 (fun x : Int × Int => x.1) (cb := cI) (fun _ => ⟨_, rfl, rfl⟩) (d_var 1 (fun q : E0_is_less => q.2.1) (c2 cI cI) (fun _ => rfl)) d_int) (d_prj 1 (fun x : Int × Int => x.2) (cb := cI) (fun _ => ⟨_, rfl, rfl⟩) (d_var 0 (fun q : E0_is_less => q.1) (c2 cI cI) (fun _ => rfl)) d_int)) (nomark _))))
    exact dss_eq key (by kernel_rfl) (by kernel_rfl)) (fun _ h => h) (fun a _ => ends_ret (fun r => r) (fun _ => rfl) (o_is_less a))
abbrev E0_sum_of : Type := (List (Int × Int)) × Unit
abbrev E1_sum_of : Type := E0_sum_of × (Int × Int)
abbrev E2_sum_of : Type := Int × Int
abbrev E3_sum_of : Type := E2_sum_of × (Int × Int)
abbrev E4_sum_of : Type := E3_sum_of × (Int × Int)
abbrev E5_sum_of : Type := E1_sum_of × E2_sum_of
def k1_sum_of (q3 : E3_sum_of) : E2_sum_of :=
  (let total4 : Int × Int := (m_plus (q3.1, q3.2, ())); total4)
def kg1_sum_of (q3 : E3_sum_of) : Prop :=
  (((True ∧ (True ∧ True)) ∧ (g_plus (q3.1, q3.2, ()))) ∧ (let total4 : Int × Int := (m_plus (q3.1, q3.2, ())); True))
def o_sum_of (a : E0_sum_of) : Out Empty (Int × Int) Empty :=
  (let rows := a.1; (let total1 : Int × Int := ((0 : Int), (1 : Int)); (let l5 : E2_sum_of := (rows.foldl (fun m x => k1_sum_of (m, x)) total1); (Out.rt l5))))
def m_sum_of (a : E0_sum_of) : Int × Int := (o_sum_of a).ret
def g_sum_of (a : E0_sum_of) : Prop :=
  (let rows := a.1; ((True ∧ (True ∧ True)) ∧ (let total1 : Int × Int := ((0 : Int), (1 : Int)); ((True ∧ (forN kg1_sum_of k1_sum_of total1 rows)) ∧ (let l5 : E2_sum_of := (rows.foldl (fun m x => k1_sum_of (m, x)) total1); True)))))
theorem sc_sum_of : FnScope ["rows", "total", "row"] ["rows"] (defScope (topS 16)) := ⟨rfl, rfl, rfl, by decide +kernel, rfl, by decide +kernel, by decide +kernel⟩
theorem b_sum_of {K : Y.Frag} {mg : Str → Option Value} {ad : Nat → Addr} {fd : Nat → FuncData} (T : Tx K mg ad fd) : Binds K (fd 16) ["rows"] [] := T.F16.binds (ps := ["rows"]) fun _ _ _ _ _ _ us hl => match us, hl with | [_], _ => rfl
theorem f_sum_of {P : Program} {w : World} {K : Y.Frag} {mg : Str → Option Value} {base : Heap} {ad : Nat → Addr} {fd : Nat → FuncData} (T : Tx K mg ad fd) : FnG P w K mg base 4 (ad 16) (fd 16) ["rows"] (spP K (ac (cL (c2 cI cI)) an) (c2 cI cI) g_sum_of m_sum_of) :=
  fn_pure T.F16 sc_sum_of 2 (fun _ => rfl) rfl (owS := []) (ow' := []) (ΓS := fun _ : Empty => []) (Γ' := fun _ : Empty => []) (cr := (c2 cI cI)) (ci := fun _ => []) (G := g_sum_of) (d := o_sum_of) (fun A0 cdv A outer s H E hr hg => by
    have hu : (A.deeper (envOfC _ (defScope (topS 16)) s.heap.objs.size _ cdv)).units + 64 < cLine := Nat.lt_of_le_of_lt (Nat.add_le_add_left (by decide) _) (room_un hr)
    have key : Dss (XF P w K mg base ["rows", "total", "row"] "sum_of" (topS 16) (ad 16) cdv A outer s H E) ⟨A0, [], none⟩ [] (fun a : E0_sum_of => ((ac (cL (c2 cI cI)) an) a).map some ++ List.replicate 2 none) (c2 cI cI) (fun _ => []) [] (fun _ : Empty => []) (defBody (topS 16)) _ _ [] (fun _ : Empty => []) := (s_cons (s_asg 1 (d_tp2 (a_cons d_int (a_cons d_int a_nil))) (hN := sc_sum_of.nd)) (s_cons (s_forN (ΓL := (fun (e2 : E1_sum_of) (m : E2_sum_of) => [some ((cL (c2 cI cI)) e2.1.1), some ((c2 cI cI) m), none])) (fun q : E1_sum_of => q.2) (i_lst (d_var 0 (fun q : E1_sum_of => q.1.1) (cL (c2 cI cI)) (fun _ => rfl))) (fun _ _ _ _ r => r) (pg_name (i := 2) sc_sum_of.nd rfl (by first | exact .inl rfl | exact .inr rfl)) (tg_name 2) (fun e2 : E1_sum_of => (s_cons (s_asg 1 (d_call ((f_plus T).mono (by decide)) hr hg T.M11 T.F11.kp (b_plus T) (a_cons (d_var 1 (fun q : E3_sum_of => q.1) (c2 cI cI) (fun _ => rfl)) (a_cons (d_var 2 (fun q : E3_sum_of => q.2) (c2 cI cI) (fun _ => rfl)) a_nil))) (hN := sc_sum_of.nd)) (s_end (ow2 := []) (Γ2 := (fun m : E2_sum_of => [some ((cL (c2 cI cI)) e2.1.1), some ((c2 cI cI) m), none])) (fun q : E4_sum_of => q.2) (fun _ _ _ _ r => r.wk (.k (.k (.f .nil))))))) (fun _ _ => rfl) PassesOwn.never) (s_one (s_ret (r := fun v (_ : E5_sum_of) => v) (fun _ _ => rfl) rfl (d_var 1 (fun q : E5_sum_of => q.2) (c2 cI cI) (fun _ => rfl))))))
    exact dss_eq key (by kernel_rfl) (by kernel_rfl)) (fun _ h => h) (fun a _ => ends_ret (fun r => r) (fun _ => rfl) (o_sum_of a))
abbrev E0_power : Type := (Int × Int) × Int × Unit
abbrev E1_power : Type := E0_power × (Int × Int)
abbrev E2_power : Type := Int × Int
abbrev E3_power : Type := E2_power × Int
abbrev E4_power : Type := E3_power × (Int × Int)
abbrev E5_power : Type := E1_power × E2_power
def k1_power (base : Int × Int) (q3 : E3_power) : E2_power :=
  (let total4 : Int × Int := (m_times (q3.1, base, ())); total4)
def kg1_power (base : Int × Int) (q3 : E3_power) : Prop :=
  (((True ∧ (True ∧ True)) ∧ (g_times (q3.1, base, ()))) ∧ (let total4 : Int × Int := (m_times (q3.1, base, ())); True))
def o_power (a : E0_power) : Out Empty (Int × Int) Empty :=
  (let base := a.1; let many := a.2.1; (let total1 : Int × Int := ((1 : Int), (1 : Int)); (let l5 : E2_power := (((rng 0 many)).foldl (fun m x => (k1_power base) (m, x)) total1); (Out.rt l5))))
def m_power (a : E0_power) : Int × Int := (o_power a).ret
def g_power (a : E0_power) : Prop :=
  (let base := a.1; let many := a.2.1; ((True ∧ (True ∧ True)) ∧ (let total1 : Int × Int := ((1 : Int), (1 : Int)); ((((True ∧ True) ∧ (CRg 0 many)) ∧ (forN (kg1_power base) (k1_power base) total1 (rng 0 many))) ∧ (let l5 : E2_power := (((rng 0 many)).foldl (fun m x => (k1_power base) (m, x)) total1); True)))))
theorem sc_power : FnScope ["base", "many", "total", "at"] ["base", "many"] (defScope (topS 17)) := ⟨rfl, rfl, rfl, by decide +kernel, rfl, by decide +kernel, by decide +kernel⟩
theorem b_power {K : Y.Frag} {mg : Str → Option Value} {ad : Nat → Addr} {fd : Nat → FuncData} (T : Tx K mg ad fd) : Binds K (fd 17) ["base", "many"] [] := T.F17.binds (ps := ["base", "many"]) fun _ _ _ _ _ _ us hl => match us, hl with | [_, _], _ => rfl
theorem f_power {P : Program} {w : World} {K : Y.Frag} {mg : Str → Option Value} {base : Heap} {ad : Nat → Addr} {fd : Nat → FuncData} (T : Tx K mg ad fd) : FnG P w K mg base 4 (ad 17) (fd 17) ["base", "many"] (spP K (ac (c2 cI cI) (ac cI an)) (c2 cI cI) g_power m_power) :=
  fn_pure T.F17 sc_power 2 (fun _ => rfl) rfl (owS := []) (ow' := []) (ΓS := fun _ : Empty => []) (Γ' := fun _ : Empty => []) (cr := (c2 cI cI)) (ci := fun _ => []) (G := g_power) (d := o_power) (fun A0 cdv A outer s H E hr hg => by
    have hu : (A.deeper (envOfC _ (defScope (topS 17)) s.heap.objs.size _ cdv)).units + 64 < cLine := Nat.lt_of_le_of_lt (Nat.add_le_add_left (by decide) _) (room_un hr)
    have key : Dss (XF P w K mg base ["base", "many", "total", "at"] "power" (topS 17) (ad 17) cdv A outer s H E) ⟨A0, [], none⟩ [] (fun a : E0_power => ((ac (c2 cI cI) (ac cI an)) a).map some ++ List.replicate 2 none) (c2 cI cI) (fun _ => []) [] (fun _ : Empty => []) (defBody (topS 17)) _ _ [] (fun _ : Empty => []) := (s_cons (s_asg 2 (d_tp2 (a_cons d_int (a_cons d_int a_nil))) (hN := sc_power.nd)) (s_cons (s_forN (ΓL := (fun (e2 : E1_power) (m : E2_power) => [some ((c2 cI cI) e2.1.1), some (cI e2.1.2.1), some ((c2 cI cI) m), none])) (fun q : E1_power => q.2) (i_rng1 (a_cons (d_var 1 (fun q : E1_power => q.1.2.1) cI (fun _ => rfl)) a_nil) T.z_range) (fun _ _ _ _ r => r) (pg_name (i := 3) sc_power.nd rfl (by first | exact .inl rfl | exact .inr rfl)) (tg_name 3) (fun e2 : E1_power => (s_cons (s_asg 2 (d_call ((f_times T).mono (by decide)) hr hg T.M13 T.F13.kp (b_times T) (a_cons (d_var 2 (fun q : E3_power => q.1) (c2 cI cI) (fun _ => rfl)) (a_cons (d_var 0 (fun q : E3_power => e2.1.1) (c2 cI cI) (fun _ => rfl)) a_nil))) (hN := sc_power.nd)) (s_end (ow2 := []) (Γ2 := (fun m : E2_power => [some ((c2 cI cI) e2.1.1), some (cI e2.1.2.1), some ((c2 cI cI) m), none])) (fun q : E4_power => q.2) (fun _ _ _ _ r => r.wk (.k (.k (.k (.f .nil)))))))) (fun _ _ => rfl) PassesOwn.never) (s_one (s_ret (r := fun v (_ : E5_power) => v) (fun _ _ => rfl) rfl (d_var 2 (fun q : E5_power => q.2) (c2 cI cI) (fun _ => rfl))))))
    exact dss_eq key (by kernel_rfl) (by kernel_rfl)) (fun _ h => h) (fun a _ => ends_ret (fun r => r) (fun _ => rfl) (o_power a))
abbrev E0_is_quotient : Type := (Int × Int) × Unit
abbrev E1_is_quotient : Type := E0_is_quotient × Int
def o_is_quotient (a : E0_is_quotient) : Out Empty (Bool) Empty :=
  (let value := a.1; (if ((!true) || ((!decide ((([value.1, value.2]).length : Int) = (2 : Int))) || (!((((([value.1, value.2]).map fun x1 => (m_is_integer (x1, ())))).all id))))) = true then (Out.rt false) else (Out.rt (((decide ((1 : Int) ≤ value.2)) && (decide ((m_greatest_divisor ((((value.1).natAbs : Nat) : Int), value.2, ())) = (1 : Int))))))))
def m_is_quotient (a : E0_is_quotient) : Bool := (o_is_quotient a).ret
def g_is_quotient (a : E0_is_quotient) : Prop :=
  (let value := a.1; ((True ∧ ((!true) = false → ((((True ∧ True) ∧ True) ∧ True ∧ True) ∧ ((!decide ((([value.1, value.2]).length : Int) = (2 : Int))) = false → (((True ∧ (∀ x1 ∈ [value.1, value.2], ((True ∧ True) ∧ (g_is_integer (x1, ()))))) ∧ True) ∧ True))))) ∧ (((!true) || ((!decide ((([value.1, value.2]).length : Int) = (2 : Int))) || (!((((([value.1, value.2]).map fun x1 => (m_is_integer (x1, ())))).all id))))) = true → True) ∧ (((!true) || ((!decide ((([value.1, value.2]).length : Int) = (2 : Int))) || (!((((([value.1, value.2]).map fun x1 => (m_is_integer (x1, ())))).all id))))) = false → ((True ∧ True ∧ True) ∧ ((decide ((1 : Int) ≤ value.2)) = true → (((((True ∧ True) ∧ True) ∧ (True ∧ True)) ∧ (g_greatest_divisor ((((value.1).natAbs : Nat) : Int), value.2, ()))) ∧ True ∧ True))))))
theorem sc_is_quotient : FnScope ["value", "part"] ["value"] (defScope (topS 18)) := ⟨rfl, rfl, rfl, by decide +kernel, rfl, by decide +kernel, by decide +kernel⟩
theorem b_is_quotient {K : Y.Frag} {mg : Str → Option Value} {ad : Nat → Addr} {fd : Nat → FuncData} (T : Tx K mg ad fd) : Binds K (fd 18) ["value"] [] := T.F18.binds (ps := ["value"]) fun _ _ _ _ _ _ us hl => match us, hl with | [_], _ => rfl
theorem f_is_quotient {P : Program} {w : World} {K : Y.Frag} {mg : Str → Option Value} {base : Heap} {ad : Nat → Addr} {fd : Nat → FuncData} (T : Tx K mg ad fd) : FnG P w K mg base 2 (ad 18) (fd 18) ["value"] (spP K (ac (c2 cI cI) an) cB g_is_quotient m_is_quotient) :=
  fn_pure T.F18 sc_is_quotient 1 (fun _ => rfl) rfl (owS := []) (ow' := []) (ΓS := fun _ : Empty => []) (Γ' := fun _ : Empty => []) (cr := cB) (ci := fun _ => []) (G := g_is_quotient) (d := o_is_quotient) (fun A0 cdv A outer s H E hr hg => by
    have hu : (A.deeper (envOfC _ (defScope (topS 18)) s.heap.objs.size _ cdv)).units + 64 < cLine := Nat.lt_of_le_of_lt (Nat.add_le_add_left (by decide) _) (room_un hr)
    have key : Dss (XF P w K mg base ["value", "part"] "is_quotient" (topS 18) (ad 18) cdv A outer s H E) ⟨A0, [], none⟩ [] (fun a : E0_is_quotient => ((ac (c2 cI cI) an) a).map some ++ List.replicate 1 none) cB (fun _ => []) [] (fun _ : Empty => []) (defBody (topS 18)) _ _ [] (fun _ : Empty => []) := (s_ifR (Dw.dt (w_orP (t_not (t_val (d_isi (C := "tuple") (b := true) (d_var 0 (fun q : E0_is_quotient => q.1) (c2 cI cI) (fun _ => rfl)) (ty_T fun _ => rfl) T.z_isinstance T.z_tuple (by decide +kernel) (by decide +kernel)))) (w_orP (t_cmp op_ne v_neI (d_blt call_len_seq (v_len sq_T) T.z_len (by decide +kernel) (a_cons (De.as (c := (c2 cI cI)) (c' := (cT cI)) (g := fun x : Int × Int => [x.1, x.2]) (fun _ => rfl) (d_var 0 (fun q : E0_is_quotient => q.1) (c2 cI cI) (fun _ => rfl))) a_nil)) d_int (nomark _)) (w_or1 (t_not (t_val (d_blt (cr_all rfl) v_allL T.z_all (by decide +kernel) (a_cons (DL.de (d_lc0 (i_tup (De.as (c := (c2 cI cI)) (c' := (cT cI)) (g := fun x : Int × Int => [x.1, x.2]) (fun _ => rfl) (d_var 0 (fun q : E0_is_quotient => q.1) (c2 cI cI) (fun _ => rfl)))) (blkOk_by (N := ["value", "part"]) (sc := defScope (topS 18)) (own := [("part", 1)]) (by decide +kernel)) (tg_name 1) (fun _ _ _ _ _ => (pg_name (i := 1) sc_is_quotient.nd rfl (by first | exact .inl rfl | exact .inr rfl))) (fun _ _ _ _ _ _ => (d_call ((f_is_integer T).mono (by decide)) hr hg T.M5 T.F5.kp (b_is_integer T) (a_cons (d_var 1 (fun q : E1_is_quotient => q.2) cI (fun _ => rfl)) a_nil))) (own := [("part", 1)]) (hN := sc_is_quotient.nd))) a_nil)))))))) (s_one (s_ret (r := fun v (_ : E0_is_quotient) => v) (fun _ _ => rfl) rfl d_bl)) (by intro ε n; (repeat' (first | (intro h; nomatch h) | split))) (s_one (s_ret (r := fun v (_ : E0_is_quotient) => v) (fun _ _ => rfl) rfl (d_and (d_cmp op_ge v_ge (d_prj 1 (fun x : Int × Int => x.2) (cb := cI) (fun _ => ⟨_, rfl, rfl⟩) (d_var 0 (fun q : E0_is_quotient => q.1) (c2 cI cI) (fun _ => rfl)) d_int) d_int (nomark _)) (d_one (d_cmp op_eq v_eqI (d_call ((f_greatest_divisor T).mono (by decide)) hr hg T.M9 T.F9.kp (b_greatest_divisor T) (a_cons (d_blt call_abs v_abs T.z_abs (by decide +kernel) (a_cons (d_prj 0 (fun x : Int × Int => x.1) (cb := cI) (fun _ => ⟨_, rfl, rfl⟩) (d_var 0 (fun q : E0_is_quotient => q.1) (c2 cI cI) (fun _ => rfl)) d_int) a_nil)) (a_cons (d_prj 1 (fun x : Int × Int => x.2) (cb := cI) (fun _ => ⟨_, rfl, rfl⟩) (d_var 0 (fun q : E0_is_quotient => q.1) (c2 cI cI) (fun _ => rfl)) d_int) a_nil))) d_int (nomark _)))))))
    exact dss_eq key (by kernel_rfl) (by kernel_rfl)) (fun _ h => h) (fun a _ => ends_ret (fun r => r) (fun _ => rfl) (o_is_quotient a))
abbrev E0_is_number : Type := (Int × Int) × Unit
def o_is_number (a : E0_is_number) : Out Empty (Bool) Empty :=
  (let value := a.1; (Out.rt (((m_is_quotient (value, ())) && ((decide ((((value.1).natAbs : Nat) : Int) ≤ (1000000000000 : Int))) && (decide (value.2 ≤ (1000000000000 : Int))))))))
def m_is_number (a : E0_is_number) : Bool := (o_is_number a).ret
def g_is_number (a : E0_is_number) : Prop :=
  (let value := a.1; (((True ∧ True) ∧ (g_is_quotient (value, ()))) ∧ ((m_is_quotient (value, ())) = true → ((((True ∧ True) ∧ True) ∧ True ∧ True) ∧ ((decide ((((value.1).natAbs : Nat) : Int) ≤ (1000000000000 : Int))) = true → (True ∧ True ∧ True))))))
theorem sc_is_number : FnScope ["value"] ["value"] (defScope (topS 19)) := ⟨rfl, rfl, rfl, by decide +kernel, rfl, by decide +kernel, by decide +kernel⟩
theorem b_is_number {K : Y.Frag} {mg : Str → Option Value} {ad : Nat → Addr} {fd : Nat → FuncData} (T : Tx K mg ad fd) : Binds K (fd 19) ["value"] [] := T.F19.binds (ps := ["value"]) fun _ _ _ _ _ _ us hl => match us, hl with | [_], _ => rfl
theorem f_is_number {P : Program} {w : World} {K : Y.Frag} {mg : Str → Option Value} {base : Heap} {ad : Nat → Addr} {fd : Nat → FuncData} (T : Tx K mg ad fd) : FnG P w K mg base 3 (ad 19) (fd 19) ["value"] (spP K (ac (c2 cI cI) an) cB g_is_number m_is_number) :=
  fn_pure T.F19 sc_is_number 0 (fun _ => rfl) rfl (owS := []) (ow' := []) (ΓS := fun _ : Empty => []) (Γ' := fun _ : Empty => []) (cr := cB) (ci := fun _ => []) (G := g_is_number) (d := o_is_number) (fun A0 cdv A outer s H E hr hg => by
    have hu : (A.deeper (envOfC _ (defScope (topS 19)) s.heap.objs.size _ cdv)).units + 64 < cLine := Nat.lt_of_le_of_lt (Nat.add_le_add_left (by decide) _) (room_un hr)
    have key : Dss (XF P w K mg base ["value"] "is_number" (topS 19) (ad 19) cdv A outer s H E) ⟨A0, [], none⟩ [] (fun a : E0_is_number => ((ac (c2 cI cI) an) a).map some ++ List.replicate 0 none) cB (fun _ => []) [] (fun _ : Empty => []) (defBody (topS 19)) _ _ [] (fun _ : Empty => []) := (s_one (s_ret (r := fun v (_ : E0_is_number) => v) (fun _ _ => rfl) rfl (d_and (d_call ((f_is_quotient T).mono (by decide)) hr hg T.M18 T.F18.kp (b_is_quotient T) (a_cons (d_var 0 (fun q : E0_is_number => q.1) (c2 cI cI) (fun _ => rfl)) a_nil)) (d_and (d_cmp op_le v_le (d_blt call_abs v_abs T.z_abs (by decide +kernel) (a_cons (d_prj 0 (fun x : Int × Int => x.1) (cb := cI) (fun _ => ⟨_, rfl, rfl⟩) (d_var 0 (fun q : E0_is_number => q.1) (c2 cI cI) (fun _ => rfl)) d_int) a_nil)) (d_glob (v := .int 1000000000000) (c := cI) (a := 1000000000000) T.c_MAX_SIZE.choose_spec ⟨_, rfl⟩ (fun _ _ => .int _)) (nomark _)) (d_one (d_cmp op_le v_le (d_prj 1 (fun x : Int × Int => x.2) (cb := cI) (fun _ => ⟨_, rfl, rfl⟩) (d_var 0 (fun q : E0_is_number => q.1) (c2 cI cI) (fun _ => rfl)) d_int) (d_glob (v := .int 1000000000000) (c := cI) (a := 1000000000000) T.c_MAX_SIZE.choose_spec ⟨_, rfl⟩ (fun _ _ => .int _)) (nomark _)))))))
    exact dss_eq key (by kernel_rfl) (by kernel_rfl)) (fun _ h => h) (fun a _ => ends_ret (fun r => r) (fun _ => rfl) (o_is_number a))
abbrev E0_is_plan_T : Type := (List Int) × Int × Unit
abbrev E1_is_plan_T : Type := E0_is_plan_T × Int
def o_is_plan_T (a : E0_is_plan_T) : Out Empty (Bool) Empty :=
  (let value := a.1; let many := a.2.1; (if ((!true) || (!decide (((value).length : Int) = many))) = true then (Out.rt false) else (Out.rt ((((value.map fun x1 => ((m_is_integer (x1, ())) && ((decide ((0 : Int) ≤ x1)) && (decide (x1 ≤ (1000000000000 : Int))))))).all id)))))
def m_is_plan_T (a : E0_is_plan_T) : Bool := (o_is_plan_T a).ret
def g_is_plan_T (a : E0_is_plan_T) : Prop :=
  (let value := a.1; let many := a.2.1; ((True ∧ ((!true) = false → (((True ∧ True) ∧ True) ∧ True ∧ True))) ∧ (((!true) || (!decide (((value).length : Int) = many))) = true → True) ∧ (((!true) || (!decide (((value).length : Int) = many))) = false → (((True ∧ (∀ x1 ∈ value, (((True ∧ True) ∧ (g_is_integer (x1, ()))) ∧ ((m_is_integer (x1, ())) = true → (True ∧ True ∧ ((decide ((0 : Int) ≤ x1)) = true → True)))))) ∧ True) ∧ True))))
theorem sc_is_plan : FnScope ["value", "many", "own"] ["value", "many"] (defScope (topS 21)) := ⟨rfl, rfl, rfl, by decide +kernel, rfl, by decide +kernel, by decide +kernel⟩
theorem b_is_plan {K : Y.Frag} {mg : Str → Option Value} {ad : Nat → Addr} {fd : Nat → FuncData} (T : Tx K mg ad fd) : Binds K (fd 21) ["value", "many"] [] := T.F21.binds (ps := ["value", "many"]) fun _ _ _ _ _ _ us hl => match us, hl with | [_, _], _ => rfl
theorem f_is_plan_T {P : Program} {w : World} {K : Y.Frag} {mg : Str → Option Value} {base : Heap} {ad : Nat → Addr} {fd : Nat → FuncData} (T : Tx K mg ad fd) : FnG P w K mg base 2 (ad 21) (fd 21) ["value", "many"] (spP K (ac (cT cI) (ac cI an)) cB g_is_plan_T m_is_plan_T) :=
  fn_pure T.F21 sc_is_plan 1 (fun _ => rfl) rfl (owS := []) (ow' := []) (ΓS := fun _ : Empty => []) (Γ' := fun _ : Empty => []) (cr := cB) (ci := fun _ => []) (G := g_is_plan_T) (d := o_is_plan_T) (fun A0 cdv A outer s H E hr hg => by
    have hu : (A.deeper (envOfC _ (defScope (topS 21)) s.heap.objs.size _ cdv)).units + 64 < cLine := Nat.lt_of_le_of_lt (Nat.add_le_add_left (by decide) _) (room_un hr)
    have key : Dss (XF P w K mg base ["value", "many", "own"] "is_plan" (topS 21) (ad 21) cdv A outer s H E) ⟨A0, [], none⟩ [] (fun a : E0_is_plan_T => ((ac (cT cI) (ac cI an)) a).map some ++ List.replicate 1 none) cB (fun _ => []) [] (fun _ : Empty => []) (defBody (topS 21)) _ _ [] (fun _ : Empty => []) := (s_ifR (Dw.dt (w_orP (t_not (t_val (d_isi (C := "tuple") (b := true) (d_var 0 (fun q : E0_is_plan_T => q.1) (cT cI) (fun _ => rfl)) (ty_T fun _ => rfl) T.z_isinstance T.z_tuple (by decide +kernel) (by decide +kernel)))) (w_or1 (t_cmp op_ne v_neI (d_blt call_len_seq (v_len sq_T) T.z_len (by decide +kernel) (a_cons (d_var 0 (fun q : E0_is_plan_T => q.1) (cT cI) (fun _ => rfl)) a_nil)) (d_var 1 (fun q : E0_is_plan_T => q.2.1) cI (fun _ => rfl)) (nomark _))))) (s_one (s_ret (r := fun v (_ : E0_is_plan_T) => v) (fun _ _ => rfl) rfl d_bl)) (by intro ε n; (repeat' (first | (intro h; nomatch h) | split))) (s_one (s_ret (r := fun v (_ : E0_is_plan_T) => v) (fun _ _ => rfl) rfl (d_blt (cr_all rfl) v_allL T.z_all (by decide +kernel) (a_cons (DL.de (d_lc0 (i_tup (d_var 0 (fun q : E0_is_plan_T => q.1) (cT cI) (fun _ => rfl))) (blkOk_by (N := ["value", "many", "own"]) (sc := defScope (topS 21)) (own := [("own", 2)]) (by decide +kernel)) (tg_name 2) (fun _ _ _ _ _ => (pg_name (i := 2) sc_is_plan.nd rfl (by first | exact .inl rfl | exact .inr rfl))) (fun _ _ _ _ _ _ => (d_and (d_call ((f_is_integer T).mono (by decide)) hr hg T.M5 T.F5.kp (b_is_integer T) (a_cons (d_var 2 (fun q : E1_is_plan_T => q.2) cI (fun _ => rfl)) a_nil)) (d_one (d_chain op_le op_le v_le v_le d_int (d_var 2 (fun q : E1_is_plan_T => q.2) cI (fun _ => rfl)) (d_glob (v := .int 1000000000000) (c := cI) (a := 1000000000000) T.c_MAX_SIZE.choose_spec ⟨_, rfl⟩ (fun _ _ => .int _)))))) (own := [("own", 2)]) (hN := sc_is_plan.nd))) a_nil)))))
    exact dss_eq key (by kernel_rfl) (by kernel_rfl)) (fun _ h => h) (fun a _ => ends_ret (fun r => r) (fun _ => rfl) (o_is_plan_T a))
abbrev E0_check_plans : Type := (Int × Int) × (Int × Int × Int) × Unit
def o_check_plans (a : E0_check_plans) : Out Unit (Unit) Empty :=
  (let ferry := a.1; let bridge := a.2.1; (Out.nx ()))
def m_check_plans (a : E0_check_plans) : Unit := ()
def g_check_plans (a : E0_check_plans) : Prop :=
  (let ferry := a.1; let bridge := a.2.1; ((((True ∧ (True ∧ True)) ∧ (g_is_plan_T ([ferry.1, ferry.2], (2 : Int), ()))) ∧ (!((m_is_plan_T ([ferry.1, ferry.2], (2 : Int), ())))) = false) ∧ ((((True ∧ (True ∧ True)) ∧ (g_is_plan_T ([bridge.1, bridge.2.1, bridge.2.2], (3 : Int), ()))) ∧ (!((m_is_plan_T ([bridge.1, bridge.2.1, bridge.2.2], (3 : Int), ())))) = false) ∧ True)))
theorem sc_check_plans : FnScope ["ferry", "bridge"] ["ferry", "bridge"] (defScope (topS 22)) := ⟨rfl, rfl, rfl, by decide +kernel, rfl, by decide +kernel, by decide +kernel⟩
theorem b_check_plans {K : Y.Frag} {mg : Str → Option Value} {ad : Nat → Addr} {fd : Nat → FuncData} (T : Tx K mg ad fd) : Binds K (fd 22) ["ferry", "bridge"] [] := T.F22.binds (ps := ["ferry", "bridge"]) fun _ _ _ _ _ _ us hl => match us, hl with | [_, _], _ => rfl
theorem f_check_plans {P : Program} {w : World} {K : Y.Frag} {mg : Str → Option Value} {base : Heap} {ad : Nat → Addr} {fd : Nat → FuncData} (T : Tx K mg ad fd) : FnG P w K mg base 3 (ad 22) (fd 22) ["ferry", "bridge"] (spP K (ac (c2 cI cI) (ac (c3 cI cI cI) an)) cN g_check_plans m_check_plans) :=
  fn_pure T.F22 sc_check_plans 0 (fun _ => rfl) rfl (owS := []) (ow' := []) (ΓS := fun _ : Empty => []) (Γ' := fun _ : Unit => [none, none]) (cr := cN) (ci := fun _ => []) (G := g_check_plans) (d := o_check_plans) (fun A0 cdv A outer s H E hr hg => by
    have hu : (A.deeper (envOfC _ (defScope (topS 22)) s.heap.objs.size _ cdv)).units + 64 < cLine := Nat.lt_of_le_of_lt (Nat.add_le_add_left (by decide) _) (room_un hr)
    have key : Dss (XF P w K mg base ["ferry", "bridge"] "check_plans" (topS 22) (ad 22) cdv A outer s H E) ⟨A0, [], none⟩ [] (fun a : E0_check_plans => ((ac (c2 cI cI) (ac (c3 cI cI cI) an)) a).map some ++ List.replicate 0 none) cN (fun _ => []) [] (fun _ : Empty => []) (defBody (topS 22)) _ _ [] (fun _ : Unit => [none, none]) := (s_ifX (t_not (t_val (d_call ((f_is_plan_T T).mono (by decide)) hr hg T.M21 T.F21.kp (b_is_plan T) (a_cons (De.as (c := (c2 cI cI)) (c' := (cT cI)) (g := fun x : Int × Int => [x.1, x.2]) (fun _ => rfl) (d_var 0 (fun q : E0_check_plans => q.1) (c2 cI cI) (fun _ => rfl))) (a_cons d_int a_nil))))) (s_ifX (t_not (t_val (d_call ((f_is_plan_T T).mono (by decide)) hr hg T.M21 T.F21.kp (b_is_plan T) (a_cons (De.as (c := (c3 cI cI cI)) (c' := (cT cI)) (g := fun x : Int × Int × Int => [x.1, x.2.1, x.2.2]) (fun _ => rfl) (d_var 1 (fun q : E0_check_plans => q.2.1) (c3 cI cI cI) (fun _ => rfl))) (a_cons d_int a_nil))))) (s_end (ow2 := []) (Γ2 := fun _ : Unit => [none, none]) (fun _ : E0_check_plans => ()) (fun _ _ _ _ r => r.wk (.f (.f .nil))))))
    exact dss_eq key (by kernel_rfl) (by kernel_rfl)) (fun _ h => h) (fun a _ => ends_und (o_check_plans a))
abbrev E0_check_traffic : Type := (List Int) × Unit
def o_check_traffic (a : E0_check_traffic) : Out Unit (Unit) Empty :=
  (let traffic := a.1; (Out.nx ()))
def m_check_traffic (a : E0_check_traffic) : Unit := ()
def g_check_traffic (a : E0_check_traffic) : Prop :=
  (let traffic := a.1; (((True ∧ ((!true) = false → ((True ∧ ((True ∧ True) ∧ True) ∧ ((decide ((1 : Int) ≤ ((traffic).length : Int))) = true → True)) ∧ ((!(((decide ((1 : Int) ≤ ((traffic).length : Int))) && (decide (((traffic).length : Int) ≤ (40 : Int)))))) = false → ((True ∧ (((True ∧ True) ∧ True) ∧ True)) ∧ (g_is_plan_T (traffic, ((traffic).length : Int), ()))))))) ∧ ((!true) || ((!(((decide ((1 : Int) ≤ ((traffic).length : Int))) && (decide (((traffic).length : Int) ≤ (40 : Int)))))) || (!((m_is_plan_T (traffic, ((traffic).length : Int), ())))))) = false) ∧ True))
theorem sc_check_traffic : FnScope ["traffic"] ["traffic"] (defScope (topS 23)) := ⟨rfl, rfl, rfl, by decide +kernel, rfl, by decide +kernel, by decide +kernel⟩
theorem b_check_traffic {K : Y.Frag} {mg : Str → Option Value} {ad : Nat → Addr} {fd : Nat → FuncData} (T : Tx K mg ad fd) : Binds K (fd 23) ["traffic"] [] := T.F23.binds (ps := ["traffic"]) fun _ _ _ _ _ _ us hl => match us, hl with | [_], _ => rfl
theorem f_check_traffic {P : Program} {w : World} {K : Y.Frag} {mg : Str → Option Value} {base : Heap} {ad : Nat → Addr} {fd : Nat → FuncData} (T : Tx K mg ad fd) : FnG P w K mg base 3 (ad 23) (fd 23) ["traffic"] (spP K (ac (cT cI) an) cN g_check_traffic m_check_traffic) :=
  fn_pure T.F23 sc_check_traffic 0 (fun _ => rfl) rfl (owS := []) (ow' := []) (ΓS := fun _ : Empty => []) (Γ' := fun _ : Unit => [none]) (cr := cN) (ci := fun _ => []) (G := g_check_traffic) (d := o_check_traffic) (fun A0 cdv A outer s H E hr hg => by
    have hu : (A.deeper (envOfC _ (defScope (topS 23)) s.heap.objs.size _ cdv)).units + 64 < cLine := Nat.lt_of_le_of_lt (Nat.add_le_add_left (by decide) _) (room_un hr)
    have key : Dss (XF P w K mg base ["traffic"] "check_traffic" (topS 23) (ad 23) cdv A outer s H E) ⟨A0, [], none⟩ [] (fun a : E0_check_traffic => ((ac (cT cI) an) a).map some ++ List.replicate 0 none) cN (fun _ => []) [] (fun _ : Empty => []) (defBody (topS 23)) _ _ [] (fun _ : Unit => [none]) := (s_ifX (Dw.dt (w_orP (t_not (t_val (d_isi (C := "tuple") (b := true) (d_var 0 (fun q : E0_check_traffic => q.1) (cT cI) (fun _ => rfl)) (ty_T fun _ => rfl) T.z_isinstance T.z_tuple (by decide +kernel) (by decide +kernel)))) (w_orP (t_not (t_chain op_le op_le v_le v_le d_int (d_blt call_len_seq (v_len sq_T) T.z_len (by decide +kernel) (a_cons (d_var 0 (fun q : E0_check_traffic => q.1) (cT cI) (fun _ => rfl)) a_nil)) (d_glob (v := .int 40) (c := cI) (a := 40) T.c_MAX_YEARS.choose_spec ⟨_, rfl⟩ (fun _ _ => .int _)))) (w_or1 (t_not (t_val (d_call ((f_is_plan_T T).mono (by decide)) hr hg T.M21 T.F21.kp (b_is_plan T) (a_cons (d_var 0 (fun q : E0_check_traffic => q.1) (cT cI) (fun _ => rfl)) (a_cons (d_blt call_len_seq (v_len sq_T) T.z_len (by decide +kernel) (a_cons (d_var 0 (fun q : E0_check_traffic => q.1) (cT cI) (fun _ => rfl)) a_nil)) a_nil))))))))) (s_end (ow2 := []) (Γ2 := fun _ : Unit => [none]) (fun _ : E0_check_traffic => ()) (fun _ _ _ _ r => r.wk (.f .nil))))
    exact dss_eq key (by kernel_rfl) (by kernel_rfl)) (fun _ h => h) (fun a _ => ends_und (o_check_traffic a))
abbrev E0_check_rate : Type := (Int × Int) × Unit
def o_check_rate (a : E0_check_rate) : Out Unit (Unit) Empty :=
  (let rate := a.1; (Out.nx ()))
def m_check_rate (a : E0_check_rate) : Unit := ()
def g_check_rate (a : E0_check_rate) : Prop :=
  (let rate := a.1; (((((True ∧ True) ∧ (g_is_number (rate, ()))) ∧ ((!((m_is_number (rate, ())))) = false → ((True ∧ True ∧ True) ∧ ((decide (rate.1 ≤ (0 : Int))) = false → (True ∧ True ∧ True))))) ∧ ((!((m_is_number (rate, ())))) || ((decide (rate.1 ≤ (0 : Int))) || (decide (rate.2 < rate.1)))) = false) ∧ True))
theorem sc_check_rate : FnScope ["rate"] ["rate"] (defScope (topS 24)) := ⟨rfl, rfl, rfl, by decide +kernel, rfl, by decide +kernel, by decide +kernel⟩
theorem b_check_rate {K : Y.Frag} {mg : Str → Option Value} {ad : Nat → Addr} {fd : Nat → FuncData} (T : Tx K mg ad fd) : Binds K (fd 24) ["rate"] [] := T.F24.binds (ps := ["rate"]) fun _ _ _ _ _ _ us hl => match us, hl with | [_], _ => rfl
theorem f_check_rate {P : Program} {w : World} {K : Y.Frag} {mg : Str → Option Value} {base : Heap} {ad : Nat → Addr} {fd : Nat → FuncData} (T : Tx K mg ad fd) : FnG P w K mg base 4 (ad 24) (fd 24) ["rate"] (spP K (ac (c2 cI cI) an) cN g_check_rate m_check_rate) :=
  fn_pure T.F24 sc_check_rate 0 (fun _ => rfl) rfl (owS := []) (ow' := []) (ΓS := fun _ : Empty => []) (Γ' := fun _ : Unit => [none]) (cr := cN) (ci := fun _ => []) (G := g_check_rate) (d := o_check_rate) (fun A0 cdv A outer s H E hr hg => by
    have hu : (A.deeper (envOfC _ (defScope (topS 24)) s.heap.objs.size _ cdv)).units + 64 < cLine := Nat.lt_of_le_of_lt (Nat.add_le_add_left (by decide) _) (room_un hr)
    have key : Dss (XF P w K mg base ["rate"] "check_rate" (topS 24) (ad 24) cdv A outer s H E) ⟨A0, [], none⟩ [] (fun a : E0_check_rate => ((ac (c2 cI cI) an) a).map some ++ List.replicate 0 none) cN (fun _ => []) [] (fun _ : Empty => []) (defBody (topS 24)) _ _ [] (fun _ : Unit => [none]) := (s_ifX (Dw.dt (w_orP (t_not (t_val (d_call ((f_is_number T).mono (by decide)) hr hg T.M19 T.F19.kp (b_is_number T) (a_cons (d_var 0 (fun q : E0_check_rate => q.1) (c2 cI cI) (fun _ => rfl)) a_nil)))) (w_orP (t_cmp op_le v_le (d_prj 0 (fun x : Int × Int => x.1) (cb := cI) (fun _ => ⟨_, rfl, rfl⟩) (d_var 0 (fun q : E0_check_rate => q.1) (c2 cI cI) (fun _ => rfl)) d_int) d_int (nomark _)) (w_or1 (t_cmp op_gt v_gt (d_prj 0 (fun x : Int × Int => x.1) (cb := cI) (fun _ => ⟨_, rfl, rfl⟩) (d_var 0 (fun q : E0_check_rate => q.1) (c2 cI cI) (fun _ => rfl)) d_int) (d_prj 1 (fun x : Int × Int => x.2) (cb := cI) (fun _ => ⟨_, rfl, rfl⟩) (d_var 0 (fun q : E0_check_rate => q.1) (c2 cI cI) (fun _ => rfl)) d_int) (nomark _)))))) (s_end (ow2 := []) (Γ2 := fun _ : Unit => [none]) (fun _ : E0_check_rate => ()) (fun _ _ _ _ r => r.wk (.f .nil))))
    exact dss_eq key (by kernel_rfl) (by kernel_rfl)) (fun _ h => h) (fun a _ => ends_und (o_check_rate a))
abbrev E0_check_case : Type := (Int × Int) × (Int × Int × Int) × (List Int) × (Int × Int) × Unit
def o_check_case (a : E0_check_case) : Out Unit (Unit) Empty :=
  (let ferry := a.1; let bridge := a.2.1; let traffic := a.2.2.1; let rate := a.2.2.2.1; (Out.nx ()))
def m_check_case (a : E0_check_case) : Unit := ()
def g_check_case (a : E0_check_case) : Prop :=
  (let ferry := a.1; let bridge := a.2.1; let traffic := a.2.2.1; let rate := a.2.2.2.1; (((True ∧ (True ∧ True)) ∧ (g_check_plans (ferry, bridge, ()))) ∧ (((True ∧ True) ∧ (g_check_traffic (traffic, ()))) ∧ (((True ∧ True) ∧ (g_check_rate (rate, ()))) ∧ True))))
theorem sc_check_case : FnScope ["ferry", "bridge", "traffic", "rate"] ["ferry", "bridge", "traffic", "rate"] (defScope (topS 25)) := ⟨rfl, rfl, rfl, by decide +kernel, rfl, by decide +kernel, by decide +kernel⟩
theorem b_check_case {K : Y.Frag} {mg : Str → Option Value} {ad : Nat → Addr} {fd : Nat → FuncData} (T : Tx K mg ad fd) : Binds K (fd 25) ["ferry", "bridge", "traffic", "rate"] [] := T.F25.binds (ps := ["ferry", "bridge", "traffic", "rate"]) fun _ _ _ _ _ _ us hl => match us, hl with | [_, _, _, _], _ => rfl
theorem f_check_case {P : Program} {w : World} {K : Y.Frag} {mg : Str → Option Value} {base : Heap} {ad : Nat → Addr} {fd : Nat → FuncData} (T : Tx K mg ad fd) : FnG P w K mg base 5 (ad 25) (fd 25) ["ferry", "bridge", "traffic", "rate"] (spP K (ac (c2 cI cI) (ac (c3 cI cI cI) (ac (cT cI) (ac (c2 cI cI) an)))) cN g_check_case m_check_case) :=
  fn_pure T.F25 sc_check_case 0 (fun _ => rfl) rfl (owS := []) (ow' := []) (ΓS := fun _ : Empty => []) (Γ' := fun _ : Unit => [none, none, none, none]) (cr := cN) (ci := fun _ => []) (G := g_check_case) (d := o_check_case) (fun A0 cdv A outer s H E hr hg => by
    have hu : (A.deeper (envOfC _ (defScope (topS 25)) s.heap.objs.size _ cdv)).units + 64 < cLine := Nat.lt_of_le_of_lt (Nat.add_le_add_left (by decide) _) (room_un hr)
    have key : Dss (XF P w K mg base ["ferry", "bridge", "traffic", "rate"] "check_case" (topS 25) (ad 25) cdv A outer s H E) ⟨A0, [], none⟩ [] (fun a : E0_check_case => ((ac (c2 cI cI) (ac (c3 cI cI cI) (ac (cT cI) (ac (c2 cI cI) an)))) a).map some ++ List.replicate 0 none) cN (fun _ => []) [] (fun _ : Empty => []) (defBody (topS 25)) _ _ [] (fun _ : Unit => [none, none, none, none]) := (s_cons (s_drop (d_call ((f_check_plans T).mono (by decide)) hr hg T.M22 T.F22.kp (b_check_plans T) (a_cons (d_var 0 (fun q : E0_check_case => q.1) (c2 cI cI) (fun _ => rfl)) (a_cons (d_var 1 (fun q : E0_check_case => q.2.1) (c3 cI cI cI) (fun _ => rfl)) a_nil)))) (s_cons (s_drop (d_call ((f_check_traffic T).mono (by decide)) hr hg T.M23 T.F23.kp (b_check_traffic T) (a_cons (d_var 2 (fun q : E0_check_case => q.2.2.1) (cT cI) (fun _ => rfl)) a_nil))) (s_cons (s_drop (d_call ((f_check_rate T).mono (by decide)) hr hg T.M24 T.F24.kp (b_check_rate T) (a_cons (d_var 3 (fun q : E0_check_case => q.2.2.2.1) (c2 cI cI) (fun _ => rfl)) a_nil))) (s_end (ow2 := []) (Γ2 := fun _ : Unit => [none, none, none, none]) (fun _ : E0_check_case => ()) (fun _ _ _ _ r => r.wk (.f (.f (.f (.f .nil)))))))))
    exact dss_eq key (by kernel_rfl) (by kernel_rfl)) (fun _ h => h) (fun a _ => ends_und (o_check_case a))
abbrev E0_break_even : Type := (Int × Int) × (Int × Int × Int) × Unit
abbrev E1_break_even : Type := E0_break_even × Int
abbrev E2_break_even : Type := E1_break_even × Int
def o_break_even (a : E0_break_even) : Out Empty (Option Int) Empty :=
  (let ferry := a.1; let bridge := a.2.1; (let more1 : Int := (bridge.2.1 - ferry.1); let less2 : Int := (ferry.2 - bridge.2.2); (if (decide (more1 ≤ (0 : Int))) = true then (Out.rt ((some ((0 : Int))))) else (Out.rt ((if (decide ((0 : Int) < less2)) = true then (some ((-((Int.fdiv ((-more1)) less2))))) else (none : Option Int)))))))
def m_break_even (a : E0_break_even) : Option Int := (o_break_even a).ret
def g_break_even (a : E0_break_even) : Prop :=
  (let ferry := a.1; let bridge := a.2.1; (((True ∧ (True ∧ True)) ∧ (g_check_plans (ferry, bridge, ()))) ∧ (((True ∧ True ∧ True) ∧ ((True ∧ True ∧ True) ∧ True)) ∧ (let more1 : Int := (bridge.2.1 - ferry.1); let less2 : Int := (ferry.2 - bridge.2.2); ((True ∧ True ∧ True) ∧ ((decide (more1 ≤ (0 : Int))) = true → True) ∧ ((decide (more1 ≤ (0 : Int))) = false → ((True ∧ True ∧ True) ∧ ((decide ((0 : Int) < less2)) = true → (((True ∧ True) ∧ True ∧ (CDivN ((-more1)) less2)) ∧ True)) ∧ ((decide ((0 : Int) < less2)) = false → True))))))))
theorem sc_break_even : FnScope ["ferry", "bridge", "more", "less"] ["ferry", "bridge"] (defScope (topS 26)) := ⟨rfl, rfl, rfl, by decide +kernel, rfl, by decide +kernel, by decide +kernel⟩
theorem b_break_even {K : Y.Frag} {mg : Str → Option Value} {ad : Nat → Addr} {fd : Nat → FuncData} (T : Tx K mg ad fd) : Binds K (fd 26) ["ferry", "bridge"] [] := T.F26.binds (ps := ["ferry", "bridge"]) fun _ _ _ _ _ _ us hl => match us, hl with | [_, _], _ => rfl
theorem f_break_even {P : Program} {w : World} {K : Y.Frag} {mg : Str → Option Value} {base : Heap} {ad : Nat → Addr} {fd : Nat → FuncData} (T : Tx K mg ad fd) : FnG P w K mg base 4 (ad 26) (fd 26) ["ferry", "bridge"] (spP K (ac (c2 cI cI) (ac (c3 cI cI cI) an)) (cO cI) g_break_even m_break_even) :=
  fn_pure T.F26 sc_break_even 2 (fun _ => rfl) rfl (owS := []) (ow' := []) (ΓS := fun _ : Empty => []) (Γ' := fun _ : Empty => []) (cr := (cO cI)) (ci := fun _ => []) (G := g_break_even) (d := o_break_even) (fun A0 cdv A outer s H E hr hg => by
    have hu : (A.deeper (envOfC _ (defScope (topS 26)) s.heap.objs.size _ cdv)).units + 64 < cLine := Nat.lt_of_le_of_lt (Nat.add_le_add_left (by decide) _) (room_un hr)
    have key : Dss (XF P w K mg base ["ferry", "bridge", "more", "less"] "break_even" (topS 26) (ad 26) cdv A outer s H E) ⟨A0, [], none⟩ [] (fun a : E0_break_even => ((ac (c2 cI cI) (ac (c3 cI cI cI) an)) a).map some ++ List.replicate 2 none) (cO cI) (fun _ => []) [] (fun _ : Empty => []) (defBody (topS 26)) _ _ [] (fun _ : Empty => []) := (s_cons (s_drop (d_call ((f_check_plans T).mono (by decide)) hr hg T.M22 T.F22.kp (b_check_plans T) (a_cons (d_var 0 (fun q : E0_break_even => q.1) (c2 cI cI) (fun _ => rfl)) (a_cons (d_var 1 (fun q : E0_break_even => q.2.1) (c3 cI cI cI) (fun _ => rfl)) a_nil)))) (s_cons (s_par 2 3 (ca := cI) (cb := cI) (ga := fun x : Int × Int × Unit => x.1) (gb := fun x : Int × Int × Unit => x.2.1) (a_cons (d_op op_sub v_sub (d_prj 1 (fun x : Int × Int × Int => x.2.1) (cb := cI) (fun _ => ⟨_, rfl, rfl⟩) (d_var 1 (fun q : E0_break_even => q.2.1) (c3 cI cI cI) (fun _ => rfl)) d_int) (d_prj 0 (fun x : Int × Int => x.1) (cb := cI) (fun _ => ⟨_, rfl, rfl⟩) (d_var 0 (fun q : E0_break_even => q.1) (c2 cI cI) (fun _ => rfl)) d_int)) (a_cons (d_op op_sub v_sub (d_prj 1 (fun x : Int × Int => x.2) (cb := cI) (fun _ => ⟨_, rfl, rfl⟩) (d_var 0 (fun q : E0_break_even => q.1) (c2 cI cI) (fun _ => rfl)) d_int) (d_prj 2 (fun x : Int × Int × Int => x.2.2) (cb := cI) (fun _ => ⟨_, rfl, rfl⟩) (d_var 1 (fun q : E0_break_even => q.2.1) (c3 cI cI cI) (fun _ => rfl)) d_int)) a_nil)) (fun _ => rfl) rfl (hN := sc_break_even.nd)) (s_ifR (t_cmp op_le v_le (d_var 2 (fun q : E2_break_even => q.1.2) cI (fun _ => rfl)) d_int (nomark _)) (s_one (s_ret (r := fun v (_ : E2_break_even) => v) (fun _ _ => rfl) rfl (De.as (c := cI) (c' := (cO cI)) (g := fun x : Int => (some x)) (fun _ => rfl) d_int))) (by intro ε n; (repeat' (first | (intro h; nomatch h) | split))) (s_one (s_ret (r := fun v (_ : E2_break_even) => v) (fun _ _ => rfl) rfl (d_if (t_cmp op_gt v_gt (d_var 3 (fun q : E2_break_even => q.2) cI (fun _ => rfl)) d_int (nomark _)) (De.as (c := cI) (c' := (cO cI)) (g := fun x : Int => (some x)) (fun _ => rfl) (d_un un_neg v_neg (d_op op_fdivN v_fdivN (d_un un_neg v_neg (d_var 2 (fun q : E2_break_even => q.1.2) cI (fun _ => rfl))) (d_var 3 (fun q : E2_break_even => q.2) cI (fun _ => rfl))))) (De.as (c := cN) (c' := (cO cI)) (g := fun x : Unit => (none : Option Int)) (fun _ => rfl) d_non)))))))
    exact dss_eq key (by kernel_rfl) (by kernel_rfl)) (fun _ h => h) (fun a _ => ends_ret (fun r => r) (fun _ => rfl) (o_break_even a))
abbrev E0_from_zero : Type := (Int × Int) × (Int × Int × Int) × Unit
abbrev E1_from_zero : Type := E0_from_zero × Int
abbrev E2_from_zero : Type := E1_from_zero × Int
def o_from_zero (a : E0_from_zero) : Out Empty ((Option Int) × (Option Int)) Empty :=
  (let ferry := a.1; let bridge := a.2.1; (let more1 : Int := (bridge.2.1 - ferry.1); let less2 : Int := (ferry.2 - bridge.2.2); (if (decide (more1 ≤ (0 : Int))) = true then (Out.rt (((some ((0 : Int))), (if (decide (less2 < (0 : Int))) = true then (some ((Int.fdiv more1 less2))) else (none : Option Int))))) else (Out.rt ((if (decide ((0 : Int) < less2)) = true then ((some ((-((Int.fdiv ((-more1)) less2))))), (none : Option Int)) else ((none : Option Int), (none : Option Int))))))))
def m_from_zero (a : E0_from_zero) : (Option Int) × (Option Int) := (o_from_zero a).ret
def g_from_zero (a : E0_from_zero) : Prop :=
  (let ferry := a.1; let bridge := a.2.1; (((True ∧ (True ∧ True)) ∧ (g_check_plans (ferry, bridge, ()))) ∧ (((True ∧ True ∧ True) ∧ ((True ∧ True ∧ True) ∧ True)) ∧ (let more1 : Int := (bridge.2.1 - ferry.1); let less2 : Int := (ferry.2 - bridge.2.2); ((True ∧ True ∧ True) ∧ ((decide (more1 ≤ (0 : Int))) = true → (True ∧ (((True ∧ True ∧ True) ∧ ((decide (less2 < (0 : Int))) = true → (True ∧ True ∧ (CDivN more1 less2))) ∧ ((decide (less2 < (0 : Int))) = false → True)) ∧ True))) ∧ ((decide (more1 ≤ (0 : Int))) = false → ((True ∧ True ∧ True) ∧ ((decide ((0 : Int) < less2)) = true → ((((True ∧ True) ∧ True ∧ (CDivN ((-more1)) less2)) ∧ True) ∧ (True ∧ True))) ∧ ((decide ((0 : Int) < less2)) = false → (True ∧ (True ∧ True))))))))))
theorem sc_from_zero : FnScope ["ferry", "bridge", "more", "less"] ["ferry", "bridge"] (defScope (topS 27)) := ⟨rfl, rfl, rfl, by decide +kernel, rfl, by decide +kernel, by decide +kernel⟩
theorem b_from_zero {K : Y.Frag} {mg : Str → Option Value} {ad : Nat → Addr} {fd : Nat → FuncData} (T : Tx K mg ad fd) : Binds K (fd 27) ["ferry", "bridge"] [] := T.F27.binds (ps := ["ferry", "bridge"]) fun _ _ _ _ _ _ us hl => match us, hl with | [_, _], _ => rfl
theorem f_from_zero {P : Program} {w : World} {K : Y.Frag} {mg : Str → Option Value} {base : Heap} {ad : Nat → Addr} {fd : Nat → FuncData} (T : Tx K mg ad fd) : FnG P w K mg base 4 (ad 27) (fd 27) ["ferry", "bridge"] (spP K (ac (c2 cI cI) (ac (c3 cI cI cI) an)) (c2 (cO cI) (cO cI)) g_from_zero m_from_zero) :=
  fn_pure T.F27 sc_from_zero 2 (fun _ => rfl) rfl (owS := []) (ow' := []) (ΓS := fun _ : Empty => []) (Γ' := fun _ : Empty => []) (cr := (c2 (cO cI) (cO cI))) (ci := fun _ => []) (G := g_from_zero) (d := o_from_zero) (fun A0 cdv A outer s H E hr hg => by
    have hu : (A.deeper (envOfC _ (defScope (topS 27)) s.heap.objs.size _ cdv)).units + 64 < cLine := Nat.lt_of_le_of_lt (Nat.add_le_add_left (by decide) _) (room_un hr)
    have key : Dss (XF P w K mg base ["ferry", "bridge", "more", "less"] "from_zero" (topS 27) (ad 27) cdv A outer s H E) ⟨A0, [], none⟩ [] (fun a : E0_from_zero => ((ac (c2 cI cI) (ac (c3 cI cI cI) an)) a).map some ++ List.replicate 2 none) (c2 (cO cI) (cO cI)) (fun _ => []) [] (fun _ : Empty => []) (defBody (topS 27)) _ _ [] (fun _ : Empty => []) := (s_cons (s_drop (d_call ((f_check_plans T).mono (by decide)) hr hg T.M22 T.F22.kp (b_check_plans T) (a_cons (d_var 0 (fun q : E0_from_zero => q.1) (c2 cI cI) (fun _ => rfl)) (a_cons (d_var 1 (fun q : E0_from_zero => q.2.1) (c3 cI cI cI) (fun _ => rfl)) a_nil)))) (s_cons (s_par 2 3 (ca := cI) (cb := cI) (ga := fun x : Int × Int × Unit => x.1) (gb := fun x : Int × Int × Unit => x.2.1) (a_cons (d_op op_sub v_sub (d_prj 1 (fun x : Int × Int × Int => x.2.1) (cb := cI) (fun _ => ⟨_, rfl, rfl⟩) (d_var 1 (fun q : E0_from_zero => q.2.1) (c3 cI cI cI) (fun _ => rfl)) d_int) (d_prj 0 (fun x : Int × Int => x.1) (cb := cI) (fun _ => ⟨_, rfl, rfl⟩) (d_var 0 (fun q : E0_from_zero => q.1) (c2 cI cI) (fun _ => rfl)) d_int)) (a_cons (d_op op_sub v_sub (d_prj 1 (fun x : Int × Int => x.2) (cb := cI) (fun _ => ⟨_, rfl, rfl⟩) (d_var 0 (fun q : E0_from_zero => q.1) (c2 cI cI) (fun _ => rfl)) d_int) (d_prj 2 (fun x : Int × Int × Int => x.2.2) (cb := cI) (fun _ => ⟨_, rfl, rfl⟩) (d_var 1 (fun q : E0_from_zero => q.2.1) (c3 cI cI cI) (fun _ => rfl)) d_int)) a_nil)) (fun _ => rfl) rfl (hN := sc_from_zero.nd)) (s_ifR (t_cmp op_le v_le (d_var 2 (fun q : E2_from_zero => q.1.2) cI (fun _ => rfl)) d_int (nomark _)) (s_one (s_ret (r := fun v (_ : E2_from_zero) => v) (fun _ _ => rfl) rfl (d_tp2 (a_cons (De.as (c := cI) (c' := (cO cI)) (g := fun x : Int => (some x)) (fun _ => rfl) d_int) (a_cons (d_if (t_cmp op_lt v_lt (d_var 3 (fun q : E2_from_zero => q.2) cI (fun _ => rfl)) d_int (nomark _)) (De.as (c := cI) (c' := (cO cI)) (g := fun x : Int => (some x)) (fun _ => rfl) (d_op op_fdivN v_fdivN (d_var 2 (fun q : E2_from_zero => q.1.2) cI (fun _ => rfl)) (d_var 3 (fun q : E2_from_zero => q.2) cI (fun _ => rfl)))) (De.as (c := cN) (c' := (cO cI)) (g := fun x : Unit => (none : Option Int)) (fun _ => rfl) d_non)) a_nil))))) (by intro ε n; (repeat' (first | (intro h; nomatch h) | split))) (s_one (s_ret (r := fun v (_ : E2_from_zero) => v) (fun _ _ => rfl) rfl (d_if (t_cmp op_gt v_gt (d_var 3 (fun q : E2_from_zero => q.2) cI (fun _ => rfl)) d_int (nomark _)) (d_tp2 (a_cons (De.as (c := cI) (c' := (cO cI)) (g := fun x : Int => (some x)) (fun _ => rfl) (d_un un_neg v_neg (d_op op_fdivN v_fdivN (d_un un_neg v_neg (d_var 2 (fun q : E2_from_zero => q.1.2) cI (fun _ => rfl))) (d_var 3 (fun q : E2_from_zero => q.2) cI (fun _ => rfl))))) (a_cons (De.as (c := cN) (c' := (cO cI)) (g := fun x : Unit => (none : Option Int)) (fun _ => rfl) d_non) a_nil))) (d_tp2 (a_cons (De.as (c := cN) (c' := (cO cI)) (g := fun x : Unit => (none : Option Int)) (fun _ => rfl) d_non) (a_cons (De.as (c := cN) (c' := (cO cI)) (g := fun x : Unit => (none : Option Int)) (fun _ => rfl) d_non) a_nil)))))))))
    exact dss_eq key (by kernel_rfl) (by kernel_rfl)) (fun _ h => h) (fun a _ => ends_ret (fun r => r) (fun _ => rfl) (o_from_zero a))
abbrev E0_ferry_costs : Type := (Int × Int) × (List Int) × Unit
abbrev E1_ferry_costs : Type := E0_ferry_costs × Int
def o_ferry_costs (a : E0_ferry_costs) : Out Empty (List Int) Empty :=
  (let ferry := a.1; let traffic := a.2.1; (Out.rt ((traffic.map fun x1 => (ferry.1 + (x1 * ferry.2))))))
def m_ferry_costs (a : E0_ferry_costs) : List Int := (o_ferry_costs a).ret
def g_ferry_costs (a : E0_ferry_costs) : Prop :=
  (let ferry := a.1; let traffic := a.2.1; (True ∧ (∀ x1 ∈ traffic, (True ∧ (True ∧ True ∧ (CMul x1 ferry.2)) ∧ True))))
theorem sc_ferry_costs : FnScope ["ferry", "traffic", "own"] ["ferry", "traffic"] (defScope (topS 28)) := ⟨rfl, rfl, rfl, by decide +kernel, rfl, by decide +kernel, by decide +kernel⟩
theorem b_ferry_costs {K : Y.Frag} {mg : Str → Option Value} {ad : Nat → Addr} {fd : Nat → FuncData} (T : Tx K mg ad fd) : Binds K (fd 28) ["ferry", "traffic"] [] := T.F28.binds (ps := ["ferry", "traffic"]) fun _ _ _ _ _ _ us hl => match us, hl with | [_, _], _ => rfl
theorem f_ferry_costs {P : Program} {w : World} {K : Y.Frag} {mg : Str → Option Value} {base : Heap} {ad : Nat → Addr} {fd : Nat → FuncData} (T : Tx K mg ad fd) : FnG P w K mg base 1 (ad 28) (fd 28) ["ferry", "traffic"] (spP K (ac (c2 cI cI) (ac (cT cI) an)) (cL cI) g_ferry_costs m_ferry_costs) :=
  fn_pure T.F28 sc_ferry_costs 1 (fun _ => rfl) rfl (owS := []) (ow' := []) (ΓS := fun _ : Empty => []) (Γ' := fun _ : Empty => []) (cr := (cL cI)) (ci := fun _ => []) (G := g_ferry_costs) (d := o_ferry_costs) (fun A0 cdv A outer s H E hr hg => by
    have hu : (A.deeper (envOfC _ (defScope (topS 28)) s.heap.objs.size _ cdv)).units + 64 < cLine := Nat.lt_of_le_of_lt (Nat.add_le_add_left (by decide) _) (room_un hr)
    have key : Dss (XF P w K mg base ["ferry", "traffic", "own"] "ferry_costs" (topS 28) (ad 28) cdv A outer s H E) ⟨A0, [], none⟩ [] (fun a : E0_ferry_costs => ((ac (c2 cI cI) (ac (cT cI) an)) a).map some ++ List.replicate 1 none) (cL cI) (fun _ => []) [] (fun _ : Empty => []) (defBody (topS 28)) _ _ [] (fun _ : Empty => []) := (s_one (s_ret (r := fun v (_ : E0_ferry_costs) => v) (fun _ _ => rfl) rfl (DL.de (d_lc0 (i_tup (d_var 1 (fun q : E0_ferry_costs => q.2.1) (cT cI) (fun _ => rfl))) (blkOk_by (N := ["ferry", "traffic", "own"]) (sc := defScope (topS 28)) (own := [("own", 2)]) (by decide +kernel)) (tg_name 2) (fun _ _ _ _ _ => (pg_name (i := 2) sc_ferry_costs.nd rfl (by first | exact .inl rfl | exact .inr rfl))) (fun _ _ _ _ _ _ => (d_op op_add v_add (d_prj 0 (fun x : Int × Int => x.1) (cb := cI) (fun _ => ⟨_, rfl, rfl⟩) (d_var 0 (fun q : E1_ferry_costs => q.1.1) (c2 cI cI) (fun _ => rfl)) d_int) (d_op op_mul v_mul (d_var 2 (fun q : E1_ferry_costs => q.2) cI (fun _ => rfl)) (d_prj 1 (fun x : Int × Int => x.2) (cb := cI) (fun _ => ⟨_, rfl, rfl⟩) (d_var 0 (fun q : E1_ferry_costs => q.1.1) (c2 cI cI) (fun _ => rfl)) d_int)))) (own := [("own", 2)]) (hN := sc_ferry_costs.nd)))))
    exact dss_eq key (by kernel_rfl) (by kernel_rfl)) (fun _ h => h) (fun a _ => ends_ret (fun r => r) (fun _ => rfl) (o_ferry_costs a))
abbrev E0_bridge_costs : Type := (Int × Int × Int) × (List Int) × Unit
abbrev E1_bridge_costs : Type := E0_bridge_costs × Int
def o_bridge_costs (a : E0_bridge_costs) : Out Empty (List Int) Empty :=
  (let bridge := a.1; let traffic := a.2.1; (Out.rt ((traffic.map fun x1 => (bridge.2.1 + (x1 * bridge.2.2))))))
def m_bridge_costs (a : E0_bridge_costs) : List Int := (o_bridge_costs a).ret
def g_bridge_costs (a : E0_bridge_costs) : Prop :=
  (let bridge := a.1; let traffic := a.2.1; (True ∧ (∀ x1 ∈ traffic, (True ∧ (True ∧ True ∧ (CMul x1 bridge.2.2)) ∧ True))))
theorem sc_bridge_costs : FnScope ["bridge", "traffic", "own"] ["bridge", "traffic"] (defScope (topS 29)) := ⟨rfl, rfl, rfl, by decide +kernel, rfl, by decide +kernel, by decide +kernel⟩
theorem b_bridge_costs {K : Y.Frag} {mg : Str → Option Value} {ad : Nat → Addr} {fd : Nat → FuncData} (T : Tx K mg ad fd) : Binds K (fd 29) ["bridge", "traffic"] [] := T.F29.binds (ps := ["bridge", "traffic"]) fun _ _ _ _ _ _ us hl => match us, hl with | [_, _], _ => rfl
theorem f_bridge_costs {P : Program} {w : World} {K : Y.Frag} {mg : Str → Option Value} {base : Heap} {ad : Nat → Addr} {fd : Nat → FuncData} (T : Tx K mg ad fd) : FnG P w K mg base 1 (ad 29) (fd 29) ["bridge", "traffic"] (spP K (ac (c3 cI cI cI) (ac (cT cI) an)) (cL cI) g_bridge_costs m_bridge_costs) :=
  fn_pure T.F29 sc_bridge_costs 1 (fun _ => rfl) rfl (owS := []) (ow' := []) (ΓS := fun _ : Empty => []) (Γ' := fun _ : Empty => []) (cr := (cL cI)) (ci := fun _ => []) (G := g_bridge_costs) (d := o_bridge_costs) (fun A0 cdv A outer s H E hr hg => by
    have hu : (A.deeper (envOfC _ (defScope (topS 29)) s.heap.objs.size _ cdv)).units + 64 < cLine := Nat.lt_of_le_of_lt (Nat.add_le_add_left (by decide) _) (room_un hr)
    have key : Dss (XF P w K mg base ["bridge", "traffic", "own"] "bridge_costs" (topS 29) (ad 29) cdv A outer s H E) ⟨A0, [], none⟩ [] (fun a : E0_bridge_costs => ((ac (c3 cI cI cI) (ac (cT cI) an)) a).map some ++ List.replicate 1 none) (cL cI) (fun _ => []) [] (fun _ : Empty => []) (defBody (topS 29)) _ _ [] (fun _ : Empty => []) := (s_one (s_ret (r := fun v (_ : E0_bridge_costs) => v) (fun _ _ => rfl) rfl (DL.de (d_lc0 (i_tup (d_var 1 (fun q : E0_bridge_costs => q.2.1) (cT cI) (fun _ => rfl))) (blkOk_by (N := ["bridge", "traffic", "own"]) (sc := defScope (topS 29)) (own := [("own", 2)]) (by decide +kernel)) (tg_name 2) (fun _ _ _ _ _ => (pg_name (i := 2) sc_bridge_costs.nd rfl (by first | exact .inl rfl | exact .inr rfl))) (fun _ _ _ _ _ _ => (d_op op_add v_add (d_prj 1 (fun x : Int × Int × Int => x.2.1) (cb := cI) (fun _ => ⟨_, rfl, rfl⟩) (d_var 0 (fun q : E1_bridge_costs => q.1.1) (c3 cI cI cI) (fun _ => rfl)) d_int) (d_op op_mul v_mul (d_var 2 (fun q : E1_bridge_costs => q.2) cI (fun _ => rfl)) (d_prj 2 (fun x : Int × Int × Int => x.2.2) (cb := cI) (fun _ => ⟨_, rfl, rfl⟩) (d_var 0 (fun q : E1_bridge_costs => q.1.1) (c3 cI cI cI) (fun _ => rfl)) d_int)))) (own := [("own", 2)]) (hN := sc_bridge_costs.nd)))))
    exact dss_eq key (by kernel_rfl) (by kernel_rfl)) (fun _ h => h) (fun a _ => ends_ret (fun r => r) (fun _ => rfl) (o_bridge_costs a))
abbrev E0_switch_costs : Type := (Int × Int) × (Int × Int × Int) × (List Int) × (Option Int) × Unit
abbrev E1_switch_costs : Type := E0_switch_costs × (List Int)
abbrev E2_switch_costs : Type := E1_switch_costs × (List Int)
abbrev E3_switch_costs : Type := E2_switch_costs × (List Int)
def o_switch_costs (a : E0_switch_costs) : Out Empty (List Int) Empty :=
  (let ferry := a.1; let bridge := a.2.1; let traffic := a.2.2.1; let year := a.2.2.2.1; (let rows1 : List Int := (m_ferry_costs (ferry, traffic, ())); (if (year).isNone = true then (Out.rt rows1) else (let found2 : List Int := ((cut rows1 none (some ((year.getD default)))) ++ (cut ((m_bridge_costs (bridge, traffic, ()))) (some ((year.getD default))) none)); (let found3 : List Int := setI found2 ((year.getD default)) (ixD found2 ((year.getD default)) + bridge.1); (Out.rt found3))))))
def m_switch_costs (a : E0_switch_costs) : List Int := (o_switch_costs a).ret
def g_switch_costs (a : E0_switch_costs) : Prop :=
  (let ferry := a.1; let bridge := a.2.1; let traffic := a.2.2.1; let year := a.2.2.2.1; (((True ∧ (True ∧ True)) ∧ (g_ferry_costs (ferry, traffic, ()))) ∧ (let rows1 : List Int := (m_ferry_costs (ferry, traffic, ())); ((True ∧ True ∧ True) ∧ ((year).isNone = true → True) ∧ ((year).isNone = false → (((True ∧ True ∧ (True ∧ ((cO cI) year = cI (year.getD default)))) ∧ (((True ∧ (True ∧ True)) ∧ (g_bridge_costs (bridge, traffic, ()))) ∧ (True ∧ ((cO cI) year = cI (year.getD default))) ∧ True) ∧ (((cut rows1 none (some ((year.getD default))))).length + ((cut ((m_bridge_costs (bridge, traffic, ()))) (some ((year.getD default))) none)).length ≤ 16777216)) ∧ (let found2 : List Int := ((cut rows1 none (some ((year.getD default)))) ++ (cut ((m_bridge_costs (bridge, traffic, ()))) (some ((year.getD default))) none)); (((True ∧ ((cO cI) year = cI (year.getD default))) ∧ True ∧ (CIx found2 ((year.getD default)))) ∧ (let found3 : List Int := setI found2 ((year.getD default)) (ixD found2 ((year.getD default)) + bridge.1); True)))))))))
theorem sc_switch_costs : FnScope ["ferry", "bridge", "traffic", "year", "rows", "found"] ["ferry", "bridge", "traffic", "year"] (defScope (topS 30)) := ⟨rfl, rfl, rfl, by decide +kernel, rfl, by decide +kernel, by decide +kernel⟩
theorem b_switch_costs {K : Y.Frag} {mg : Str → Option Value} {ad : Nat → Addr} {fd : Nat → FuncData} (T : Tx K mg ad fd) : Binds K (fd 30) ["ferry", "bridge", "traffic", "year"] [] := T.F30.binds (ps := ["ferry", "bridge", "traffic", "year"]) fun _ _ _ _ _ _ us hl => match us, hl with | [_, _, _, _], _ => rfl
theorem f_switch_costs {P : Program} {w : World} {K : Y.Frag} {mg : Str → Option Value} {base : Heap} {ad : Nat → Addr} {fd : Nat → FuncData} (T : Tx K mg ad fd) : FnG P w K mg base 2 (ad 30) (fd 30) ["ferry", "bridge", "traffic", "year"] (spP K (ac (c2 cI cI) (ac (c3 cI cI cI) (ac (cT cI) (ac (cO cI) an)))) (cL cI) g_switch_costs m_switch_costs) :=
  fn_pure T.F30 sc_switch_costs 2 (fun _ => rfl) rfl (owS := []) (ow' := []) (ΓS := fun _ : Empty => []) (Γ' := fun _ : Empty => []) (cr := (cL cI)) (ci := fun _ => []) (G := g_switch_costs) (d := o_switch_costs) (fun A0 cdv A outer s H E hr hg => by
    have hu : (A.deeper (envOfC _ (defScope (topS 30)) s.heap.objs.size _ cdv)).units + 64 < cLine := Nat.lt_of_le_of_lt (Nat.add_le_add_left (by decide) _) (room_un hr)
    have key : Dss (XF P w K mg base ["ferry", "bridge", "traffic", "year", "rows", "found"] "switch_costs" (topS 30) (ad 30) cdv A outer s H E) ⟨A0, [], none⟩ [] (fun a : E0_switch_costs => ((ac (c2 cI cI) (ac (c3 cI cI cI) (ac (cT cI) (ac (cO cI) an)))) a).map some ++ List.replicate 2 none) (cL cI) (fun _ => []) [] (fun _ : Empty => []) (defBody (topS 30)) _ _ [] (fun _ : Empty => []) := (s_cons (s_asg 4 (d_call ((f_ferry_costs T).mono (by decide)) hr hg T.M28 T.F28.kp (b_ferry_costs T) (a_cons (d_var 0 (fun q : E0_switch_costs => q.1) (c2 cI cI) (fun _ => rfl)) (a_cons (d_var 2 (fun q : E0_switch_costs => q.2.2.1) (cT cI) (fun _ => rfl)) a_nil))) (hN := sc_switch_costs.nd)) (s_ifR (t_cmp op_isN (v_isO (fun _ => by intro h; cases h)) (d_var 3 (fun q : E1_switch_costs => q.1.2.2.2.1) (cO cI) (fun _ => rfl)) d_non (nomark _)) (s_one (s_ret (r := fun v (_ : E1_switch_costs) => v) (fun _ _ => rfl) rfl (d_var 4 (fun q : E1_switch_costs => q.2) (cL cI) (fun _ => rfl)))) (by intro ε n; (repeat' (first | (intro h; nomatch h) | split))) (s_cons (s_own 5 (l_cat (DL.de (d_slL (d_var 4 (fun q : E1_switch_costs => q.2) (cL cI) (fun _ => rfl)) o_none (o_some (De.cast (c' := cI) (fun x : Option Int => x.getD default) (d_var 3 (fun q : E1_switch_costs => q.1.2.2.2.1) (cO cI) (fun _ => rfl)))))) (DL.de (d_slL (d_call ((f_bridge_costs T).mono (by decide)) hr hg T.M29 T.F29.kp (b_bridge_costs T) (a_cons (d_var 1 (fun q : E1_switch_costs => q.1.2.1) (c3 cI cI cI) (fun _ => rfl)) (a_cons (d_var 2 (fun q : E1_switch_costs => q.1.2.2.1) (cT cI) (fun _ => rfl)) a_nil))) (o_some (De.cast (c' := cI) (fun x : Option Int => x.getD default) (d_var 3 (fun q : E1_switch_costs => q.1.2.2.2.1) (cO cI) (fun _ => rfl)))) o_none))) (fun _ => by show _ < List.length _; simp) (ow' := [5]) (by intro j; simp only [List.mem_cons, List.not_mem_nil, or_false, false_or]; try omega) (fun h => absurd rfl h) (hN := sc_switch_costs.nd)) (s_cons (s_augL 5 (fun q : E2_switch_costs => q.2) ip_add (fun _ => rfl) (De.cast (c' := cI) (fun x : Option Int => x.getD default) (d_var 3 (fun q : E2_switch_costs => q.1.1.2.2.2.1) (cO cI) (fun _ => rfl))) (d_prj 0 (fun x : Int × Int × Int => x.1) (cb := cI) (fun _ => ⟨_, rfl, rfl⟩) (d_var 1 (fun q : E2_switch_costs => q.1.1.2.1) (c3 cI cI cI) (fun _ => rfl)) d_int)) (s_conv (ow2 := []) (fun q : E3_switch_costs => q) (fun _ _ _ _ r => r.freeze (by decide) (fun h => absurd rfl h)) (s_one (s_ret (r := fun v (_ : E3_switch_costs) => v) (fun _ _ => rfl) rfl (d_var 5 (fun q : E3_switch_costs => q.2) (cL cI) (fun _ => rfl)))))))))
    exact dss_eq key (by kernel_rfl) (by kernel_rfl)) (fun _ h => h) (fun a _ => ends_ret (fun r => r) (fun _ => rfl) (o_switch_costs a))
abbrev E0_worth_of : Type := (List Int) × (Int × Int) × Unit
abbrev E1_worth_of : Type := E0_worth_of × ((Int × Int) × (Int × Int))
abbrev E2_worth_of : Type := (Int × Int) × (Int × Int)
abbrev E3_worth_of : Type := E2_worth_of × Int
abbrev E4_worth_of : Type := E3_worth_of × (Int × Int)
abbrev E5_worth_of : Type := E4_worth_of × (Int × Int)
abbrev E6_worth_of : Type := E1_worth_of × E2_worth_of
def k1_worth_of (rate : Int × Int) (q3 : E3_worth_of) : E2_worth_of :=
  (let total4 : Int × Int := (m_plus (q3.1.1, (m_times ((q3.2, (1 : Int)), q3.1.2, ())), ())); (let weight5 : Int × Int := (m_times (q3.1.2, rate, ())); (total4, weight5)))
def kg1_worth_of (rate : Int × Int) (q3 : E3_worth_of) : Prop :=
  (((True ∧ ((((True ∧ (True ∧ True)) ∧ (True ∧ True)) ∧ (g_times ((q3.2, (1 : Int)), q3.1.2, ()))) ∧ True)) ∧ (g_plus (q3.1.1, (m_times ((q3.2, (1 : Int)), q3.1.2, ())), ()))) ∧ (let total4 : Int × Int := (m_plus (q3.1.1, (m_times ((q3.2, (1 : Int)), q3.1.2, ())), ())); (((True ∧ (True ∧ True)) ∧ (g_times (q3.1.2, rate, ()))) ∧ (let weight5 : Int × Int := (m_times (q3.1.2, rate, ())); True))))
def o_worth_of (a : E0_worth_of) : Out Empty (Int × Int) Empty :=
  (let rows := a.1; let rate := a.2.1; (let u1 : (Int × Int) × (Int × Int) := (((0 : Int), (1 : Int)), ((1 : Int), (1 : Int))); (let l6 : E2_worth_of := (rows.foldl (fun m x => (k1_worth_of rate) (m, x)) (u1.1, u1.2)); (Out.rt l6.1))))
def m_worth_of (a : E0_worth_of) : Int × Int := (o_worth_of a).ret
def g_worth_of (a : E0_worth_of) : Prop :=
  (let rows := a.1; let rate := a.2.1; (((True ∧ (True ∧ True)) ∧ ((True ∧ (True ∧ True)) ∧ True)) ∧ (let u1 : (Int × Int) × (Int × Int) := (((0 : Int), (1 : Int)), ((1 : Int), (1 : Int))); ((True ∧ (forN (kg1_worth_of rate) (k1_worth_of rate) (u1.1, u1.2) rows)) ∧ (let l6 : E2_worth_of := (rows.foldl (fun m x => (k1_worth_of rate) (m, x)) (u1.1, u1.2)); True)))))
theorem sc_worth_of : FnScope ["rows", "rate", "total", "weight", "own"] ["rows", "rate"] (defScope (topS 31)) := ⟨rfl, rfl, rfl, by decide +kernel, rfl, by decide +kernel, by decide +kernel⟩
theorem b_worth_of {K : Y.Frag} {mg : Str → Option Value} {ad : Nat → Addr} {fd : Nat → FuncData} (T : Tx K mg ad fd) : Binds K (fd 31) ["rows", "rate"] [] := T.F31.binds (ps := ["rows", "rate"]) fun _ _ _ _ _ _ us hl => match us, hl with | [_, _], _ => rfl
theorem f_worth_of {P : Program} {w : World} {K : Y.Frag} {mg : Str → Option Value} {base : Heap} {ad : Nat → Addr} {fd : Nat → FuncData} (T : Tx K mg ad fd) : FnG P w K mg base 4 (ad 31) (fd 31) ["rows", "rate"] (spP K (ac (cL cI) (ac (c2 cI cI) an)) (c2 cI cI) g_worth_of m_worth_of) :=
  fn_pure T.F31 sc_worth_of 3 (fun _ => rfl) rfl (owS := []) (ow' := []) (ΓS := fun _ : Empty => []) (Γ' := fun _ : Empty => []) (cr := (c2 cI cI)) (ci := fun _ => []) (G := g_worth_of) (d := o_worth_of) (fun A0 cdv A outer s H E hr hg => by
    have hu : (A.deeper (envOfC _ (defScope (topS 31)) s.heap.objs.size _ cdv)).units + 64 < cLine := Nat.lt_of_le_of_lt (Nat.add_le_add_left (by decide) _) (room_un hr)
    have key : Dss (XF P w K mg base ["rows", "rate", "total", "weight", "own"] "worth_of" (topS 31) (ad 31) cdv A outer s H E) ⟨A0, [], none⟩ [] (fun a : E0_worth_of => ((ac (cL cI) (ac (c2 cI cI) an)) a).map some ++ List.replicate 3 none) (c2 cI cI) (fun _ => []) [] (fun _ : Empty => []) (defBody (topS 31)) _ _ [] (fun _ : Empty => []) := (s_cons (s_asgT (d_tp2 (a_cons (d_tp2 (a_cons d_int (a_cons d_int a_nil))) (a_cons (d_tp2 (a_cons d_int (a_cons d_int a_nil))) a_nil))) (pg_tup rfl (pgs_cons (pg_name (i := 2) sc_worth_of.nd rfl (by first | exact .inl rfl | exact .inr rfl)) (pgs_cons (pg_name (i := 3) sc_worth_of.nd rfl (by first | exact .inl rfl | exact .inr rfl)) pgs_nil))) (tg_pair 2 3)) (s_cons (s_forN (ΓL := (fun (e2 : E1_worth_of) (m : E2_worth_of) => [some ((cL cI) e2.1.1), some ((c2 cI cI) e2.1.2.1), some ((c2 cI cI) m.1), some ((c2 cI cI) m.2), none])) (fun q : E1_worth_of => (q.2.1, q.2.2)) (i_lst (d_var 0 (fun q : E1_worth_of => q.1.1) (cL cI) (fun _ => rfl))) (fun _ _ _ _ r => r) (pg_name (i := 4) sc_worth_of.nd rfl (by first | exact .inl rfl | exact .inr rfl)) (tg_name 4) (fun e2 : E1_worth_of => (s_cons (s_asg 2 (d_call ((f_plus T).mono (by decide)) hr hg T.M11 T.F11.kp (b_plus T) (a_cons (d_var 2 (fun q : E3_worth_of => q.1.1) (c2 cI cI) (fun _ => rfl)) (a_cons (d_call ((f_times T).mono (by decide)) hr hg T.M13 T.F13.kp (b_times T) (a_cons (d_tp2 (a_cons (d_var 4 (fun q : E3_worth_of => q.2) cI (fun _ => rfl)) (a_cons d_int a_nil))) (a_cons (d_var 3 (fun q : E3_worth_of => q.1.2) (c2 cI cI) (fun _ => rfl)) a_nil))) a_nil))) (hN := sc_worth_of.nd)) (s_cons (s_asg 3 (d_call ((f_times T).mono (by decide)) hr hg T.M13 T.F13.kp (b_times T) (a_cons (d_var 3 (fun q : E4_worth_of => q.1.1.2) (c2 cI cI) (fun _ => rfl)) (a_cons (d_var 1 (fun q : E4_worth_of => e2.1.2.1) (c2 cI cI) (fun _ => rfl)) a_nil))) (hN := sc_worth_of.nd)) (s_end (ow2 := []) (Γ2 := (fun m : E2_worth_of => [some ((cL cI) e2.1.1), some ((c2 cI cI) e2.1.2.1), some ((c2 cI cI) m.1), some ((c2 cI cI) m.2), none])) (fun q : E5_worth_of => (q.1.2, q.2)) (fun _ _ _ _ r => r.wk (.k (.k (.k (.k (.f .nil)))))))))) (fun _ _ => rfl) PassesOwn.never) (s_one (s_ret (r := fun v (_ : E6_worth_of) => v) (fun _ _ => rfl) rfl (d_var 2 (fun q : E6_worth_of => q.2.1) (c2 cI cI) (fun _ => rfl))))))
    exact dss_eq key (by kernel_rfl) (by kernel_rfl)) (fun _ h => h) (fun a _ => ends_ret (fun r => r) (fun _ => rfl) (o_worth_of a))
abbrev E0_check_year : Type := (List Int) × (Option Int) × Unit
def o_check_year (a : E0_check_year) : Out Unit (Unit) Empty :=
  (let traffic := a.1; let year := a.2.1; (Out.nx ()))
def m_check_year (a : E0_check_year) : Unit := ()
def g_check_year (a : E0_check_year) : Prop :=
  (let traffic := a.1; let year := a.2.1; ((((True ∧ True ∧ True) ∧ ((!(year).isNone) = true → ((((True ∧ ((cO cI) year = cI (year.getD default))) ∧ True) ∧ (g_is_integer ((year.getD default), ()))) ∧ ((!((m_is_integer ((year.getD default), ())))) = false → (True ∧ (True ∧ ((cO cI) year = cI (year.getD default))) ∧ ((decide ((0 : Int) ≤ (year.getD default))) = true → ((True ∧ True) ∧ True))))))) ∧ ((!(year).isNone) && ((!((m_is_integer ((year.getD default), ())))) || (!(((decide ((0 : Int) ≤ (year.getD default))) && (decide ((year.getD default) < ((traffic).length : Int)))))))) = false) ∧ True))
theorem sc_check_year : FnScope ["traffic", "year"] ["traffic", "year"] (defScope (topS 32)) := ⟨rfl, rfl, rfl, by decide +kernel, rfl, by decide +kernel, by decide +kernel⟩
theorem b_check_year {K : Y.Frag} {mg : Str → Option Value} {ad : Nat → Addr} {fd : Nat → FuncData} (T : Tx K mg ad fd) : Binds K (fd 32) ["traffic", "year"] [] := T.F32.binds (ps := ["traffic", "year"]) fun _ _ _ _ _ _ us hl => match us, hl with | [_, _], _ => rfl
theorem f_check_year {P : Program} {w : World} {K : Y.Frag} {mg : Str → Option Value} {base : Heap} {ad : Nat → Addr} {fd : Nat → FuncData} (T : Tx K mg ad fd) : FnG P w K mg base 2 (ad 32) (fd 32) ["traffic", "year"] (spP K (ac (cT cI) (ac (cO cI) an)) cN g_check_year m_check_year) :=
  fn_pure T.F32 sc_check_year 0 (fun _ => rfl) rfl (owS := []) (ow' := []) (ΓS := fun _ : Empty => []) (Γ' := fun _ : Unit => [none, none]) (cr := cN) (ci := fun _ => []) (G := g_check_year) (d := o_check_year) (fun A0 cdv A outer s H E hr hg => by
    have hu : (A.deeper (envOfC _ (defScope (topS 32)) s.heap.objs.size _ cdv)).units + 64 < cLine := Nat.lt_of_le_of_lt (Nat.add_le_add_left (by decide) _) (room_un hr)
    have key : Dss (XF P w K mg base ["traffic", "year"] "check_year" (topS 32) (ad 32) cdv A outer s H E) ⟨A0, [], none⟩ [] (fun a : E0_check_year => ((ac (cT cI) (ac (cO cI) an)) a).map some ++ List.replicate 0 none) cN (fun _ => []) [] (fun _ : Empty => []) (defBody (topS 32)) _ _ [] (fun _ : Unit => [none, none]) := (s_ifX (Dw.dt (w_andP (t_cmp op_notN (v_notO (fun _ => by intro h; cases h)) (d_var 1 (fun q : E0_check_year => q.2.1) (cO cI) (fun _ => rfl)) d_non (nomark _)) (w_and1 (Dw.dt (w_orP (t_not (t_val (d_call ((f_is_integer T).mono (by decide)) hr hg T.M5 T.F5.kp (b_is_integer T) (a_cons (De.cast (c' := cI) (fun x : Option Int => x.getD default) (d_var 1 (fun q : E0_check_year => q.2.1) (cO cI) (fun _ => rfl))) a_nil)))) (w_or1 (t_not (t_chain op_le op_lt v_le v_lt d_int (De.cast (c' := cI) (fun x : Option Int => x.getD default) (d_var 1 (fun q : E0_check_year => q.2.1) (cO cI) (fun _ => rfl))) (d_blt call_len_seq (v_len sq_T) T.z_len (by decide +kernel) (a_cons (d_var 0 (fun q : E0_check_year => q.1) (cT cI) (fun _ => rfl)) a_nil)))))))))) (s_end (ow2 := []) (Γ2 := fun _ : Unit => [none, none]) (fun _ : E0_check_year => ()) (fun _ _ _ _ r => r.wk (.f (.f .nil)))))
    exact dss_eq key (by kernel_rfl) (by kernel_rfl)) (fun _ h => h) (fun a _ => ends_und (o_check_year a))
abbrev E0_whole_cost : Type := (Int × Int) × (Int × Int × Int) × (List Int) × (Int × Int) × (Option Int) × Unit
def o_whole_cost (a : E0_whole_cost) : Out Empty (Int × Int) Empty :=
  (let ferry := a.1; let bridge := a.2.1; let traffic := a.2.2.1; let rate := a.2.2.2.1; let year := a.2.2.2.2.1; (Out.rt ((m_worth_of ((m_switch_costs (ferry, bridge, traffic, year, ())), rate, ())))))
def m_whole_cost (a : E0_whole_cost) : Int × Int := (o_whole_cost a).ret
def g_whole_cost (a : E0_whole_cost) : Prop :=
  (let ferry := a.1; let bridge := a.2.1; let traffic := a.2.2.1; let rate := a.2.2.2.1; let year := a.2.2.2.2.1; (((True ∧ (True ∧ (True ∧ (True ∧ True)))) ∧ (g_check_case (ferry, bridge, traffic, rate, ()))) ∧ (((True ∧ (True ∧ True)) ∧ (g_check_year (traffic, year, ()))) ∧ ((((True ∧ (True ∧ (True ∧ (True ∧ True)))) ∧ (g_switch_costs (ferry, bridge, traffic, year, ()))) ∧ (True ∧ True)) ∧ (g_worth_of ((m_switch_costs (ferry, bridge, traffic, year, ())), rate, ()))))))
theorem sc_whole_cost : FnScope ["ferry", "bridge", "traffic", "rate", "year"] ["ferry", "bridge", "traffic", "rate", "year"] (defScope (topS 33)) := ⟨rfl, rfl, rfl, by decide +kernel, rfl, by decide +kernel, by decide +kernel⟩
theorem b_whole_cost {K : Y.Frag} {mg : Str → Option Value} {ad : Nat → Addr} {fd : Nat → FuncData} (T : Tx K mg ad fd) : Binds K (fd 33) ["ferry", "bridge", "traffic", "rate", "year"] [] := T.F33.binds (ps := ["ferry", "bridge", "traffic", "rate", "year"]) fun _ _ _ _ _ _ us hl => match us, hl with | [_, _, _, _, _], _ => rfl
theorem f_whole_cost {P : Program} {w : World} {K : Y.Frag} {mg : Str → Option Value} {base : Heap} {ad : Nat → Addr} {fd : Nat → FuncData} (T : Tx K mg ad fd) : FnG P w K mg base 6 (ad 33) (fd 33) ["ferry", "bridge", "traffic", "rate", "year"] (spP K (ac (c2 cI cI) (ac (c3 cI cI cI) (ac (cT cI) (ac (c2 cI cI) (ac (cO cI) an))))) (c2 cI cI) g_whole_cost m_whole_cost) :=
  fn_pure T.F33 sc_whole_cost 0 (fun _ => rfl) rfl (owS := []) (ow' := []) (ΓS := fun _ : Empty => []) (Γ' := fun _ : Empty => []) (cr := (c2 cI cI)) (ci := fun _ => []) (G := g_whole_cost) (d := o_whole_cost) (fun A0 cdv A outer s H E hr hg => by
    have hu : (A.deeper (envOfC _ (defScope (topS 33)) s.heap.objs.size _ cdv)).units + 64 < cLine := Nat.lt_of_le_of_lt (Nat.add_le_add_left (by decide) _) (room_un hr)
    have key : Dss (XF P w K mg base ["ferry", "bridge", "traffic", "rate", "year"] "whole_cost" (topS 33) (ad 33) cdv A outer s H E) ⟨A0, [], none⟩ [] (fun a : E0_whole_cost => ((ac (c2 cI cI) (ac (c3 cI cI cI) (ac (cT cI) (ac (c2 cI cI) (ac (cO cI) an))))) a).map some ++ List.replicate 0 none) (c2 cI cI) (fun _ => []) [] (fun _ : Empty => []) (defBody (topS 33)) _ _ [] (fun _ : Empty => []) := (s_cons (s_drop (d_call ((f_check_case T).mono (by decide)) hr hg T.M25 T.F25.kp (b_check_case T) (a_cons (d_var 0 (fun q : E0_whole_cost => q.1) (c2 cI cI) (fun _ => rfl)) (a_cons (d_var 1 (fun q : E0_whole_cost => q.2.1) (c3 cI cI cI) (fun _ => rfl)) (a_cons (d_var 2 (fun q : E0_whole_cost => q.2.2.1) (cT cI) (fun _ => rfl)) (a_cons (d_var 3 (fun q : E0_whole_cost => q.2.2.2.1) (c2 cI cI) (fun _ => rfl)) a_nil)))))) (s_cons (s_drop (d_call ((f_check_year T).mono (by decide)) hr hg T.M32 T.F32.kp (b_check_year T) (a_cons (d_var 2 (fun q : E0_whole_cost => q.2.2.1) (cT cI) (fun _ => rfl)) (a_cons (d_var 4 (fun q : E0_whole_cost => q.2.2.2.2.1) (cO cI) (fun _ => rfl)) a_nil)))) (s_one (s_ret (r := fun v (_ : E0_whole_cost) => v) (fun _ _ => rfl) rfl (d_call ((f_worth_of T).mono (by decide)) hr hg T.M31 T.F31.kp (b_worth_of T) (a_cons (d_call ((f_switch_costs T).mono (by decide)) hr hg T.M30 T.F30.kp (b_switch_costs T) (a_cons (d_var 0 (fun q : E0_whole_cost => q.1) (c2 cI cI) (fun _ => rfl)) (a_cons (d_var 1 (fun q : E0_whole_cost => q.2.1) (c3 cI cI cI) (fun _ => rfl)) (a_cons (d_var 2 (fun q : E0_whole_cost => q.2.2.1) (cT cI) (fun _ => rfl)) (a_cons (d_var 4 (fun q : E0_whole_cost => q.2.2.2.2.1) (cO cI) (fun _ => rfl)) a_nil))))) (a_cons (d_var 3 (fun q : E0_whole_cost => q.2.2.2.1) (c2 cI cI) (fun _ => rfl)) a_nil)))))))
    exact dss_eq key (by kernel_rfl) (by kernel_rfl)) (fun _ h => h) (fun a _ => ends_ret (fun r => r) (fun _ => rfl) (o_whole_cost a))
abbrev E0_yearly_costs : Type := (Int × Int) × (Int × Int × Int) × (List Int) × (Option Int) × Unit
def o_yearly_costs (a : E0_yearly_costs) : Out Empty (List Int) Empty :=
  (let ferry := a.1; let bridge := a.2.1; let traffic := a.2.2.1; let year := a.2.2.2.1; (Out.rt ((m_switch_costs (ferry, bridge, traffic, year, ())))))
def m_yearly_costs (a : E0_yearly_costs) : List Int := (o_yearly_costs a).ret
def g_yearly_costs (a : E0_yearly_costs) : Prop :=
  (let ferry := a.1; let bridge := a.2.1; let traffic := a.2.2.1; let year := a.2.2.2.1; (((True ∧ (True ∧ True)) ∧ (g_check_plans (ferry, bridge, ()))) ∧ (((True ∧ True) ∧ (g_check_traffic (traffic, ()))) ∧ (((True ∧ (True ∧ True)) ∧ (g_check_year (traffic, year, ()))) ∧ ((((True ∧ (True ∧ (True ∧ (True ∧ True)))) ∧ (g_switch_costs (ferry, bridge, traffic, year, ()))) ∧ True) ∧ True)))))
theorem sc_yearly_costs : FnScope ["ferry", "bridge", "traffic", "year"] ["ferry", "bridge", "traffic", "year"] (defScope (topS 34)) := ⟨rfl, rfl, rfl, by decide +kernel, rfl, by decide +kernel, by decide +kernel⟩
theorem b_yearly_costs {K : Y.Frag} {mg : Str → Option Value} {ad : Nat → Addr} {fd : Nat → FuncData} (T : Tx K mg ad fd) : Binds K (fd 34) ["ferry", "bridge", "traffic", "year"] [] := T.F34.binds (ps := ["ferry", "bridge", "traffic", "year"]) fun _ _ _ _ _ _ us hl => match us, hl with | [_, _, _, _], _ => rfl
theorem f_yearly_costs {P : Program} {w : World} {K : Y.Frag} {mg : Str → Option Value} {base : Heap} {ad : Nat → Addr} {fd : Nat → FuncData} (T : Tx K mg ad fd) : FnG P w K mg base 4 (ad 34) (fd 34) ["ferry", "bridge", "traffic", "year"] (spP K (ac (c2 cI cI) (ac (c3 cI cI cI) (ac (cT cI) (ac (cO cI) an)))) (cT cI) g_yearly_costs m_yearly_costs) :=
  fn_pure T.F34 sc_yearly_costs 0 (fun _ => rfl) rfl (owS := []) (ow' := []) (ΓS := fun _ : Empty => []) (Γ' := fun _ : Empty => []) (cr := (cT cI)) (ci := fun _ => []) (G := g_yearly_costs) (d := o_yearly_costs) (fun A0 cdv A outer s H E hr hg => by
    have hu : (A.deeper (envOfC _ (defScope (topS 34)) s.heap.objs.size _ cdv)).units + 64 < cLine := Nat.lt_of_le_of_lt (Nat.add_le_add_left (by decide) _) (room_un hr)
    have key : Dss (XF P w K mg base ["ferry", "bridge", "traffic", "year"] "yearly_costs" (topS 34) (ad 34) cdv A outer s H E) ⟨A0, [], none⟩ [] (fun a : E0_yearly_costs => ((ac (c2 cI cI) (ac (c3 cI cI cI) (ac (cT cI) (ac (cO cI) an)))) a).map some ++ List.replicate 0 none) (cT cI) (fun _ => []) [] (fun _ : Empty => []) (defBody (topS 34)) _ _ [] (fun _ : Empty => []) := (s_cons (s_drop (d_call ((f_check_plans T).mono (by decide)) hr hg T.M22 T.F22.kp (b_check_plans T) (a_cons (d_var 0 (fun q : E0_yearly_costs => q.1) (c2 cI cI) (fun _ => rfl)) (a_cons (d_var 1 (fun q : E0_yearly_costs => q.2.1) (c3 cI cI cI) (fun _ => rfl)) a_nil)))) (s_cons (s_drop (d_call ((f_check_traffic T).mono (by decide)) hr hg T.M23 T.F23.kp (b_check_traffic T) (a_cons (d_var 2 (fun q : E0_yearly_costs => q.2.2.1) (cT cI) (fun _ => rfl)) a_nil))) (s_cons (s_drop (d_call ((f_check_year T).mono (by decide)) hr hg T.M32 T.F32.kp (b_check_year T) (a_cons (d_var 2 (fun q : E0_yearly_costs => q.2.2.1) (cT cI) (fun _ => rfl)) (a_cons (d_var 3 (fun q : E0_yearly_costs => q.2.2.2.1) (cO cI) (fun _ => rfl)) a_nil)))) (s_one (s_ret (r := fun v (_ : E0_yearly_costs) => v) (fun _ _ => rfl) rfl (d_ty call_tuple_of (v_tuple sq_L) T.z_tuple (by decide +kernel) (a_cons (d_call ((f_switch_costs T).mono (by decide)) hr hg T.M30 T.F30.kp (b_switch_costs T) (a_cons (d_var 0 (fun q : E0_yearly_costs => q.1) (c2 cI cI) (fun _ => rfl)) (a_cons (d_var 1 (fun q : E0_yearly_costs => q.2.1) (c3 cI cI cI) (fun _ => rfl)) (a_cons (d_var 2 (fun q : E0_yearly_costs => q.2.2.1) (cT cI) (fun _ => rfl)) (a_cons (d_var 3 (fun q : E0_yearly_costs => q.2.2.2.1) (cO cI) (fun _ => rfl)) a_nil))))) a_nil)))))))
    exact dss_eq key (by kernel_rfl) (by kernel_rfl)) (fun _ h => h) (fun a _ => ends_ret (fun r => r) (fun _ => rfl) (o_yearly_costs a))
abbrev E0_judge_worth : Type := (Int × Int) × (Int × Int × Int) × (List Int) × (Int × Int) × Unit
abbrev E1_judge_worth : Type := E0_judge_worth × (List Int)
abbrev E2_judge_worth : Type := E1_judge_worth × (List Int)
abbrev E3_judge_worth : Type := E2_judge_worth × ((Int × Int) × (Int × Int))
abbrev E4_judge_worth : Type := (Int × Int) × (Int × Int)
abbrev E5_judge_worth : Type := E4_judge_worth × Int
abbrev E6_judge_worth : Type := E5_judge_worth × (Int × Int)
abbrev E7_judge_worth : Type := E6_judge_worth × (Int × Int)
abbrev E8_judge_worth : Type := E3_judge_worth × E4_judge_worth
def k1_judge_worth (bridge : Int × Int × Int) (rate : Int × Int) (one1 : List Int) (other2 : List Int) (q5 : E5_judge_worth) : Out E4_judge_worth (PySem.Str × PyData) E4_judge_worth :=
  (let gap6 : Int × Int := (m_plus (q5.1.1, (m_times ((((ixD other2 q5.2) - (ixD one1 q5.2)), (1 : Int)), q5.1.2, ())), ())); (let weight7 : Int × Int := (m_times (q5.1.2, rate, ())); (if (decide (gap6.1 ≤ (0 : Int))) = true then (Out.rt (((PySem.Str.ofString "bridge"), (cI q5.2)))) else (Out.nx ((gap6, weight7))))))
def kg1_judge_worth (rate : Int × Int) (one1 : List Int) (other2 : List Int) (q5 : E5_judge_worth) : Prop :=
  (((True ∧ ((((((True ∧ True ∧ (CIx other2 q5.2)) ∧ (True ∧ True ∧ (CIx one1 q5.2)) ∧ True) ∧ (True ∧ True)) ∧ (True ∧ True)) ∧ (g_times ((((ixD other2 q5.2) - (ixD one1 q5.2)), (1 : Int)), q5.1.2, ()))) ∧ True)) ∧ (g_plus (q5.1.1, (m_times ((((ixD other2 q5.2) - (ixD one1 q5.2)), (1 : Int)), q5.1.2, ())), ()))) ∧ (let gap6 : Int × Int := (m_plus (q5.1.1, (m_times ((((ixD other2 q5.2) - (ixD one1 q5.2)), (1 : Int)), q5.1.2, ())), ())); (((True ∧ (True ∧ True)) ∧ (g_times (q5.1.2, rate, ()))) ∧ (let weight7 : Int × Int := (m_times (q5.1.2, rate, ())); ((True ∧ True ∧ True) ∧ ((decide (gap6.1 ≤ (0 : Int))) = true → (True ∧ (True ∧ True))) ∧ ((decide (gap6.1 ≤ (0 : Int))) = false → True))))))
def o_judge_worth (a : E0_judge_worth) : Out Empty (PySem.Str × PyData) Empty :=
  (let ferry := a.1; let bridge := a.2.1; let traffic := a.2.2.1; let rate := a.2.2.2.1; (let one1 : List Int := (m_ferry_costs (ferry, traffic, ())); let other2 : List Int := (m_switch_costs (ferry, bridge, traffic, (some ((0 : Int))), ())); (let u3 : (Int × Int) × (Int × Int) := (((0 : Int), (1 : Int)), ((1 : Int), (1 : Int))); ((forO (k1_judge_worth bridge rate one1 other2) (u3.1, u3.2) (rng 0 (((traffic).length : Int)))).bind (fun l8 : E4_judge_worth => (Out.rt (((PySem.Str.ofString "ferry"), ((c2 cI cI) l8.1)))))))))
def m_judge_worth (a : E0_judge_worth) : PySem.Str × PyData := (o_judge_worth a).ret
def g_judge_worth (a : E0_judge_worth) : Prop :=
  (let ferry := a.1; let bridge := a.2.1; let traffic := a.2.2.1; let rate := a.2.2.2.1; (((True ∧ (True ∧ (True ∧ (True ∧ True)))) ∧ (g_check_case (ferry, bridge, traffic, rate, ()))) ∧ ((((True ∧ (True ∧ True)) ∧ (g_ferry_costs (ferry, traffic, ()))) ∧ (((True ∧ (True ∧ (True ∧ (True ∧ True)))) ∧ (g_switch_costs (ferry, bridge, traffic, (some ((0 : Int))), ()))) ∧ True)) ∧ (let one1 : List Int := (m_ferry_costs (ferry, traffic, ())); let other2 : List Int := (m_switch_costs (ferry, bridge, traffic, (some ((0 : Int))), ())); (((True ∧ (True ∧ True)) ∧ ((True ∧ (True ∧ True)) ∧ True)) ∧ (let u3 : (Int × Int) × (Int × Int) := (((0 : Int), (1 : Int)), ((1 : Int), (1 : Int))); ((((((True ∧ True) ∧ True) ∧ True) ∧ (CRg 0 (((traffic).length : Int)))) ∧ (forG (kg1_judge_worth rate one1 other2) (k1_judge_worth bridge rate one1 other2) (u3.1, u3.2) (rng 0 (((traffic).length : Int))))) ∧ (∀ l8 : E4_judge_worth, (forO (k1_judge_worth bridge rate one1 other2) (u3.1, u3.2) (rng 0 (((traffic).length : Int)))) = Out.nx (S := Empty) l8 → (True ∧ (True ∧ True))))))))))
theorem sc_judge_worth : FnScope ["ferry", "bridge", "traffic", "rate", "one", "other", "gap", "weight", "year"] ["ferry", "bridge", "traffic", "rate"] (defScope (topS 35)) := ⟨rfl, rfl, rfl, by decide +kernel, rfl, by decide +kernel, by decide +kernel⟩
theorem b_judge_worth {K : Y.Frag} {mg : Str → Option Value} {ad : Nat → Addr} {fd : Nat → FuncData} (T : Tx K mg ad fd) : Binds K (fd 35) ["ferry", "bridge", "traffic", "rate"] [] := T.F35.binds (ps := ["ferry", "bridge", "traffic", "rate"]) fun _ _ _ _ _ _ us hl => match us, hl with | [_, _, _, _], _ => rfl
theorem f_judge_worth {P : Program} {w : World} {K : Y.Frag} {mg : Str → Option Value} {base : Heap} {ad : Nat → Addr} {fd : Nat → FuncData} (T : Tx K mg ad fd) : FnG P w K mg base 6 (ad 35) (fd 35) ["ferry", "bridge", "traffic", "rate"] (spP K (ac (c2 cI cI) (ac (c3 cI cI cI) (ac (cT cI) (ac (c2 cI cI) an)))) (c2 cS cD) g_judge_worth m_judge_worth) :=
  fn_pure T.F35 sc_judge_worth 5 (fun _ => rfl) rfl (owS := []) (ow' := []) (ΓS := fun _ : Empty => []) (Γ' := fun _ : Empty => []) (cr := (c2 cS cD)) (ci := fun _ => []) (G := g_judge_worth) (d := o_judge_worth) (fun A0 cdv A outer s H E hr hg => by
    have hu : (A.deeper (envOfC _ (defScope (topS 35)) s.heap.objs.size _ cdv)).units + 64 < cLine := Nat.lt_of_le_of_lt (Nat.add_le_add_left (by decide) _) (room_un hr)
    have key : Dss (XF P w K mg base ["ferry", "bridge", "traffic", "rate", "one", "other", "gap", "weight", "year"] "judge_worth" (topS 35) (ad 35) cdv A outer s H E) ⟨A0, [], none⟩ [] (fun a : E0_judge_worth => ((ac (c2 cI cI) (ac (c3 cI cI cI) (ac (cT cI) (ac (c2 cI cI) an)))) a).map some ++ List.replicate 5 none) (c2 cS cD) (fun _ => []) [] (fun _ : Empty => []) (defBody (topS 35)) _ _ [] (fun _ : Empty => []) := (s_cons (s_drop (d_call ((f_check_case T).mono (by decide)) hr hg T.M25 T.F25.kp (b_check_case T) (a_cons (d_var 0 (fun q : E0_judge_worth => q.1) (c2 cI cI) (fun _ => rfl)) (a_cons (d_var 1 (fun q : E0_judge_worth => q.2.1) (c3 cI cI cI) (fun _ => rfl)) (a_cons (d_var 2 (fun q : E0_judge_worth => q.2.2.1) (cT cI) (fun _ => rfl)) (a_cons (d_var 3 (fun q : E0_judge_worth => q.2.2.2.1) (c2 cI cI) (fun _ => rfl)) a_nil)))))) (s_cons (s_par 4 5 (ca := (cL cI)) (cb := (cL cI)) (ga := fun x : (List Int) × (List Int) × Unit => x.1) (gb := fun x : (List Int) × (List Int) × Unit => x.2.1) (a_cons (d_call ((f_ferry_costs T).mono (by decide)) hr hg T.M28 T.F28.kp (b_ferry_costs T) (a_cons (d_var 0 (fun q : E0_judge_worth => q.1) (c2 cI cI) (fun _ => rfl)) (a_cons (d_var 2 (fun q : E0_judge_worth => q.2.2.1) (cT cI) (fun _ => rfl)) a_nil))) (a_cons (d_call ((f_switch_costs T).mono (by decide)) hr hg T.M30 T.F30.kp (b_switch_costs T) (a_cons (d_var 0 (fun q : E0_judge_worth => q.1) (c2 cI cI) (fun _ => rfl)) (a_cons (d_var 1 (fun q : E0_judge_worth => q.2.1) (c3 cI cI cI) (fun _ => rfl)) (a_cons (d_var 2 (fun q : E0_judge_worth => q.2.2.1) (cT cI) (fun _ => rfl)) (a_cons (De.as (c := cI) (c' := (cO cI)) (g := fun x : Int => (some x)) (fun _ => rfl) d_int) a_nil))))) a_nil)) (fun _ => rfl) rfl (hN := sc_judge_worth.nd)) (s_cons (s_asgT (d_tp2 (a_cons (d_tp2 (a_cons d_int (a_cons d_int a_nil))) (a_cons (d_tp2 (a_cons d_int (a_cons d_int a_nil))) a_nil))) (pg_tup rfl (pgs_cons (pg_name (i := 6) sc_judge_worth.nd rfl (by first | exact .inl rfl | exact .inr rfl)) (pgs_cons (pg_name (i := 7) sc_judge_worth.nd rfl (by first | exact .inl rfl | exact .inr rfl)) pgs_nil))) (tg_pair 6 7)) (s_consK (s_forP (ΓL := (fun (e4 : E3_judge_worth) (m : E4_judge_worth) => [some ((c2 cI cI) e4.1.1.1.1), some ((c3 cI cI cI) e4.1.1.1.2.1), some ((cT cI) e4.1.1.1.2.2.1), some ((c2 cI cI) e4.1.1.1.2.2.2.1), some ((cL cI) e4.1.1.2), some ((cL cI) e4.1.2), some ((c2 cI cI) m.1), some ((c2 cI cI) m.2), none])) (fun q : E3_judge_worth => (q.2.1, q.2.2)) (i_rng1 (a_cons (d_blt call_len_seq (v_len sq_T) T.z_len (by decide +kernel) (a_cons (d_var 2 (fun q : E3_judge_worth => q.1.1.1.2.2.1) (cT cI) (fun _ => rfl)) a_nil)) a_nil) T.z_range) (fun _ _ _ _ r => r) (pg_name (i := 8) sc_judge_worth.nd rfl (by first | exact .inl rfl | exact .inr rfl)) (tg_name 8) (fun e4 : E3_judge_worth => (s_cons (s_asg 6 (d_call ((f_plus T).mono (by decide)) hr hg T.M11 T.F11.kp (b_plus T) (a_cons (d_var 6 (fun q : E5_judge_worth => q.1.1) (c2 cI cI) (fun _ => rfl)) (a_cons (d_call ((f_times T).mono (by decide)) hr hg T.M13 T.F13.kp (b_times T) (a_cons (d_tp2 (a_cons (d_op op_sub v_sub (d_ix ix_list v_ixL (d_var 5 (fun q : E5_judge_worth => e4.1.2) (cL cI) (fun _ => rfl)) (d_var 8 (fun q : E5_judge_worth => q.2) cI (fun _ => rfl))) (d_ix ix_list v_ixL (d_var 4 (fun q : E5_judge_worth => e4.1.1.2) (cL cI) (fun _ => rfl)) (d_var 8 (fun q : E5_judge_worth => q.2) cI (fun _ => rfl)))) (a_cons d_int a_nil))) (a_cons (d_var 7 (fun q : E5_judge_worth => q.1.2) (c2 cI cI) (fun _ => rfl)) a_nil))) a_nil))) (hN := sc_judge_worth.nd)) (s_cons (s_asg 7 (d_call ((f_times T).mono (by decide)) hr hg T.M13 T.F13.kp (b_times T) (a_cons (d_var 7 (fun q : E6_judge_worth => q.1.1.2) (c2 cI cI) (fun _ => rfl)) (a_cons (d_var 3 (fun q : E6_judge_worth => e4.1.1.1.2.2.2.1) (c2 cI cI) (fun _ => rfl)) a_nil))) (hN := sc_judge_worth.nd)) (s_ifR (t_cmp op_le v_le (d_prj 0 (fun x : Int × Int => x.1) (cb := cI) (fun _ => ⟨_, rfl, rfl⟩) (d_var 6 (fun q : E7_judge_worth => q.1.2) (c2 cI cI) (fun _ => rfl)) d_int) d_int (nomark _)) (s_one (s_ret (r := fun v (_ : E7_judge_worth) => v) (fun _ _ => rfl) rfl (d_tp2 (a_cons d_str (a_cons (De.as (c := cI) (c' := cD) (g := fun x : Int => (cI x)) (fun _ => rfl) (d_var 8 (fun q : E7_judge_worth => q.1.1.2) cI (fun _ => rfl))) a_nil))))) (by intro ε n; (repeat' (first | (intro h; nomatch h) | split))) (s_end (ow2 := []) (Γ2 := (fun m : E4_judge_worth => [some ((c2 cI cI) e4.1.1.1.1), some ((c3 cI cI cI) e4.1.1.1.2.1), some ((cT cI) e4.1.1.1.2.2.1), some ((c2 cI cI) e4.1.1.1.2.2.2.1), some ((cL cI) e4.1.1.2), some ((cL cI) e4.1.2), some ((c2 cI cI) m.1), some ((c2 cI cI) m.2), none])) (fun q : E7_judge_worth => (q.1.2, q.2)) (fun _ _ _ _ r => r.wk (.k (.k (.k (.k (.k (.k (.k (.k (.f .nil))))))))))))))) PassesOwn.never) (s_one (s_ret (r := fun v (_ : E8_judge_worth) => v) (fun _ _ => rfl) rfl (d_tp2 (a_cons d_str (a_cons (De.as (c := (c2 cI cI)) (c' := cD) (g := fun x : Int × Int => ((c2 cI cI) x)) (fun _ => rfl) (d_var 6 (fun q : E8_judge_worth => q.2.1) (c2 cI cI) (fun _ => rfl))) a_nil)))))))))
    exact dss_eq key (by kernel_rfl) (by kernel_rfl)) (fun _ h => h) (fun a _ => ends_ret (fun r => r) (fun _ => rfl) (o_judge_worth a))
abbrev E0_best_year : Type := (Int × Int) × (Int × Int × Int) × (List Int) × (Int × Int) × Unit
abbrev E1_best_year : Type := E0_best_year × (Option ((Int × Int) × (Option Int)))
abbrev E2_best_year : Type := Option ((Int × Int) × (Option Int))
abbrev E3_best_year : Type := E2_best_year × (Option Int)
abbrev E4_best_year : Type := E3_best_year × (Int × Int)
abbrev E5_best_year : Type := E4_best_year × (Option ((Int × Int) × (Option Int)))
abbrev E6_best_year : Type := E1_best_year × E2_best_year
def k1_best_year (ferry : Int × Int) (bridge : Int × Int × Int) (traffic : List Int) (rate : Int × Int) (q3 : E3_best_year) : E2_best_year :=
  (let own4 : Int × Int := (m_worth_of ((m_switch_costs (ferry, bridge, traffic, q3.2, ())), rate, ())); (let j7 : Option ((Int × Int) × (Option Int)) := (if ((q3.1).isNone || (m_is_less (own4, ((q3.1.getD default)).1, ()))) = true then (let best6 : Option ((Int × Int) × (Option Int)) := (some ((own4, q3.2))); best6) else q3.1); j7))
def kg1_best_year (ferry : Int × Int) (bridge : Int × Int × Int) (traffic : List Int) (rate : Int × Int) (q3 : E3_best_year) : Prop :=
  (((((True ∧ (True ∧ (True ∧ (True ∧ True)))) ∧ (g_switch_costs (ferry, bridge, traffic, q3.2, ()))) ∧ (True ∧ True)) ∧ (g_worth_of ((m_switch_costs (ferry, bridge, traffic, q3.2, ())), rate, ()))) ∧ (let own4 : Int × Int := (m_worth_of ((m_switch_costs (ferry, bridge, traffic, q3.2, ())), rate, ())); ((((True ∧ True ∧ True) ∧ ((q3.1).isNone = false → ((True ∧ ((True ∧ ((cO (c2 (c2 cI cI) (cO cI))) q3.1 = (c2 (c2 cI cI) (cO cI)) (q3.1.getD default))) ∧ True)) ∧ (g_is_less (own4, ((q3.1.getD default)).1, ()))))) ∧ (((q3.1).isNone || (m_is_less (own4, ((q3.1.getD default)).1, ()))) = true → ((True ∧ (True ∧ True)) ∧ (let best6 : Option ((Int × Int) × (Option Int)) := (some ((own4, q3.2))); True))) ∧ (((q3.1).isNone || (m_is_less (own4, ((q3.1.getD default)).1, ()))) = false → True)) ∧ (let j7 : Option ((Int × Int) × (Option Int)) := (if ((q3.1).isNone || (m_is_less (own4, ((q3.1.getD default)).1, ()))) = true then (let best6 : Option ((Int × Int) × (Option Int)) := (some ((own4, q3.2))); best6) else q3.1); True))))
def o_best_year (a : E0_best_year) : Out Empty ((Int × Int) × (Option Int)) Empty :=
  (let ferry := a.1; let bridge := a.2.1; let traffic := a.2.2.1; let rate := a.2.2.2.1; (let best1 : Option ((Int × Int) × (Option Int)) := (none : Option ((Int × Int) × (Option Int))); (let l8 : E2_best_year := ((((((rng 0 (((traffic).length : Int)))).map (fun x : Int => (some x))) ++ (([()]).map (fun x : Unit => (none : Option Int))))).foldl (fun m x => (k1_best_year ferry bridge traffic rate) (m, x)) best1); (Out.rt ((l8.getD default))))))
def m_best_year (a : E0_best_year) : (Int × Int) × (Option Int) := (o_best_year a).ret
def g_best_year (a : E0_best_year) : Prop :=
  (let ferry := a.1; let bridge := a.2.1; let traffic := a.2.2.1; let rate := a.2.2.2.1; (((True ∧ (True ∧ (True ∧ (True ∧ True)))) ∧ (g_check_case (ferry, bridge, traffic, rate, ()))) ∧ (True ∧ (let best1 : Option ((Int × Int) × (Option Int)) := (none : Option ((Int × Int) × (Option Int))); ((((((True ∧ True) ∧ True) ∧ (CRg 0 (((traffic).length : Int)))) ∧ (True ∧ True) ∧ (((((rng 0 (((traffic).length : Int)))).map (fun x : Int => (some x)))).length + ((([()]).map (fun x : Unit => (none : Option Int)))).length ≤ 16777216)) ∧ (forN (kg1_best_year ferry bridge traffic rate) (k1_best_year ferry bridge traffic rate) best1 ((((rng 0 (((traffic).length : Int)))).map (fun x : Int => (some x))) ++ (([()]).map (fun x : Unit => (none : Option Int)))))) ∧ (let l8 : E2_best_year := ((((((rng 0 (((traffic).length : Int)))).map (fun x : Int => (some x))) ++ (([()]).map (fun x : Unit => (none : Option Int))))).foldl (fun m x => (k1_best_year ferry bridge traffic rate) (m, x)) best1); (True ∧ ((cO (c2 (c2 cI cI) (cO cI))) l8 = (c2 (c2 cI cI) (cO cI)) (l8.getD default)))))))))
theorem sc_best_year : FnScope ["ferry", "bridge", "traffic", "rate", "best", "year", "own"] ["ferry", "bridge", "traffic", "rate"] (defScope (topS 36)) := ⟨rfl, rfl, rfl, by decide +kernel, rfl, by decide +kernel, by decide +kernel⟩
theorem b_best_year {K : Y.Frag} {mg : Str → Option Value} {ad : Nat → Addr} {fd : Nat → FuncData} (T : Tx K mg ad fd) : Binds K (fd 36) ["ferry", "bridge", "traffic", "rate"] [] := T.F36.binds (ps := ["ferry", "bridge", "traffic", "rate"]) fun _ _ _ _ _ _ us hl => match us, hl with | [_, _, _, _], _ => rfl
theorem f_best_year {P : Program} {w : World} {K : Y.Frag} {mg : Str → Option Value} {base : Heap} {ad : Nat → Addr} {fd : Nat → FuncData} (T : Tx K mg ad fd) : FnG P w K mg base 6 (ad 36) (fd 36) ["ferry", "bridge", "traffic", "rate"] (spP K (ac (c2 cI cI) (ac (c3 cI cI cI) (ac (cT cI) (ac (c2 cI cI) an)))) (c2 (c2 cI cI) (cO cI)) g_best_year m_best_year) :=
  fn_pure T.F36 sc_best_year 3 (fun _ => rfl) rfl (owS := []) (ow' := []) (ΓS := fun _ : Empty => []) (Γ' := fun _ : Empty => []) (cr := (c2 (c2 cI cI) (cO cI))) (ci := fun _ => []) (G := g_best_year) (d := o_best_year) (fun A0 cdv A outer s H E hr hg => by
    have hu : (A.deeper (envOfC _ (defScope (topS 36)) s.heap.objs.size _ cdv)).units + 64 < cLine := Nat.lt_of_le_of_lt (Nat.add_le_add_left (by decide) _) (room_un hr)
    have key : Dss (XF P w K mg base ["ferry", "bridge", "traffic", "rate", "best", "year", "own"] "best_year" (topS 36) (ad 36) cdv A outer s H E) ⟨A0, [], none⟩ [] (fun a : E0_best_year => ((ac (c2 cI cI) (ac (c3 cI cI cI) (ac (cT cI) (ac (c2 cI cI) an)))) a).map some ++ List.replicate 3 none) (c2 (c2 cI cI) (cO cI)) (fun _ => []) [] (fun _ : Empty => []) (defBody (topS 36)) _ _ [] (fun _ : Empty => []) := (s_cons (s_drop (d_call ((f_check_case T).mono (by decide)) hr hg T.M25 T.F25.kp (b_check_case T) (a_cons (d_var 0 (fun q : E0_best_year => q.1) (c2 cI cI) (fun _ => rfl)) (a_cons (d_var 1 (fun q : E0_best_year => q.2.1) (c3 cI cI cI) (fun _ => rfl)) (a_cons (d_var 2 (fun q : E0_best_year => q.2.2.1) (cT cI) (fun _ => rfl)) (a_cons (d_var 3 (fun q : E0_best_year => q.2.2.2.1) (c2 cI cI) (fun _ => rfl)) a_nil)))))) (s_cons (s_asg 4 (De.as (c := cN) (c' := (cO (c2 (c2 cI cI) (cO cI)))) (g := fun x : Unit => (none : Option ((Int × Int) × (Option Int)))) (fun _ => rfl) d_non) (hN := sc_best_year.nd)) (s_cons (s_forN (ΓL := (fun (e2 : E1_best_year) (m : E2_best_year) => [some ((c2 cI cI) e2.1.1), some ((c3 cI cI cI) e2.1.2.1), some ((cT cI) e2.1.2.2.1), some ((c2 cI cI) e2.1.2.2.2.1), some ((cO (c2 (c2 cI cI) (cO cI))) m), none, none])) (fun q : E1_best_year => q.2) (i_lst (DL.de (l_cat (De.asL (c := cI) (c' := (cO cI)) (fun x : Int => (some x)) (fun _ => rfl) (DL.de (l_lrg1 (d_blt call_len_seq (v_len sq_T) T.z_len (by decide +kernel) (a_cons (d_var 2 (fun q : E1_best_year => q.1.2.2.1) (cT cI) (fun _ => rfl)) a_nil)) T.z_list T.z_range))) (De.asL (c := cN) (c' := (cO cI)) (fun x : Unit => (none : Option Int)) (fun _ => rfl) (DL.de (l_disp (c := cN) (g := fun x : Unit × Unit => [x.1]) (fun _ => rfl) (fun _ => Nat.le_of_ble_eq_true rfl) (a_cons d_non a_nil))))))) (fun _ _ _ _ r => r) (pg_name (i := 5) sc_best_year.nd rfl (by first | exact .inl rfl | exact .inr rfl)) (tg_name 5) (fun e2 : E1_best_year => (s_cons (s_asg 6 (d_call ((f_worth_of T).mono (by decide)) hr hg T.M31 T.F31.kp (b_worth_of T) (a_cons (d_call ((f_switch_costs T).mono (by decide)) hr hg T.M30 T.F30.kp (b_switch_costs T) (a_cons (d_var 0 (fun q : E3_best_year => e2.1.1) (c2 cI cI) (fun _ => rfl)) (a_cons (d_var 1 (fun q : E3_best_year => e2.1.2.1) (c3 cI cI cI) (fun _ => rfl)) (a_cons (d_var 2 (fun q : E3_best_year => e2.1.2.2.1) (cT cI) (fun _ => rfl)) (a_cons (d_var 5 (fun q : E3_best_year => q.2) (cO cI) (fun _ => rfl)) a_nil))))) (a_cons (d_var 3 (fun q : E3_best_year => e2.1.2.2.2.1) (c2 cI cI) (fun _ => rfl)) a_nil))) (hN := sc_best_year.nd)) (s_cons (s_ifJ (Dw.dt (w_orP (t_cmp op_isN (v_isO (fun _ => by intro h; cases h)) (d_var 4 (fun q : E4_best_year => q.1.1) (cO (c2 (c2 cI cI) (cO cI))) (fun _ => rfl)) d_non (nomark _)) (w_or1 (t_val (d_call ((f_is_less T).mono (by decide)) hr hg T.M15 T.F15.kp (b_is_less T) (a_cons (d_var 6 (fun q : E4_best_year => q.2) (c2 cI cI) (fun _ => rfl)) (a_cons (d_prj 0 (fun x : (Int × Int) × (Option Int) => x.1) (cb := (c2 cI cI)) (fun _ => ⟨_, rfl, rfl⟩) (De.cast (c' := (c2 (c2 cI cI) (cO cI))) (fun x : Option ((Int × Int) × (Option Int)) => x.getD default) (d_var 4 (fun q : E4_best_year => q.1.1) (cO (c2 (c2 cI cI) (cO cI))) (fun _ => rfl))) d_int) a_nil))))))) (s_cons (s_asg 4 (De.as (c := (c2 (c2 cI cI) (cO cI))) (c' := (cO (c2 (c2 cI cI) (cO cI)))) (g := fun x : (Int × Int) × (Option Int) => (some x)) (fun _ => rfl) (d_tp2 (a_cons (d_var 6 (fun q : E4_best_year => q.2) (c2 cI cI) (fun _ => rfl)) (a_cons (d_var 5 (fun q : E4_best_year => q.1.2) (cO cI) (fun _ => rfl)) a_nil)))) (hN := sc_best_year.nd)) (s_end (ow2 := []) (Γ2 := fun q : E5_best_year => [some ((c2 cI cI) e2.1.1), some ((c3 cI cI cI) e2.1.2.1), some ((cT cI) e2.1.2.2.1), some ((c2 cI cI) e2.1.2.2.2.1), some ((cO (c2 (c2 cI cI) (cO cI))) q.2), some ((cO cI) q.1.1.2), some ((c2 cI cI) q.1.2)]) (fun q : E5_best_year => (q.1, q.2)) (fun _ _ _ _ r => r))) (s_end (ow2 := []) (Γ2 := fun q : E5_best_year => [some ((c2 cI cI) e2.1.1), some ((c3 cI cI cI) e2.1.2.1), some ((cT cI) e2.1.2.2.1), some ((c2 cI cI) e2.1.2.2.2.1), some ((cO (c2 (c2 cI cI) (cO cI))) q.2), some ((cO cI) q.1.1.2), some ((c2 cI cI) q.1.2)]) (fun q : E4_best_year => (q, q.1.1)) (fun _ _ _ _ r => r)) (fun _ => rfl) (fun _ => rfl)) (s_end (ow2 := []) (Γ2 := (fun m : E2_best_year => [some ((c2 cI cI) e2.1.1), some ((c3 cI cI cI) e2.1.2.1), some ((cT cI) e2.1.2.2.1), some ((c2 cI cI) e2.1.2.2.2.1), some ((cO (c2 (c2 cI cI) (cO cI))) m), none, none])) (fun q : E5_best_year => q.2) (fun _ _ _ _ r => r.wk (.k (.k (.k (.k (.k (.f (.f .nil)))))))))))) (fun _ _ => rfl) PassesOwn.never) (s_one (s_ret (r := fun v (_ : E6_best_year) => v) (fun _ _ => rfl) rfl (De.cast (c' := (c2 (c2 cI cI) (cO cI))) (fun x : Option ((Int × Int) × (Option Int)) => x.getD default) (d_var 4 (fun q : E6_best_year => q.2) (cO (c2 (c2 cI cI) (cO cI))) (fun _ => rfl))))))))
    exact dss_eq key (by kernel_rfl) (by kernel_rfl)) (fun _ h => h) (fun a _ => ends_ret (fun r => r) (fun _ => rfl) (o_best_year a))
abbrev E0_later_savings : Type := (Int × Int) × (Int × Int × Int) × (List Int) × (Int × Int) × Unit
abbrev E1_later_savings : Type := E0_later_savings × (List (Int × Int))
abbrev E2_later_savings : Type := E1_later_savings × (List Int)
abbrev E3_later_savings : Type := E2_later_savings × (List Int)
abbrev E4_later_savings : Type := List (Int × Int)
abbrev E5_later_savings : Type := E4_later_savings × Int
abbrev E6_later_savings : Type := E5_later_savings × (Int × Int)
abbrev E7_later_savings : Type := E6_later_savings × (List (Int × Int))
abbrev E8_later_savings : Type := E3_later_savings × E4_later_savings
def k1_later_savings (bridge : Int × Int × Int) (traffic : List Int) (rate : Int × Int) (one2 : List Int) (other3 : List Int) (q5 : E5_later_savings) : E4_later_savings :=
  (let later6 : Int × Int := (if (decide ((q5.2 + (1 : Int)) < ((traffic).length : Int))) = true then (m_times ((bridge.1, (1 : Int)), rate, ())) else ((0 : Int), (1 : Int))); (let found7 : List (Int × Int) := (q5.1 ++ [(m_minus ((((bridge.1 + (ixD other3 q5.2)) - (ixD one2 q5.2)), (1 : Int)), later6, ()))]); found7))
def kg1_later_savings (bridge : Int × Int × Int) (traffic : List Int) (rate : Int × Int) (one2 : List Int) (other3 : List Int) (q5 : E5_later_savings) : Prop :=
  ((((True ∧ True ∧ True) ∧ ((True ∧ True) ∧ True) ∧ True) ∧ ((decide ((q5.2 + (1 : Int)) < ((traffic).length : Int))) = true → (((True ∧ (True ∧ True)) ∧ (True ∧ True)) ∧ (g_times ((bridge.1, (1 : Int)), rate, ())))) ∧ ((decide ((q5.2 + (1 : Int)) < ((traffic).length : Int))) = false → (True ∧ (True ∧ True)))) ∧ (let later6 : Int × Int := (if (decide ((q5.2 + (1 : Int)) < ((traffic).length : Int))) = true then (m_times ((bridge.1, (1 : Int)), rate, ())) else ((0 : Int), (1 : Int))); (((((((True ∧ (True ∧ True ∧ (CIx other3 q5.2)) ∧ True) ∧ (True ∧ True ∧ (CIx one2 q5.2)) ∧ True) ∧ (True ∧ True)) ∧ (True ∧ True)) ∧ (g_minus ((((bridge.1 + (ixD other3 q5.2)) - (ixD one2 q5.2)), (1 : Int)), later6, ()))) ∧ (q5.1).length < 16777216) ∧ (let found7 : List (Int × Int) := (q5.1 ++ [(m_minus ((((bridge.1 + (ixD other3 q5.2)) - (ixD one2 q5.2)), (1 : Int)), later6, ()))]); True))))
def o_later_savings (a : E0_later_savings) : Out Empty (List (Int × Int)) Empty :=
  (let ferry := a.1; let bridge := a.2.1; let traffic := a.2.2.1; let rate := a.2.2.2.1; (let found1 : List (Int × Int) := ([] : List (Int × Int)); (let one2 : List Int := (m_ferry_costs (ferry, traffic, ())); let other3 : List Int := (m_bridge_costs (bridge, traffic, ())); (let l8 : E4_later_savings := (((rng 0 (((traffic).length : Int)))).foldl (fun m x => (k1_later_savings bridge traffic rate one2 other3) (m, x)) found1); (Out.rt l8)))))
def m_later_savings (a : E0_later_savings) : List (Int × Int) := (o_later_savings a).ret
def g_later_savings (a : E0_later_savings) : Prop :=
  (let ferry := a.1; let bridge := a.2.1; let traffic := a.2.2.1; let rate := a.2.2.2.1; (((True ∧ (True ∧ (True ∧ (True ∧ True)))) ∧ (g_check_case (ferry, bridge, traffic, rate, ()))) ∧ (True ∧ (let found1 : List (Int × Int) := ([] : List (Int × Int)); ((((True ∧ (True ∧ True)) ∧ (g_ferry_costs (ferry, traffic, ()))) ∧ (((True ∧ (True ∧ True)) ∧ (g_bridge_costs (bridge, traffic, ()))) ∧ True)) ∧ (let one2 : List Int := (m_ferry_costs (ferry, traffic, ())); let other3 : List Int := (m_bridge_costs (bridge, traffic, ())); ((((((True ∧ True) ∧ True) ∧ True) ∧ (CRg 0 (((traffic).length : Int)))) ∧ (forN (kg1_later_savings bridge traffic rate one2 other3) (k1_later_savings bridge traffic rate one2 other3) found1 (rng 0 (((traffic).length : Int))))) ∧ (let l8 : E4_later_savings := (((rng 0 (((traffic).length : Int)))).foldl (fun m x => (k1_later_savings bridge traffic rate one2 other3) (m, x)) found1); ((True ∧ True) ∧ True)))))))))
theorem sc_later_savings : FnScope ["ferry", "bridge", "traffic", "rate", "found", "one", "other", "year", "later"] ["ferry", "bridge", "traffic", "rate"] (defScope (topS 37)) := ⟨rfl, rfl, rfl, by decide +kernel, rfl, by decide +kernel, by decide +kernel⟩
theorem b_later_savings {K : Y.Frag} {mg : Str → Option Value} {ad : Nat → Addr} {fd : Nat → FuncData} (T : Tx K mg ad fd) : Binds K (fd 37) ["ferry", "bridge", "traffic", "rate"] [] := T.F37.binds (ps := ["ferry", "bridge", "traffic", "rate"]) fun _ _ _ _ _ _ us hl => match us, hl with | [_, _, _, _], _ => rfl
theorem f_later_savings {P : Program} {w : World} {K : Y.Frag} {mg : Str → Option Value} {base : Heap} {ad : Nat → Addr} {fd : Nat → FuncData} (T : Tx K mg ad fd) : FnG P w K mg base 6 (ad 37) (fd 37) ["ferry", "bridge", "traffic", "rate"] (spP K (ac (c2 cI cI) (ac (c3 cI cI cI) (ac (cT cI) (ac (c2 cI cI) an)))) (cT (c2 cI cI)) g_later_savings m_later_savings) :=
  fn_pure T.F37 sc_later_savings 5 (fun _ => rfl) rfl (owS := []) (ow' := []) (ΓS := fun _ : Empty => []) (Γ' := fun _ : Empty => []) (cr := (cT (c2 cI cI))) (ci := fun _ => []) (G := g_later_savings) (d := o_later_savings) (fun A0 cdv A outer s H E hr hg => by
    have hu : (A.deeper (envOfC _ (defScope (topS 37)) s.heap.objs.size _ cdv)).units + 64 < cLine := Nat.lt_of_le_of_lt (Nat.add_le_add_left (by decide) _) (room_un hr)
    have key : Dss (XF P w K mg base ["ferry", "bridge", "traffic", "rate", "found", "one", "other", "year", "later"] "later_savings" (topS 37) (ad 37) cdv A outer s H E) ⟨A0, [], none⟩ [] (fun a : E0_later_savings => ((ac (c2 cI cI) (ac (c3 cI cI cI) (ac (cT cI) (ac (c2 cI cI) an)))) a).map some ++ List.replicate 5 none) (cT (c2 cI cI)) (fun _ => []) [] (fun _ : Empty => []) (defBody (topS 37)) _ _ [] (fun _ : Empty => []) := (s_cons (s_drop (d_call ((f_check_case T).mono (by decide)) hr hg T.M25 T.F25.kp (b_check_case T) (a_cons (d_var 0 (fun q : E0_later_savings => q.1) (c2 cI cI) (fun _ => rfl)) (a_cons (d_var 1 (fun q : E0_later_savings => q.2.1) (c3 cI cI cI) (fun _ => rfl)) (a_cons (d_var 2 (fun q : E0_later_savings => q.2.2.1) (cT cI) (fun _ => rfl)) (a_cons (d_var 3 (fun q : E0_later_savings => q.2.2.2.1) (c2 cI cI) (fun _ => rfl)) a_nil)))))) (s_cons (s_own 4 (l_nil (a := (c2 cI cI))) (fun _ => by show _ < List.length _; simp) (ow' := [4]) (by intro j; simp only [List.mem_cons, List.not_mem_nil, or_false, false_or]; try omega) (fun h => absurd rfl h) (hN := sc_later_savings.nd)) (s_cons (s_par 5 6 (ca := (cL cI)) (cb := (cL cI)) (ga := fun x : (List Int) × (List Int) × Unit => x.1) (gb := fun x : (List Int) × (List Int) × Unit => x.2.1) (a_cons (d_call ((f_ferry_costs T).mono (by decide)) hr hg T.M28 T.F28.kp (b_ferry_costs T) (a_cons (d_var 0 (fun q : E1_later_savings => q.1.1) (c2 cI cI) (fun _ => rfl)) (a_cons (d_var 2 (fun q : E1_later_savings => q.1.2.2.1) (cT cI) (fun _ => rfl)) a_nil))) (a_cons (d_call ((f_bridge_costs T).mono (by decide)) hr hg T.M29 T.F29.kp (b_bridge_costs T) (a_cons (d_var 1 (fun q : E1_later_savings => q.1.2.1) (c3 cI cI cI) (fun _ => rfl)) (a_cons (d_var 2 (fun q : E1_later_savings => q.1.2.2.1) (cT cI) (fun _ => rfl)) a_nil))) a_nil)) (fun _ => rfl) rfl (hN := sc_later_savings.nd)) (s_cons (s_forN (ΓL := (fun (e4 : E3_later_savings) (m : E4_later_savings) => [some ((c2 cI cI) e4.1.1.1.1), some ((c3 cI cI cI) e4.1.1.1.2.1), some ((cT cI) e4.1.1.1.2.2.1), some ((c2 cI cI) e4.1.1.1.2.2.2.1), some (.list (m.map (c2 cI cI))), some ((cL cI) e4.1.2), some ((cL cI) e4.2), none, none])) (fun q : E3_later_savings => q.1.1.2) (i_rng1 (a_cons (d_blt call_len_seq (v_len sq_T) T.z_len (by decide +kernel) (a_cons (d_var 2 (fun q : E3_later_savings => q.1.1.1.2.2.1) (cT cI) (fun _ => rfl)) a_nil)) a_nil) T.z_range) (fun _ _ _ _ r => r) (pg_name (i := 7) sc_later_savings.nd rfl (by first | exact .inl rfl | exact .inr rfl)) (tg_name 7) (fun e4 : E3_later_savings => (s_cons (s_asg 8 (d_if (t_cmp op_lt v_lt (d_op op_add v_add (d_var 7 (fun q : E5_later_savings => q.2) cI (fun _ => rfl)) d_int) (d_blt call_len_seq (v_len sq_T) T.z_len (by decide +kernel) (a_cons (d_var 2 (fun q : E5_later_savings => e4.1.1.1.2.2.1) (cT cI) (fun _ => rfl)) a_nil)) (nomark _)) (d_call ((f_times T).mono (by decide)) hr hg T.M13 T.F13.kp (b_times T) (a_cons (d_tp2 (a_cons (d_prj 0 (fun x : Int × Int × Int => x.1) (cb := cI) (fun _ => ⟨_, rfl, rfl⟩) (d_var 1 (fun q : E5_later_savings => e4.1.1.1.2.1) (c3 cI cI cI) (fun _ => rfl)) d_int) (a_cons d_int a_nil))) (a_cons (d_var 3 (fun q : E5_later_savings => e4.1.1.1.2.2.2.1) (c2 cI cI) (fun _ => rfl)) a_nil))) (d_tp2 (a_cons d_int (a_cons d_int a_nil)))) (hN := sc_later_savings.nd)) (s_cons (s_app 4 (fun q : E6_later_savings => q.1.1) (fun _ => rfl) (d_call ((f_minus T).mono (by decide)) hr hg T.M12 T.F12.kp (b_minus T) (a_cons (d_tp2 (a_cons (d_op op_sub v_sub (d_op op_add v_add (d_prj 0 (fun x : Int × Int × Int => x.1) (cb := cI) (fun _ => ⟨_, rfl, rfl⟩) (d_var 1 (fun q : E6_later_savings => e4.1.1.1.2.1) (c3 cI cI cI) (fun _ => rfl)) d_int) (d_ix ix_list v_ixL (d_var 6 (fun q : E6_later_savings => e4.2) (cL cI) (fun _ => rfl)) (d_var 7 (fun q : E6_later_savings => q.1.2) cI (fun _ => rfl)))) (d_ix ix_list v_ixL (d_var 5 (fun q : E6_later_savings => e4.1.2) (cL cI) (fun _ => rfl)) (d_var 7 (fun q : E6_later_savings => q.1.2) cI (fun _ => rfl)))) (a_cons d_int a_nil))) (a_cons (d_var 8 (fun q : E6_later_savings => q.2) (c2 cI cI) (fun _ => rfl)) a_nil)))) (s_end (ow2 := [4]) (Γ2 := (fun m : E4_later_savings => [some ((c2 cI cI) e4.1.1.1.1), some ((c3 cI cI cI) e4.1.1.1.2.1), some ((cT cI) e4.1.1.1.2.2.1), some ((c2 cI cI) e4.1.1.1.2.2.2.1), some (.list (m.map (c2 cI cI))), some ((cL cI) e4.1.2), some ((cL cI) e4.2), none, none])) (fun q : E7_later_savings => q.2) (fun _ _ _ _ r => r.wk (.k (.k (.k (.k (.k (.k (.k (.f (.f .nil)))))))))))))) (fun _ _ => rfl) PassesOwn.never) (s_conv (ow2 := []) (fun q : E8_later_savings => q) (fun _ _ _ _ r => r.freeze (by decide) (fun h => absurd rfl h)) (s_one (s_ret (r := fun v (_ : E8_later_savings) => v) (fun _ _ => rfl) rfl (d_ty call_tuple_of (v_tuple sq_L) T.z_tuple (by decide +kernel) (a_cons (d_var 4 (fun q : E8_later_savings => q.2) (cL (c2 cI cI)) (fun _ => rfl)) a_nil)))))))))
    exact dss_eq key (by kernel_rfl) (by kernel_rfl)) (fun _ h => h) (fun a _ => ends_ret (fun r => r) (fun _ => rfl) (o_later_savings a))
abbrev E0_accept_year : Type := (Int × Int) × (Int × Int × Int) × (List Int) × (Int × Int) × (Option Int) × (List (Int × Int)) × Unit
abbrev E1_accept_year : Type := E0_accept_year × (Int × Int)
abbrev E2_accept_year : Type := Unit
abbrev E3_accept_year : Type := E2_accept_year × (Int × (Int × Int))
abbrev E4_accept_year : Type := E3_accept_year × (Option Int)
abbrev E5_accept_year : Type := E0_accept_year × E2_accept_year
def k1_accept_year (traffic : List Int) (q3 : E3_accept_year) : E2_accept_year :=
  (let own4 : Option Int := (if (decide (q3.2.1 = ((traffic).length : Int))) = true then (none : Option Int) else (some q3.2.1)); ())
def kg1_accept_year (ferry : Int × Int) (bridge : Int × Int × Int) (traffic : List Int) (rate : Int × Int) (q3 : E3_accept_year) : Prop :=
  (((True ∧ ((True ∧ True) ∧ True) ∧ True) ∧ ((decide (q3.2.1 = ((traffic).length : Int))) = true → True) ∧ ((decide (q3.2.1 = ((traffic).length : Int))) = false → True)) ∧ (let own4 : Option Int := (if (decide (q3.2.1 = ((traffic).length : Int))) = true then (none : Option Int) else (some q3.2.1)); (((True ∧ ((((True ∧ (True ∧ (True ∧ (True ∧ True)))) ∧ (g_switch_costs (ferry, bridge, traffic, own4, ()))) ∧ (True ∧ True)) ∧ (g_worth_of ((m_switch_costs (ferry, bridge, traffic, own4, ())), rate, ()))) ∧ True) ∧ (!PyData.eqv ((c2 cI cI) q3.2.2) ((c2 cI cI) ((m_worth_of ((m_switch_costs (ferry, bridge, traffic, own4, ())), rate, ()))))) = false) ∧ True)))
abbrev E6_accept_year : Type := E5_accept_year × (Int × Int)
abbrev E7_accept_year : Type := E6_accept_year × (Int × Int)
def o_accept_year (a : E0_accept_year) : Out Unit (Unit) Empty :=
  (let ferry := a.1; let bridge := a.2.1; let traffic := a.2.2.1; let rate := a.2.2.2.1; let year := a.2.2.2.2.1; let rows := a.2.2.2.2.2.1; (let l5 : E2_accept_year := (((enum rows)).foldl (fun m x => (k1_accept_year traffic) (m, x)) ()); (let told6 : Int × Int := (ixD rows ((((if (year).isNone = true then (some (((traffic).length : Int))) else year)).getD default))); (Out.nx ()))))
def m_accept_year (a : E0_accept_year) : Unit := ()
def g_accept_year (a : E0_accept_year) : Prop :=
  (let ferry := a.1; let bridge := a.2.1; let traffic := a.2.2.1; let rate := a.2.2.2.1; let year := a.2.2.2.2.1; let rows := a.2.2.2.2.2.1; (((True ∧ (True ∧ (True ∧ (True ∧ True)))) ∧ (g_check_case (ferry, bridge, traffic, rate, ()))) ∧ (((True ∧ ((!true) = false → ((((True ∧ True) ∧ True) ∧ (((True ∧ True) ∧ True) ∧ True ∧ True) ∧ True) ∧ ((!decide (((rows).length : Int) = (((traffic).length : Int) + (1 : Int)))) = false → (((True ∧ (∀ x1 ∈ rows, ((True ∧ True) ∧ (g_is_quotient (x1, ()))))) ∧ True) ∧ True))))) ∧ ((!true) || ((!decide (((rows).length : Int) = (((traffic).length : Int) + (1 : Int)))) || (!((((rows.map fun x1 => (m_is_quotient (x1, ())))).all id))))) = false) ∧ ((((True ∧ True ∧ True) ∧ ((!(year).isNone) = true → ((((True ∧ ((cO cI) year = cI (year.getD default))) ∧ True) ∧ (g_is_integer ((year.getD default), ()))) ∧ ((!((m_is_integer ((year.getD default), ())))) = false → (True ∧ (True ∧ ((cO cI) year = cI (year.getD default))) ∧ ((decide ((0 : Int) ≤ (year.getD default))) = true → ((True ∧ True) ∧ True))))))) ∧ ((!(year).isNone) && ((!((m_is_integer ((year.getD default), ())))) || (!(((decide ((0 : Int) ≤ (year.getD default))) && (decide ((year.getD default) < ((traffic).length : Int)))))))) = false) ∧ ((True ∧ (forN (kg1_accept_year ferry bridge traffic rate) (k1_accept_year traffic) () (enum rows))) ∧ (let l5 : E2_accept_year := (((enum rows)).foldl (fun m x => (k1_accept_year traffic) (m, x)) ()); ((True ∧ (((True ∧ True ∧ True) ∧ ((year).isNone = true → ((True ∧ True) ∧ True)) ∧ ((year).isNone = false → True)) ∧ ((cO cI) ((if (year).isNone = true then (some (((traffic).length : Int))) else year)) = cI (((if (year).isNone = true then (some (((traffic).length : Int))) else year)).getD default))) ∧ (CIx rows ((((if (year).isNone = true then (some (((traffic).length : Int))) else year)).getD default)))) ∧ (let told6 : Int × Int := (ixD rows ((((if (year).isNone = true then (some (((traffic).length : Int))) else year)).getD default))); (((True ∧ (∀ x7 ∈ rows, ((True ∧ (True ∧ True)) ∧ (g_is_less (x7, told6, ()))) ∧ ((m_is_less (x7, told6, ())) = true → True))) ∧ (!(((rows.filter fun x7 => (m_is_less (x7, told6, ()))).map fun x7 => x7)).isEmpty) = false) ∧ True)))))))))
theorem sc_accept_year : FnScope ["ferry", "bridge", "traffic", "rate", "year", "rows", "at", "row", "own", "told"] ["ferry", "bridge", "traffic", "rate", "year", "rows"] (defScope (topS 38)) := ⟨rfl, rfl, rfl, by decide +kernel, rfl, by decide +kernel, by decide +kernel⟩
theorem b_accept_year {K : Y.Frag} {mg : Str → Option Value} {ad : Nat → Addr} {fd : Nat → FuncData} (T : Tx K mg ad fd) : Binds K (fd 38) ["ferry", "bridge", "traffic", "rate", "year", "rows"] [] := T.F38.binds (ps := ["ferry", "bridge", "traffic", "rate", "year", "rows"]) fun _ _ _ _ _ _ us hl => match us, hl with | [_, _, _, _, _, _], _ => rfl
theorem f_accept_year {P : Program} {w : World} {K : Y.Frag} {mg : Str → Option Value} {base : Heap} {ad : Nat → Addr} {fd : Nat → FuncData} (T : Tx K mg ad fd) : FnG P w K mg base 6 (ad 38) (fd 38) ["ferry", "bridge", "traffic", "rate", "year", "rows"] (spP K (ac (c2 cI cI) (ac (c3 cI cI cI) (ac (cT cI) (ac (c2 cI cI) (ac (cO cI) (ac (cT (c2 cI cI)) an)))))) cN g_accept_year m_accept_year) :=
  fn_pure T.F38 sc_accept_year 4 (fun _ => rfl) rfl (owS := []) (ow' := []) (ΓS := fun _ : Empty => []) (Γ' := fun _ : Unit => [none, none, none, none, none, none, none, none, none, none]) (cr := cN) (ci := fun _ => []) (G := g_accept_year) (d := o_accept_year) (fun A0 cdv A outer s H E hr hg => by
    have hu : (A.deeper (envOfC _ (defScope (topS 38)) s.heap.objs.size _ cdv)).units + 64 < cLine := Nat.lt_of_le_of_lt (Nat.add_le_add_left (by decide) _) (room_un hr)
    have key : Dss (XF P w K mg base ["ferry", "bridge", "traffic", "rate", "year", "rows", "at", "row", "own", "told"] "accept_year" (topS 38) (ad 38) cdv A outer s H E) ⟨A0, [], none⟩ [] (fun a : E0_accept_year => ((ac (c2 cI cI) (ac (c3 cI cI cI) (ac (cT cI) (ac (c2 cI cI) (ac (cO cI) (ac (cT (c2 cI cI)) an)))))) a).map some ++ List.replicate 4 none) cN (fun _ => []) [] (fun _ : Empty => []) (defBody (topS 38)) _ _ [] (fun _ : Unit => [none, none, none, none, none, none, none, none, none, none]) := (s_cons (s_drop (d_call ((f_check_case T).mono (by decide)) hr hg T.M25 T.F25.kp (b_check_case T) (a_cons (d_var 0 (fun q : E0_accept_year => q.1) (c2 cI cI) (fun _ => rfl)) (a_cons (d_var 1 (fun q : E0_accept_year => q.2.1) (c3 cI cI cI) (fun _ => rfl)) (a_cons (d_var 2 (fun q : E0_accept_year => q.2.2.1) (cT cI) (fun _ => rfl)) (a_cons (d_var 3 (fun q : E0_accept_year => q.2.2.2.1) (c2 cI cI) (fun _ => rfl)) a_nil)))))) (s_ifX (Dw.dt (w_orP (t_not (t_val (d_isi (C := "tuple") (b := true) (d_var 5 (fun q : E0_accept_year => q.2.2.2.2.2.1) (cT (c2 cI cI)) (fun _ => rfl)) (ty_T fun _ => rfl) T.z_isinstance T.z_tuple (by decide +kernel) (by decide +kernel)))) (w_orP (t_cmp op_ne v_neI (d_blt call_len_seq (v_len sq_T) T.z_len (by decide +kernel) (a_cons (d_var 5 (fun q : E0_accept_year => q.2.2.2.2.2.1) (cT (c2 cI cI)) (fun _ => rfl)) a_nil)) (d_op op_add v_add (d_blt call_len_seq (v_len sq_T) T.z_len (by decide +kernel) (a_cons (d_var 2 (fun q : E0_accept_year => q.2.2.1) (cT cI) (fun _ => rfl)) a_nil)) d_int) (nomark _)) (w_or1 (t_not (t_val (d_blt (cr_all rfl) v_allL T.z_all (by decide +kernel) (a_cons (DL.de (d_lc0 (i_tup (d_var 5 (fun q : E0_accept_year => q.2.2.2.2.2.1) (cT (c2 cI cI)) (fun _ => rfl))) (blkOk_by (N := ["ferry", "bridge", "traffic", "rate", "year", "rows", "at", "row", "own", "told"]) (sc := defScope (topS 38)) (own := [("row", 7)]) (by decide +kernel)) (tg_name 7) (fun _ _ _ _ _ => (pg_name (i := 7) sc_accept_year.nd rfl (by first | exact .inl rfl | exact .inr rfl))) (fun _ _ _ _ _ _ => (d_call ((f_is_quotient T).mono (by decide)) hr hg T.M18 T.F18.kp (b_is_quotient T) (a_cons (d_var 7 (fun q : E1_accept_year => q.2) (c2 cI cI) (fun _ => rfl)) a_nil))) (own := [("row", 7)]) (hN := sc_accept_year.nd))) a_nil)))))))) (s_ifX (Dw.dt (w_andP (t_cmp op_notN (v_notO (fun _ => by intro h; cases h)) (d_var 4 (fun q : E0_accept_year => q.2.2.2.2.1) (cO cI) (fun _ => rfl)) d_non (nomark _)) (w_and1 (Dw.dt (w_orP (t_not (t_val (d_call ((f_is_integer T).mono (by decide)) hr hg T.M5 T.F5.kp (b_is_integer T) (a_cons (De.cast (c' := cI) (fun x : Option Int => x.getD default) (d_var 4 (fun q : E0_accept_year => q.2.2.2.2.1) (cO cI) (fun _ => rfl))) a_nil)))) (w_or1 (t_not (t_chain op_le op_lt v_le v_lt d_int (De.cast (c' := cI) (fun x : Option Int => x.getD default) (d_var 4 (fun q : E0_accept_year => q.2.2.2.2.1) (cO cI) (fun _ => rfl))) (d_blt call_len_seq (v_len sq_T) T.z_len (by decide +kernel) (a_cons (d_var 2 (fun q : E0_accept_year => q.2.2.1) (cT cI) (fun _ => rfl)) a_nil)))))))))) (s_cons (s_forN (ΓL := (fun (e2 : E0_accept_year) (m : E2_accept_year) => [some ((c2 cI cI) e2.1), some ((c3 cI cI cI) e2.2.1), some ((cT cI) e2.2.2.1), some ((c2 cI cI) e2.2.2.2.1), some ((cO cI) e2.2.2.2.2.1), some ((cT (c2 cI cI)) e2.2.2.2.2.2.1), none, none, none, none])) (fun q : E0_accept_year => ()) (i_enumT (d_var 5 (fun q : E0_accept_year => q.2.2.2.2.2.1) (cT (c2 cI cI)) (fun _ => rfl)) T.z_enumerate) (fun _ _ _ _ r => r) (pg_tup rfl (pgs_cons (pg_name (i := 6) sc_accept_year.nd rfl (by first | exact .inl rfl | exact .inr rfl)) (pgs_cons (pg_name (i := 7) sc_accept_year.nd rfl (by first | exact .inl rfl | exact .inr rfl)) pgs_nil))) (tg_pair 6 7) (fun e2 : E0_accept_year => (s_cons (s_asg 8 (d_if (t_cmp op_eq v_eqI (d_var 6 (fun q : E3_accept_year => q.2.1) cI (fun _ => rfl)) (d_blt call_len_seq (v_len sq_T) T.z_len (by decide +kernel) (a_cons (d_var 2 (fun q : E3_accept_year => e2.2.2.1) (cT cI) (fun _ => rfl)) a_nil)) (nomark _)) (De.as (c := cN) (c' := (cO cI)) (g := fun x : Unit => (none : Option Int)) (fun _ => rfl) d_non) (De.as (c := cI) (c' := (cO cI)) (g := fun x : Int => (some x)) (fun _ => rfl) (d_var 6 (fun q : E3_accept_year => q.2.1) cI (fun _ => rfl)))) (hN := sc_accept_year.nd)) (s_ifX (t_cmp (op_neD hu) (v_neD (cq_2 cq_I cq_I) (cq_2 cq_I cq_I)) (d_var 7 (fun q : E4_accept_year => q.1.2.2) (c2 cI cI) (fun _ => rfl)) (d_call ((f_worth_of T).mono (by decide)) hr hg T.M31 T.F31.kp (b_worth_of T) (a_cons (d_call ((f_switch_costs T).mono (by decide)) hr hg T.M30 T.F30.kp (b_switch_costs T) (a_cons (d_var 0 (fun q : E4_accept_year => e2.1) (c2 cI cI) (fun _ => rfl)) (a_cons (d_var 1 (fun q : E4_accept_year => e2.2.1) (c3 cI cI cI) (fun _ => rfl)) (a_cons (d_var 2 (fun q : E4_accept_year => e2.2.2.1) (cT cI) (fun _ => rfl)) (a_cons (d_var 8 (fun q : E4_accept_year => q.2) (cO cI) (fun _ => rfl)) a_nil))))) (a_cons (d_var 3 (fun q : E4_accept_year => e2.2.2.2.1) (c2 cI cI) (fun _ => rfl)) a_nil))) (nomark _)) (s_end (ow2 := []) (Γ2 := (fun m : E2_accept_year => [some ((c2 cI cI) e2.1), some ((c3 cI cI cI) e2.2.1), some ((cT cI) e2.2.2.1), some ((c2 cI cI) e2.2.2.2.1), some ((cO cI) e2.2.2.2.2.1), some ((cT (c2 cI cI)) e2.2.2.2.2.2.1), none, none, none, none])) (fun q : E4_accept_year => ()) (fun _ _ _ _ r => r.wk (.k (.k (.k (.k (.k (.k (.f (.f (.f (.k .nil))))))))))))))) (fun _ _ => rfl) PassesOwn.never) (s_cons (s_asg 9 (d_ix ix_tup v_ixT (d_var 5 (fun q : E5_accept_year => q.1.2.2.2.2.2.1) (cT (c2 cI cI)) (fun _ => rfl)) (De.cast (c' := cI) (fun x : Option Int => x.getD default) (d_if (t_cmp op_isN (v_isO (fun _ => by intro h; cases h)) (d_var 4 (fun q : E5_accept_year => q.1.2.2.2.2.1) (cO cI) (fun _ => rfl)) d_non (nomark _)) (De.as (c := cI) (c' := (cO cI)) (g := fun x : Int => (some x)) (fun _ => rfl) (d_blt call_len_seq (v_len sq_T) T.z_len (by decide +kernel) (a_cons (d_var 2 (fun q : E5_accept_year => q.1.2.2.1) (cT cI) (fun _ => rfl)) a_nil))) (d_var 4 (fun q : E5_accept_year => q.1.2.2.2.2.1) (cO cI) (fun _ => rfl))))) (hN := sc_accept_year.nd)) (s_ifX (t_truth (DL.de (d_lc (i_tup (d_var 5 (fun q : E6_accept_year => q.1.1.2.2.2.2.2.1) (cT (c2 cI cI)) (fun _ => rfl))) (blkOk_by (N := ["ferry", "bridge", "traffic", "rate", "year", "rows", "at", "row", "own", "told"]) (sc := defScope (topS 38)) (own := [("row", 7)]) (by decide +kernel)) (tg_name 7) (fun _ _ _ _ _ => (pg_name (i := 7) sc_accept_year.nd rfl (by first | exact .inl rfl | exact .inr rfl))) (fun _ _ _ _ _ => dt_one fun _ => (t_val (d_call ((f_is_less T).mono (by decide)) hr hg T.M15 T.F15.kp (b_is_less T) (a_cons (d_var 7 (fun q : E7_accept_year => q.2) (c2 cI cI) (fun _ => rfl)) (a_cons (d_var 9 (fun q : E7_accept_year => q.1.2) (c2 cI cI) (fun _ => rfl)) a_nil))))) (fun _ _ _ _ _ _ => (d_var 7 (fun q : E7_accept_year => q.2) (c2 cI cI) (fun _ => rfl))) (own := [("row", 7)]) (hN := sc_accept_year.nd))) (tru_list sq_L)) (s_end (ow2 := []) (Γ2 := fun _ : Unit => [none, none, none, none, none, none, none, none, none, none]) (fun _ : E6_accept_year => ()) (fun _ _ _ _ r => r.wk (.f (.f (.f (.f (.f (.f (.k (.k (.k (.f .nil))))))))))))))))))
    exact dss_eq key (by kernel_rfl) (by kernel_rfl)) (fun _ h => h) (fun a _ => ends_und (o_accept_year a))
abbrev E0_grown_traffic : Type := Int × (Int × Int) × Int × Unit
abbrev E1_grown_traffic : Type := E0_grown_traffic × (List Int)
abbrev E2_grown_traffic : Type := E1_grown_traffic × Int
abbrev E3_grown_traffic : Type := (List Int) × Int
abbrev E4_grown_traffic : Type := E3_grown_traffic × Int
abbrev E5_grown_traffic : Type := E4_grown_traffic × (List Int)
abbrev E6_grown_traffic : Type := E5_grown_traffic × Int
abbrev E7_grown_traffic : Type := E2_grown_traffic × E3_grown_traffic
def k1_grown_traffic (growth : Int × Int) (q4 : E4_grown_traffic) : E3_grown_traffic :=
  (let found5 : List Int := (q4.1.1 ++ [q4.1.2]); (let own6 : Int := ((q4.1.2 * growth.1) / growth.2); (found5, own6)))
def kg1_grown_traffic (growth : Int × Int) (q4 : E4_grown_traffic) : Prop :=
  ((True ∧ (q4.1.1).length < 16777216) ∧ (let found5 : List Int := (q4.1.1 ++ [q4.1.2]); (((True ∧ True ∧ (CMul q4.1.2 growth.1)) ∧ True ∧ (CDivW ((q4.1.2 * growth.1)) growth.2)) ∧ (let own6 : Int := ((q4.1.2 * growth.1) / growth.2); True))))
def o_grown_traffic (a : E0_grown_traffic) : Out Empty (List Int) Empty :=
  (let crossings := a.1; let growth := a.2.1; let many := a.2.2.1; (let found1 : List Int := ([] : List Int); (let own2 : Int := crossings; (let l7 : E3_grown_traffic := (((rng 0 many)).foldl (fun m x => (k1_grown_traffic growth) (m, x)) (found1, own2)); (Out.rt l7.1)))))
def m_grown_traffic (a : E0_grown_traffic) : List Int := (o_grown_traffic a).ret
def g_grown_traffic (a : E0_grown_traffic) : Prop :=
  (let crossings := a.1; let growth := a.2.1; let many := a.2.2.1; (((((True ∧ True) ∧ (g_is_integer (crossings, ()))) ∧ ((!((m_is_integer (crossings, ())))) = false → (True ∧ True ∧ ((decide ((0 : Int) ≤ crossings)) = true → True)))) ∧ ((!((m_is_integer (crossings, ())))) || (!(((decide ((0 : Int) ≤ crossings)) && (decide (crossings ≤ (1000000000000 : Int))))))) = false) ∧ (((((True ∧ True) ∧ (g_is_number (growth, ()))) ∧ ((!((m_is_number (growth, ())))) = false → (True ∧ True ∧ True))) ∧ ((!((m_is_number (growth, ())))) || (decide (growth.1 ≤ (0 : Int)))) = false) ∧ (((((True ∧ True) ∧ (g_is_integer (many, ()))) ∧ ((!((m_is_integer (many, ())))) = false → (True ∧ True ∧ ((decide ((1 : Int) ≤ many)) = true → True)))) ∧ ((!((m_is_integer (many, ())))) || (!(((decide ((1 : Int) ≤ many)) && (decide (many ≤ (40 : Int))))))) = false) ∧ (True ∧ (let found1 : List Int := ([] : List Int); (True ∧ (let own2 : Int := crossings; ((((True ∧ True) ∧ (CRg 0 many)) ∧ (forN (kg1_grown_traffic growth) (k1_grown_traffic growth) (found1, own2) (rng 0 many))) ∧ (let l7 : E3_grown_traffic := (((rng 0 many)).foldl (fun m x => (k1_grown_traffic growth) (m, x)) (found1, own2)); ((True ∧ True) ∧ True)))))))))))
theorem sc_grown_traffic : FnScope ["crossings", "growth", "many", "found", "own", "year"] ["crossings", "growth", "many"] (defScope (topS 39)) := ⟨rfl, rfl, rfl, by decide +kernel, rfl, by decide +kernel, by decide +kernel⟩
theorem b_grown_traffic {K : Y.Frag} {mg : Str → Option Value} {ad : Nat → Addr} {fd : Nat → FuncData} (T : Tx K mg ad fd) : Binds K (fd 39) ["crossings", "growth", "many"] [] := T.F39.binds (ps := ["crossings", "growth", "many"]) fun _ _ _ _ _ _ us hl => match us, hl with | [_, _, _], _ => rfl
theorem f_grown_traffic {P : Program} {w : World} {K : Y.Frag} {mg : Str → Option Value} {base : Heap} {ad : Nat → Addr} {fd : Nat → FuncData} (T : Tx K mg ad fd) : FnG P w K mg base 4 (ad 39) (fd 39) ["crossings", "growth", "many"] (spP K (ac cI (ac (c2 cI cI) (ac cI an))) (cT cI) g_grown_traffic m_grown_traffic) :=
  fn_pure T.F39 sc_grown_traffic 3 (fun _ => rfl) rfl (owS := []) (ow' := []) (ΓS := fun _ : Empty => []) (Γ' := fun _ : Empty => []) (cr := (cT cI)) (ci := fun _ => []) (G := g_grown_traffic) (d := o_grown_traffic) (fun A0 cdv A outer s H E hr hg => by
    have hu : (A.deeper (envOfC _ (defScope (topS 39)) s.heap.objs.size _ cdv)).units + 64 < cLine := Nat.lt_of_le_of_lt (Nat.add_le_add_left (by decide) _) (room_un hr)
    have key : Dss (XF P w K mg base ["crossings", "growth", "many", "found", "own", "year"] "grown_traffic" (topS 39) (ad 39) cdv A outer s H E) ⟨A0, [], none⟩ [] (fun a : E0_grown_traffic => ((ac cI (ac (c2 cI cI) (ac cI an))) a).map some ++ List.replicate 3 none) (cT cI) (fun _ => []) [] (fun _ : Empty => []) (defBody (topS 39)) _ _ [] (fun _ : Empty => []) := (s_ifX (Dw.dt (w_orP (t_not (t_val (d_call ((f_is_integer T).mono (by decide)) hr hg T.M5 T.F5.kp (b_is_integer T) (a_cons (d_var 0 (fun q : E0_grown_traffic => q.1) cI (fun _ => rfl)) a_nil)))) (w_or1 (t_not (t_chain op_le op_le v_le v_le d_int (d_var 0 (fun q : E0_grown_traffic => q.1) cI (fun _ => rfl)) (d_glob (v := .int 1000000000000) (c := cI) (a := 1000000000000) T.c_MAX_SIZE.choose_spec ⟨_, rfl⟩ (fun _ _ => .int _))))))) (s_ifX (Dw.dt (w_orP (t_not (t_val (d_call ((f_is_number T).mono (by decide)) hr hg T.M19 T.F19.kp (b_is_number T) (a_cons (d_var 1 (fun q : E0_grown_traffic => q.2.1) (c2 cI cI) (fun _ => rfl)) a_nil)))) (w_or1 (t_cmp op_le v_le (d_prj 0 (fun x : Int × Int => x.1) (cb := cI) (fun _ => ⟨_, rfl, rfl⟩) (d_var 1 (fun q : E0_grown_traffic => q.2.1) (c2 cI cI) (fun _ => rfl)) d_int) d_int (nomark _))))) (s_ifX (Dw.dt (w_orP (t_not (t_val (d_call ((f_is_integer T).mono (by decide)) hr hg T.M5 T.F5.kp (b_is_integer T) (a_cons (d_var 2 (fun q : E0_grown_traffic => q.2.2.1) cI (fun _ => rfl)) a_nil)))) (w_or1 (t_not (t_chain op_le op_le v_le v_le d_int (d_var 2 (fun q : E0_grown_traffic => q.2.2.1) cI (fun _ => rfl)) (d_glob (v := .int 40) (c := cI) (a := 40) T.c_MAX_YEARS.choose_spec ⟨_, rfl⟩ (fun _ _ => .int _))))))) (s_cons (s_own 3 (l_nil (a := cI)) (fun _ => by show _ < List.length _; simp) (ow' := [3]) (by intro j; simp only [List.mem_cons, List.not_mem_nil, or_false, false_or]; try omega) (fun h => absurd rfl h) (hN := sc_grown_traffic.nd)) (s_cons (s_asg 4 (d_var 0 (fun q : E1_grown_traffic => q.1.1) cI (fun _ => rfl)) (hN := sc_grown_traffic.nd)) (s_cons (s_forN (ΓL := (fun (e3 : E2_grown_traffic) (m : E3_grown_traffic) => [some (cI e3.1.1.1), some ((c2 cI cI) e3.1.1.2.1), some (cI e3.1.1.2.2.1), some (.list (m.1.map cI)), some (cI m.2), none])) (fun q : E2_grown_traffic => (q.1.2, q.2)) (i_rng1 (a_cons (d_var 2 (fun q : E2_grown_traffic => q.1.1.2.2.1) cI (fun _ => rfl)) a_nil) T.z_range) (fun _ _ _ _ r => r) (pg_name (i := 5) sc_grown_traffic.nd rfl (by first | exact .inl rfl | exact .inr rfl)) (tg_name 5) (fun e3 : E2_grown_traffic => (s_cons (s_app 3 (fun q : E4_grown_traffic => q.1.1) (fun _ => rfl) (d_var 4 (fun q : E4_grown_traffic => q.1.2) cI (fun _ => rfl))) (s_cons (s_asg 4 (d_op op_fdivW v_fdiv (d_op op_mul v_mul (d_var 4 (fun q : E5_grown_traffic => q.1.1.2) cI (fun _ => rfl)) (d_prj 0 (fun x : Int × Int => x.1) (cb := cI) (fun _ => ⟨_, rfl, rfl⟩) (d_var 1 (fun q : E5_grown_traffic => e3.1.1.2.1) (c2 cI cI) (fun _ => rfl)) d_int)) (d_prj 1 (fun x : Int × Int => x.2) (cb := cI) (fun _ => ⟨_, rfl, rfl⟩) (d_var 1 (fun q : E5_grown_traffic => e3.1.1.2.1) (c2 cI cI) (fun _ => rfl)) d_int)) (hN := sc_grown_traffic.nd)) (s_end (ow2 := [3]) (Γ2 := (fun m : E3_grown_traffic => [some (cI e3.1.1.1), some ((c2 cI cI) e3.1.1.2.1), some (cI e3.1.1.2.2.1), some (.list (m.1.map cI)), some (cI m.2), none])) (fun q : E6_grown_traffic => (q.1.2, q.2)) (fun _ _ _ _ r => r.wk (.k (.k (.k (.k (.k (.f .nil))))))))))) (fun _ _ => rfl) PassesOwn.never) (s_conv (ow2 := []) (fun q : E7_grown_traffic => q) (fun _ _ _ _ r => r.freeze (by decide) (fun h => absurd rfl h)) (s_one (s_ret (r := fun v (_ : E7_grown_traffic) => v) (fun _ _ => rfl) rfl (d_ty call_tuple_of (v_tuple sq_L) T.z_tuple (by decide +kernel) (a_cons (d_var 3 (fun q : E7_grown_traffic => q.2.1) (cL cI) (fun _ => rfl)) a_nil)))))))))))
    exact dss_eq key (by kernel_rfl) (by kernel_rfl)) (fun _ h => h) (fun a _ => ends_ret (fun r => r) (fun _ => rfl) (o_grown_traffic a))
abbrev E0_even_payment : Type := Int × (Int × Int) × Int × Unit
abbrev E1_even_payment : Type := E0_even_payment × Int
def o_even_payment (a : E0_even_payment) : Out Empty (Int × Int) Empty :=
  (let sum_owed := a.1; let rate := a.2.1; let many := a.2.2.1; (Out.rt ((m_over ((sum_owed, (1 : Int)), (m_sum_of ((((rng 0 many)).map fun x1 => (m_power (rate, x1, ()))), ())), ())))))
def m_even_payment (a : E0_even_payment) : Int × Int := (o_even_payment a).ret
def g_even_payment (a : E0_even_payment) : Prop :=
  (let sum_owed := a.1; let rate := a.2.1; let many := a.2.2.1; (((((True ∧ True) ∧ (g_is_integer (sum_owed, ()))) ∧ ((!((m_is_integer (sum_owed, ())))) = false → (True ∧ True ∧ ((decide ((0 : Int) ≤ sum_owed)) = true → True)))) ∧ ((!((m_is_integer (sum_owed, ())))) || (!(((decide ((0 : Int) ≤ sum_owed)) && (decide (sum_owed ≤ (1000000000000 : Int))))))) = false) ∧ (((True ∧ True) ∧ (g_check_rate (rate, ()))) ∧ (((((True ∧ True) ∧ (g_is_integer (many, ()))) ∧ ((!((m_is_integer (many, ())))) = false → (True ∧ True ∧ ((decide ((1 : Int) ≤ many)) = true → True)))) ∧ ((!((m_is_integer (many, ())))) || (!(((decide ((1 : Int) ≤ many)) && (decide (many ≤ (40 : Int))))))) = false) ∧ (((True ∧ (True ∧ True)) ∧ ((((((True ∧ True) ∧ (CRg 0 many)) ∧ (∀ x1 ∈ (rng 0 many), ((True ∧ (True ∧ True)) ∧ (g_power (rate, x1, ()))))) ∧ True) ∧ (g_sum_of ((((rng 0 many)).map fun x1 => (m_power (rate, x1, ()))), ()))) ∧ True)) ∧ (g_over ((sum_owed, (1 : Int)), (m_sum_of ((((rng 0 many)).map fun x1 => (m_power (rate, x1, ()))), ())), ())))))))
theorem sc_even_payment : FnScope ["sum_owed", "rate", "many", "year"] ["sum_owed", "rate", "many"] (defScope (topS 40)) := ⟨rfl, rfl, rfl, by decide +kernel, rfl, by decide +kernel, by decide +kernel⟩
theorem b_even_payment {K : Y.Frag} {mg : Str → Option Value} {ad : Nat → Addr} {fd : Nat → FuncData} (T : Tx K mg ad fd) : Binds K (fd 40) ["sum_owed", "rate", "many"] [] := T.F40.binds (ps := ["sum_owed", "rate", "many"]) fun _ _ _ _ _ _ us hl => match us, hl with | [_, _, _], _ => rfl
theorem f_even_payment {P : Program} {w : World} {K : Y.Frag} {mg : Str → Option Value} {base : Heap} {ad : Nat → Addr} {fd : Nat → FuncData} (T : Tx K mg ad fd) : FnG P w K mg base 5 (ad 40) (fd 40) ["sum_owed", "rate", "many"] (spP K (ac cI (ac (c2 cI cI) (ac cI an))) (c2 cI cI) g_even_payment m_even_payment) :=
  fn_pure T.F40 sc_even_payment 1 (fun _ => rfl) rfl (owS := []) (ow' := []) (ΓS := fun _ : Empty => []) (Γ' := fun _ : Empty => []) (cr := (c2 cI cI)) (ci := fun _ => []) (G := g_even_payment) (d := o_even_payment) (fun A0 cdv A outer s H E hr hg => by
    have hu : (A.deeper (envOfC _ (defScope (topS 40)) s.heap.objs.size _ cdv)).units + 64 < cLine := Nat.lt_of_le_of_lt (Nat.add_le_add_left (by decide) _) (room_un hr)
    have key : Dss (XF P w K mg base ["sum_owed", "rate", "many", "year"] "even_payment" (topS 40) (ad 40) cdv A outer s H E) ⟨A0, [], none⟩ [] (fun a : E0_even_payment => ((ac cI (ac (c2 cI cI) (ac cI an))) a).map some ++ List.replicate 1 none) (c2 cI cI) (fun _ => []) [] (fun _ : Empty => []) (defBody (topS 40)) _ _ [] (fun _ : Empty => []) := (s_ifX (Dw.dt (w_orP (t_not (t_val (d_call ((f_is_integer T).mono (by decide)) hr hg T.M5 T.F5.kp (b_is_integer T) (a_cons (d_var 0 (fun q : E0_even_payment => q.1) cI (fun _ => rfl)) a_nil)))) (w_or1 (t_not (t_chain op_le op_le v_le v_le d_int (d_var 0 (fun q : E0_even_payment => q.1) cI (fun _ => rfl)) (d_glob (v := .int 1000000000000) (c := cI) (a := 1000000000000) T.c_MAX_SIZE.choose_spec ⟨_, rfl⟩ (fun _ _ => .int _))))))) (s_cons (s_drop (d_call ((f_check_rate T).mono (by decide)) hr hg T.M24 T.F24.kp (b_check_rate T) (a_cons (d_var 1 (fun q : E0_even_payment => q.2.1) (c2 cI cI) (fun _ => rfl)) a_nil))) (s_ifX (Dw.dt (w_orP (t_not (t_val (d_call ((f_is_integer T).mono (by decide)) hr hg T.M5 T.F5.kp (b_is_integer T) (a_cons (d_var 2 (fun q : E0_even_payment => q.2.2.1) cI (fun _ => rfl)) a_nil)))) (w_or1 (t_not (t_chain op_le op_le v_le v_le d_int (d_var 2 (fun q : E0_even_payment => q.2.2.1) cI (fun _ => rfl)) (d_glob (v := .int 40) (c := cI) (a := 40) T.c_MAX_YEARS.choose_spec ⟨_, rfl⟩ (fun _ _ => .int _))))))) (s_one (s_ret (r := fun v (_ : E0_even_payment) => v) (fun _ _ => rfl) rfl (d_call ((f_over T).mono (by decide)) hr hg T.M14 T.F14.kp (b_over T) (a_cons (d_tp2 (a_cons (d_var 0 (fun q : E0_even_payment => q.1) cI (fun _ => rfl)) (a_cons d_int a_nil))) (a_cons (d_call ((f_sum_of T).mono (by decide)) hr hg T.M16 T.F16.kp (b_sum_of T) (a_cons (DL.de (d_lc0 (i_rng1 (a_cons (d_var 2 (fun q : E0_even_payment => q.2.2.1) cI (fun _ => rfl)) a_nil) T.z_range) (blkOk_by (N := ["sum_owed", "rate", "many", "year"]) (sc := defScope (topS 40)) (own := [("year", 3)]) (by decide +kernel)) (tg_name 3) (fun _ _ _ _ _ => (pg_name (i := 3) sc_even_payment.nd rfl (by first | exact .inl rfl | exact .inr rfl))) (fun _ _ _ _ _ _ => (d_call ((f_power T).mono (by decide)) hr hg T.M17 T.F17.kp (b_power T) (a_cons (d_var 1 (fun q : E1_even_payment => q.1.2.1) (c2 cI cI) (fun _ => rfl)) (a_cons (d_var 3 (fun q : E1_even_payment => q.2) cI (fun _ => rfl)) a_nil)))) (own := [("year", 3)]) (hN := sc_even_payment.nd))) a_nil)) a_nil))))))))
    exact dss_eq key (by kernel_rfl) (by kernel_rfl)) (fun _ h => h) (fun a _ => ends_ret (fun r => r) (fun _ => rfl) (o_even_payment a))
abbrev E0_debts : Type := Int × (Int × Int) × (List (Int × Int)) × Unit
abbrev E1_debts : Type := E0_debts × (Int × Int)
abbrev E2_debts : Type := E0_debts × (List (Int × Int))
abbrev E3_debts : Type := List (Int × Int)
abbrev E4_debts : Type := E3_debts × (Int × (Int × Int))
abbrev E5_debts : Type := E4_debts × (Int × Int)
abbrev E6_debts : Type := E5_debts × (List (Int × Int))
abbrev E7_debts : Type := E2_debts × E3_debts
def k1_debts (rate : Int × Int) (payments : List (Int × Int)) (q4 : E4_debts) : E3_debts :=
  (let left5 : Int × Int := (m_minus ((ixD q4.1 ((-1 : Int))), q4.2.2, ())); (let found6 : List (Int × Int) := (q4.1 ++ [(if (decide ((q4.2.1 + (1 : Int)) < ((payments).length : Int))) = true then (m_over (left5, rate, ())) else left5)]); found6))
def kg1_debts (rate : Int × Int) (payments : List (Int × Int)) (q4 : E4_debts) : Prop :=
  ((((True ∧ True ∧ (CIx q4.1 ((-1 : Int)))) ∧ (True ∧ True)) ∧ (g_minus ((ixD q4.1 ((-1 : Int))), q4.2.2, ()))) ∧ (let left5 : Int × Int := (m_minus ((ixD q4.1 ((-1 : Int))), q4.2.2, ())); (((((True ∧ True ∧ True) ∧ ((True ∧ True) ∧ True) ∧ True) ∧ ((decide ((q4.2.1 + (1 : Int)) < ((payments).length : Int))) = true → ((True ∧ (True ∧ True)) ∧ (g_over (left5, rate, ())))) ∧ ((decide ((q4.2.1 + (1 : Int)) < ((payments).length : Int))) = false → True)) ∧ (q4.1).length < 16777216) ∧ (let found6 : List (Int × Int) := (q4.1 ++ [(if (decide ((q4.2.1 + (1 : Int)) < ((payments).length : Int))) = true then (m_over (left5, rate, ())) else left5)]); True))))
def o_debts (a : E0_debts) : Out Empty (List (Int × Int)) Empty :=
  (let sum_owed := a.1; let rate := a.2.1; let payments := a.2.2.1; (let found2 : List (Int × Int) := [(sum_owed, (1 : Int))]; (let l7 : E3_debts := (((enum payments)).foldl (fun m x => (k1_debts rate payments) (m, x)) found2); (Out.rt l7))))
def m_debts (a : E0_debts) : List (Int × Int) := (o_debts a).ret
def g_debts (a : E0_debts) : Prop :=
  (let sum_owed := a.1; let rate := a.2.1; let payments := a.2.2.1; (((((True ∧ True) ∧ (g_is_integer (sum_owed, ()))) ∧ ((!((m_is_integer (sum_owed, ())))) = false → (True ∧ True ∧ ((decide ((0 : Int) ≤ sum_owed)) = true → True)))) ∧ ((!((m_is_integer (sum_owed, ())))) || (!(((decide ((0 : Int) ≤ sum_owed)) && (decide (sum_owed ≤ (1000000000000 : Int))))))) = false) ∧ (((True ∧ True) ∧ (g_check_rate (rate, ()))) ∧ (((True ∧ ((!true) = false → (True ∧ ((True ∧ True) ∧ True) ∧ ((decide ((1 : Int) ≤ ((payments).length : Int))) = true → True)))) ∧ ((!true) || (!(((decide ((1 : Int) ≤ ((payments).length : Int))) && (decide (((payments).length : Int) ≤ (40 : Int))))))) = false) ∧ (((((True ∧ (∀ x1 ∈ payments, ((True ∧ True) ∧ (g_is_quotient (x1, ()))))) ∧ True) ∧ True) ∧ (!((((payments.map fun x1 => (m_is_quotient (x1, ())))).all id))) = false) ∧ (((True ∧ (True ∧ True)) ∧ True) ∧ (let found2 : List (Int × Int) := [(sum_owed, (1 : Int))]; ((True ∧ (forN (kg1_debts rate payments) (k1_debts rate payments) found2 (enum payments))) ∧ (let l7 : E3_debts := (((enum payments)).foldl (fun m x => (k1_debts rate payments) (m, x)) found2); ((True ∧ True) ∧ True))))))))))
theorem sc_debts : FnScope ["sum_owed", "rate", "payments", "found", "year", "own", "left"] ["sum_owed", "rate", "payments"] (defScope (topS 41)) := ⟨rfl, rfl, rfl, by decide +kernel, rfl, by decide +kernel, by decide +kernel⟩
theorem b_debts {K : Y.Frag} {mg : Str → Option Value} {ad : Nat → Addr} {fd : Nat → FuncData} (T : Tx K mg ad fd) : Binds K (fd 41) ["sum_owed", "rate", "payments"] [] := T.F41.binds (ps := ["sum_owed", "rate", "payments"]) fun _ _ _ _ _ _ us hl => match us, hl with | [_, _, _], _ => rfl
theorem f_debts {P : Program} {w : World} {K : Y.Frag} {mg : Str → Option Value} {base : Heap} {ad : Nat → Addr} {fd : Nat → FuncData} (T : Tx K mg ad fd) : FnG P w K mg base 5 (ad 41) (fd 41) ["sum_owed", "rate", "payments"] (spP K (ac cI (ac (c2 cI cI) (ac (cT (c2 cI cI)) an))) (cT (c2 cI cI)) g_debts m_debts) :=
  fn_pure T.F41 sc_debts 4 (fun _ => rfl) rfl (owS := []) (ow' := []) (ΓS := fun _ : Empty => []) (Γ' := fun _ : Empty => []) (cr := (cT (c2 cI cI))) (ci := fun _ => []) (G := g_debts) (d := o_debts) (fun A0 cdv A outer s H E hr hg => by
    have hu : (A.deeper (envOfC _ (defScope (topS 41)) s.heap.objs.size _ cdv)).units + 64 < cLine := Nat.lt_of_le_of_lt (Nat.add_le_add_left (by decide) _) (room_un hr)
    have key : Dss (XF P w K mg base ["sum_owed", "rate", "payments", "found", "year", "own", "left"] "debts" (topS 41) (ad 41) cdv A outer s H E) ⟨A0, [], none⟩ [] (fun a : E0_debts => ((ac cI (ac (c2 cI cI) (ac (cT (c2 cI cI)) an))) a).map some ++ List.replicate 4 none) (cT (c2 cI cI)) (fun _ => []) [] (fun _ : Empty => []) (defBody (topS 41)) _ _ [] (fun _ : Empty => []) := (s_ifX (Dw.dt (w_orP (t_not (t_val (d_call ((f_is_integer T).mono (by decide)) hr hg T.M5 T.F5.kp (b_is_integer T) (a_cons (d_var 0 (fun q : E0_debts => q.1) cI (fun _ => rfl)) a_nil)))) (w_or1 (t_not (t_chain op_le op_le v_le v_le d_int (d_var 0 (fun q : E0_debts => q.1) cI (fun _ => rfl)) (d_glob (v := .int 1000000000000) (c := cI) (a := 1000000000000) T.c_MAX_SIZE.choose_spec ⟨_, rfl⟩ (fun _ _ => .int _))))))) (s_cons (s_drop (d_call ((f_check_rate T).mono (by decide)) hr hg T.M24 T.F24.kp (b_check_rate T) (a_cons (d_var 1 (fun q : E0_debts => q.2.1) (c2 cI cI) (fun _ => rfl)) a_nil))) (s_ifX (Dw.dt (w_orP (t_not (t_val (d_isi (C := "tuple") (b := true) (d_var 2 (fun q : E0_debts => q.2.2.1) (cT (c2 cI cI)) (fun _ => rfl)) (ty_T fun _ => rfl) T.z_isinstance T.z_tuple (by decide +kernel) (by decide +kernel)))) (w_or1 (t_not (t_chain op_le op_le v_le v_le d_int (d_blt call_len_seq (v_len sq_T) T.z_len (by decide +kernel) (a_cons (d_var 2 (fun q : E0_debts => q.2.2.1) (cT (c2 cI cI)) (fun _ => rfl)) a_nil)) (d_glob (v := .int 40) (c := cI) (a := 40) T.c_MAX_YEARS.choose_spec ⟨_, rfl⟩ (fun _ _ => .int _))))))) (s_ifX (t_not (t_val (d_blt (cr_all rfl) v_allL T.z_all (by decide +kernel) (a_cons (DL.de (d_lc0 (i_tup (d_var 2 (fun q : E0_debts => q.2.2.1) (cT (c2 cI cI)) (fun _ => rfl))) (blkOk_by (N := ["sum_owed", "rate", "payments", "found", "year", "own", "left"]) (sc := defScope (topS 41)) (own := [("own", 5)]) (by decide +kernel)) (tg_name 5) (fun _ _ _ _ _ => (pg_name (i := 5) sc_debts.nd rfl (by first | exact .inl rfl | exact .inr rfl))) (fun _ _ _ _ _ _ => (d_call ((f_is_quotient T).mono (by decide)) hr hg T.M18 T.F18.kp (b_is_quotient T) (a_cons (d_var 5 (fun q : E1_debts => q.2) (c2 cI cI) (fun _ => rfl)) a_nil))) (own := [("own", 5)]) (hN := sc_debts.nd))) a_nil)))) (s_cons (s_own 3 (l_disp (c := (c2 cI cI)) (g := fun x : (Int × Int) × Unit => [x.1]) (fun _ => rfl) (fun _ => Nat.le_of_ble_eq_true rfl) (a_cons (d_tp2 (a_cons (d_var 0 (fun q : E0_debts => q.1) cI (fun _ => rfl)) (a_cons d_int a_nil))) a_nil)) (fun _ => by show _ < List.length _; simp) (ow' := [3]) (by intro j; simp only [List.mem_cons, List.not_mem_nil, or_false, false_or]; try omega) (fun h => absurd rfl h) (hN := sc_debts.nd)) (s_cons (s_forN (ΓL := (fun (e3 : E2_debts) (m : E3_debts) => [some (cI e3.1.1), some ((c2 cI cI) e3.1.2.1), some ((cT (c2 cI cI)) e3.1.2.2.1), some (.list (m.map (c2 cI cI))), none, none, none])) (fun q : E2_debts => q.2) (i_enumT (d_var 2 (fun q : E2_debts => q.1.2.2.1) (cT (c2 cI cI)) (fun _ => rfl)) T.z_enumerate) (fun _ _ _ _ r => r) (pg_tup rfl (pgs_cons (pg_name (i := 4) sc_debts.nd rfl (by first | exact .inl rfl | exact .inr rfl)) (pgs_cons (pg_name (i := 5) sc_debts.nd rfl (by first | exact .inl rfl | exact .inr rfl)) pgs_nil))) (tg_pair 4 5) (fun e3 : E2_debts => (s_cons (s_asg 6 (d_call ((f_minus T).mono (by decide)) hr hg T.M12 T.F12.kp (b_minus T) (a_cons (De.up (lf_2 (fun _ => rfl) (fun _ => rfl)) (d_ix ix_list v_ixL (d_own 3 (fun q : E4_debts => q.1) (cL (c2 cI cI)) (fun _ => rfl)) (De.wk d_neg1))) (a_cons (d_var 5 (fun q : E4_debts => q.2.2) (c2 cI cI) (fun _ => rfl)) a_nil))) (hN := sc_debts.nd)) (s_cons (s_app 3 (fun q : E5_debts => q.1.1) (fun _ => rfl) (d_if (t_cmp op_lt v_lt (d_op op_add v_add (d_var 4 (fun q : E5_debts => q.1.2.1) cI (fun _ => rfl)) d_int) (d_blt call_len_seq (v_len sq_T) T.z_len (by decide +kernel) (a_cons (d_var 2 (fun q : E5_debts => e3.1.2.2.1) (cT (c2 cI cI)) (fun _ => rfl)) a_nil)) (nomark _)) (d_call ((f_over T).mono (by decide)) hr hg T.M14 T.F14.kp (b_over T) (a_cons (d_var 6 (fun q : E5_debts => q.2) (c2 cI cI) (fun _ => rfl)) (a_cons (d_var 1 (fun q : E5_debts => e3.1.2.1) (c2 cI cI) (fun _ => rfl)) a_nil))) (d_var 6 (fun q : E5_debts => q.2) (c2 cI cI) (fun _ => rfl)))) (s_end (ow2 := [3]) (Γ2 := (fun m : E3_debts => [some (cI e3.1.1), some ((c2 cI cI) e3.1.2.1), some ((cT (c2 cI cI)) e3.1.2.2.1), some (.list (m.map (c2 cI cI))), none, none, none])) (fun q : E6_debts => q.2) (fun _ _ _ _ r => r.wk (.k (.k (.k (.k (.f (.f (.f .nil)))))))))))) (fun _ _ => rfl) PassesOwn.never) (s_conv (ow2 := []) (fun q : E7_debts => q) (fun _ _ _ _ r => r.freeze (by decide) (fun h => absurd rfl h)) (s_one (s_ret (r := fun v (_ : E7_debts) => v) (fun _ _ => rfl) rfl (d_ty call_tuple_of (v_tuple sq_L) T.z_tuple (by decide +kernel) (a_cons (d_var 3 (fun q : E7_debts => q.2) (cL (c2 cI cI)) (fun _ => rfl)) a_nil)))))))))))
    exact dss_eq key (by kernel_rfl) (by kernel_rfl)) (fun _ h => h) (fun a _ => ends_ret (fun r => r) (fun _ => rfl) (o_debts a))
theorem sc__law_start : FnScope ["script", "seed", "cell"] ["script"] (defScope (topS 43)) := ⟨rfl, rfl, rfl, by decide +kernel, rfl, by decide +kernel, by decide +kernel⟩
theorem b__law_start {K : Y.Frag} {mg : Str → Option Value} {ad : Nat → Addr} {fd : Nat → FuncData} (T : Tx K mg ad fd) : Binds K (fd 43) ["script"] [] := T.F43.binds (ps := ["script"]) fun _ _ _ _ _ _ us hl => match us, hl with | [_], _ => rfl
theorem f__law_start {P : Program} {w : World} {K : Y.Frag} {mg : Str → Option Value} {base : Heap} {ad : Nat → Addr} {fd : Nat → FuncData} (T : Tx K mg ad fd) : FnG P w K mg base 1 (ad 43) (fd 43) ["script"] (spStart K) := by
  refine fnG T.F43 sc__law_start (fun vs H Q E h => by obtain ⟨a, ns, rfl, _⟩ := h; rfl) (fun cdv A outer s H vs Q E hr hg h => ?_)
  obtain ⟨a, ns, rfl, hS, hlen, q⟩ := h
  refine ⟨_, pss_cons (ps_set (i := 1) sc__law_start.nd rfl (.inl rfl) pe_int)
    (pss_cons (ps_for PassesOwn.never rfl (pi_list (pv 0)) (pg_name (i := 2) sc__law_start.nd rfl (.inl rfl))
      (pss_one (ps_set (i := 1) sc__law_start.nd rfl (.inl rfl) (pe_op op_add (pe_op op_mod (pe_callTy call_int1 rfl T.z_int (by decide +kernel) (pa_cons (pe_op op_add (pe_op op_mul (pv 1) pe_int) (pv 2)) pa_nil)) pe_int) pe_int))))
      (pss_one (ps_ret (pe_lst (pa_cons (pe_callTy call_list_of rfl T.z_list (by decide +kernel) (pa_cons (pv 0) pa_nil)) (pa_cons pe_int (pa_cons pe_int (pa_cons (pv 1) pa_nil)))))))), ?_⟩
  refine ⟨.ref a, rfl, a, rfl, ⟨_, hS⟩, ?_⟩
  refine for_it (walk_list (xs := ns.map V.int)) (fun i σ H3 => ∃ y2, σ = [some (.ref a), some (.int (seedF (ns.take i))), y2] ∧ H3 = H) ⟨none, rfl, rfl⟩ (fun i σ H3 _ ⟨_, _, e⟩ => by rw [e]; exact hS) ?_ ?_
  · rintro i x σ H3 H4 hi ⟨y2, rfl, rfl⟩ ⟨rfl, ex⟩
    obtain ⟨z, hz, rfl⟩ := int_at ex
    refine ⟨.int (seedF (ns.take i)), rfl, _, _, rfl, rfl, .inr ⟨by decide, by decide⟩, .int z, rfl, _, _, rfl, rfl, .inl ⟨_, rfl, _, _, rfl, rfl, (by show (0 : Int) < 2147483629; decide), _, _, rfl, rfl, some (.int z), ?_, rfl⟩⟩
    rw [seedF_take hz]
    rfl
  · rintro σ H3 ⟨y2, rfl, rfl⟩
    rw [List.length_map, List.take_length]
    refine ⟨.ref a, rfl, a, ns.map V.int, rfl, .inl hS, fun l hl => ⟨.int (seedF ns), rfl, by show 4 ≤ sizeLine; decide, fun q' hq => ?_⟩⟩
    have nq : l ≠ q' := fun e => by rw [← e, upd_same] at hq; cases hq
    refine q q' l _ (by rw [upd_ne nq.symm] at hq; exact hq) hl nq ((Fr.new hl).trans (Fr.new hq)) upd_same (by rw [upd_ne nq, upd_same])
abbrev E0__law_draw : Type := (Int × Unit) × St4
abbrev E1__law_draw : Type := E0__law_draw × St4
abbrev E2__law_draw : Type := E1__law_draw × St4
abbrev E3__law_draw : Type := E1__law_draw × Int
abbrev E4__law_draw : Type := E3__law_draw × St4
def o__law_draw (a : E0__law_draw) : Out Empty ((Int) × St4) Empty :=
  (let many := a.1.1; (if ((decide (a.2.2.1 = (0 : Int))) && (decide (((a.2.1).length : Int) ≤ a.2.2.2.1))) = true then (let st1 : St4 := (a.2.1, a.2.2.1, a.2.2.2.1, (((a.2.2.2.2 * (48271 : Int)) + (69621 : Int)) % (2147483629 : Int))); (Out.rt (((st1.2.2.2 / (13 : Int)) % many), st1))) else (let j5 : St4 := (if (decide (a.2.2.1 = (0 : Int))) = true then (let st3 : St4 := (a.2.1, ((((ixD a.2.1 a.2.2.2.1)).natAbs : Nat) : Int), a.2.2.2.1, a.2.2.2.2); (let st4 : St4 := (st3.1, st3.2.1, (st3.2.2.1 + (1 : Int)), st3.2.2.2); st4)) else a.2); (let taken6 : Int := (j5.2.1 % many); (let st7 : St4 := (j5.1, (j5.2.1 / many), j5.2.2.1, j5.2.2.2); (Out.rt (taken6, st7)))))))
def m__law_draw (a : E0__law_draw) : (Int) × St4 := (o__law_draw a).ret
def g__law_draw (a : E0__law_draw) : Prop :=
  (let many := a.1.1; (((True ∧ True ∧ True) ∧ ((decide (a.2.2.1 = (0 : Int))) = true → (True ∧ ((True ∧ True) ∧ True) ∧ True))) ∧ (((decide (a.2.2.1 = (0 : Int))) && (decide (((a.2.1).length : Int) ≤ a.2.2.2.1))) = true → ((((((True ∧ True ∧ (CMul a.2.2.2.2 ((48271 : Int)))) ∧ True ∧ True) ∧ True) ∧ True) ∧ True ∧ ((0 : Int) < (2147483629 : Int))) ∧ (let st1 : St4 := (a.2.1, a.2.2.1, a.2.2.2.1, (((a.2.2.2.2 * (48271 : Int)) + (69621 : Int)) % (2147483629 : Int))); ((((True ∧ True ∧ (CDivW st1.2.2.2 ((13 : Int)))) ∧ True) ∧ True) ∧ True ∧ ((0 : Int) < many))))) ∧ (((decide (a.2.2.1 = (0 : Int))) && (decide (((a.2.1).length : Int) ≤ a.2.2.2.1))) = false → (((True ∧ True ∧ True) ∧ ((decide (a.2.2.1 = (0 : Int))) = true → ((((True ∧ True ∧ (CIx a.2.1 a.2.2.2.1)) ∧ True) ∧ True) ∧ (let st3 : St4 := (a.2.1, ((((ixD a.2.1 a.2.2.2.1)).natAbs : Nat) : Int), a.2.2.2.1, a.2.2.2.2); ((True ∧ True ∧ True) ∧ (let st4 : St4 := (st3.1, st3.2.1, (st3.2.2.1 + (1 : Int)), st3.2.2.2); True))))) ∧ ((decide (a.2.2.1 = (0 : Int))) = false → True)) ∧ (let j5 : St4 := (if (decide (a.2.2.1 = (0 : Int))) = true then (let st3 : St4 := (a.2.1, ((((ixD a.2.1 a.2.2.2.1)).natAbs : Nat) : Int), a.2.2.2.1, a.2.2.2.2); (let st4 : St4 := (st3.1, st3.2.1, (st3.2.2.1 + (1 : Int)), st3.2.2.2); st4)) else a.2); ((((True ∧ True) ∧ True) ∧ True ∧ ((0 : Int) < many)) ∧ (let taken6 : Int := (j5.2.1 % many); ((True ∧ True ∧ (CDivW j5.2.1 many)) ∧ (let st7 : St4 := (j5.1, (j5.2.1 / many), j5.2.2.1, j5.2.2.2); True)))))))))
theorem sc__law_draw : FnScope ["state", "many", "taken"] ["state", "many"] (defScope (topS 44)) := ⟨rfl, rfl, rfl, by decide +kernel, rfl, by decide +kernel, by decide +kernel⟩
theorem b__law_draw {K : Y.Frag} {mg : Str → Option Value} {ad : Nat → Addr} {fd : Nat → FuncData} (T : Tx K mg ad fd) : Binds K (fd 44) ["state", "many"] [] := T.F44.binds (ps := ["state", "many"]) fun _ _ _ _ _ _ us hl => match us, hl with | [_, _], _ => rfl
theorem f__law_draw {P : Program} {w : World} {K : Y.Frag} {mg : Str → Option Value} {base : Heap} {ad : Nat → Addr} {fd : Nat → FuncData} (T : Tx K mg ad fd) : FnG P w K mg base 1 (ad 44) (fd 44) ["state", "many"] (spS K (ac cI an) cSt cI g__law_draw m__law_draw) :=
  fn_state T.F44 sc__law_draw 1 (fun _ => rfl) rfl (owS := []) (ow' := []) (ΓS := fun _ : Empty => []) (Γ' := fun _ : Empty => []) (cr := fun r : (Int) × St4 => cI r.1) (ci := fun r : (Int) × St4 => cSt r.2) (G := g__law_draw) (d := o__law_draw) (fun A0 p cdv A outer s H E hr hg => by
    have hu : (A.deeper (envOfC _ (defScope (topS 44)) s.heap.objs.size _ cdv)).units + 64 < cLine := Nat.lt_of_le_of_lt (Nat.add_le_add_left (by decide) _) (room_un hr)
    have key : Dss (XF P w K mg base ["state", "many", "taken"] "_law_draw" (topS 44) (ad 44) cdv A outer s H E) ⟨A0, [], some p⟩ [0] (fun a : E0__law_draw => some (.list (cSt a.2)) :: (((ac cI an) a.1).map some ++ List.replicate 1 none)) (fun r : (Int) × St4 => cI r.1) (fun r : (Int) × St4 => cSt r.2) [] (fun _ : Empty => []) (defBody (topS 44)) _ _ [] (fun _ : Empty => []) := (s_ifR (Dw.dt (w_andP (t_cmp op_eq v_eqI (De.up (fun _ => rfl) (d_prjL 1 (fun t : St4 => t.2.1) (c := fun t : St4 => .list (cSt t)) (cb := cI) (fun _ => ⟨_, rfl, rfl⟩) (d_own 0 (fun q : E0__law_draw => q.2) (fun t : St4 => .list (cSt t)) (fun _ => rfl)) d_int)) d_int (nomark _)) (w_and1 (t_cmp op_ge v_ge (De.up (fun _ => rfl) (d_prjL 2 (fun t : St4 => t.2.2.1) (c := fun t : St4 => .list (cSt t)) (cb := cI) (fun _ => ⟨_, rfl, rfl⟩) (d_own 0 (fun q : E0__law_draw => q.2) (fun t : St4 => .list (cSt t)) (fun _ => rfl)) d_int)) (De.up (fun _ => rfl) (d_blt call_len_seq (v_len sq_L) T.z_len (by decide +kernel) (a_cons (d_prjL 0 (fun t : St4 => t.1) (c := fun t : St4 => .list (cSt t)) (cb := (cL cI)) (fun _ => ⟨_, rfl, rfl⟩) (d_own 0 (fun q : E0__law_draw => q.2) (fun t : St4 => .list (cSt t)) (fun _ => rfl)) d_int) a_nil))) (nomark _))))) (s_cons (s_setF (cs := cSt) (c := cI) 0 3 (fun q : E0__law_draw => q.2) (fun t a => (t.1, t.2.1, t.2.2.1, a)) (fun _ _ => rfl) (fun _ => by show _ < 4; decide) (fun _ => rfl) (d_op op_mod v_mod (d_ty call_int1 v_int T.z_int (by decide +kernel) (a_cons (d_op op_add v_add (d_op op_mul v_mul (De.up (fun _ => rfl) (d_prjL 3 (fun t : St4 => t.2.2.2) (c := fun t : St4 => .list (cSt t)) (cb := cI) (fun _ => ⟨_, rfl, rfl⟩) (d_own 0 (fun q : E0__law_draw => q.2) (fun t : St4 => .list (cSt t)) (fun _ => rfl)) d_int)) d_int) d_int) a_nil)) d_int)) (s_one (s_retS (r := fun v (q : E1__law_draw) => (v, q.2)) (fun _ _ => rfl) (fun _ _ => rfl) (d_op op_mod v_mod (d_ty call_int1 v_int T.z_int (by decide +kernel) (a_cons (d_op op_fdivW v_fdiv (De.up (fun _ => rfl) (d_prjL 3 (fun t : St4 => t.2.2.2) (c := fun t : St4 => .list (cSt t)) (cb := cI) (fun _ => ⟨_, rfl, rfl⟩) (d_own 0 (fun q : E1__law_draw => q.2) (fun t : St4 => .list (cSt t)) (fun _ => rfl)) d_int)) d_int) a_nil)) (d_var 1 (fun q : E1__law_draw => q.1.1.1) cI (fun _ => rfl)))))) (by intro ε n; (repeat' (first | (intro h; nomatch h) | split))) (s_cons (s_ifJ (t_cmp op_eq v_eqI (De.up (fun _ => rfl) (d_prjL 1 (fun t : St4 => t.2.1) (c := fun t : St4 => .list (cSt t)) (cb := cI) (fun _ => ⟨_, rfl, rfl⟩) (d_own 0 (fun q : E0__law_draw => q.2) (fun t : St4 => .list (cSt t)) (fun _ => rfl)) d_int)) d_int (nomark _)) (s_cons (s_setF (cs := cSt) (c := cI) 0 1 (fun q : E0__law_draw => q.2) (fun t a => (t.1, a, t.2.2.1, t.2.2.2)) (fun _ _ => rfl) (fun _ => by show _ < 4; decide) (fun _ => rfl) (d_blt call_abs v_abs T.z_abs (by decide +kernel) (a_cons (De.up (fun _ => rfl) (d_ix ix_list v_ixL (d_prjL 0 (fun t : St4 => t.1) (c := fun t : St4 => .list (cSt t)) (cb := (cL cI)) (fun _ => ⟨_, rfl, rfl⟩) (d_own 0 (fun q : E0__law_draw => q.2) (fun t : St4 => .list (cSt t)) (fun _ => rfl)) d_int) (De.wk (De.up (fun _ => rfl) (d_prjL 2 (fun t : St4 => t.2.2.1) (c := fun t : St4 => .list (cSt t)) (cb := cI) (fun _ => ⟨_, rfl, rfl⟩) (d_own 0 (fun q : E0__law_draw => q.2) (fun t : St4 => .list (cSt t)) (fun _ => rfl)) d_int))))) a_nil))) (s_cons (s_setF (cs := cSt) (c := cI) 0 2 (fun q : E1__law_draw => q.2) (fun t a => (t.1, t.2.1, a, t.2.2.2)) (fun _ _ => rfl) (fun _ => by show _ < 4; decide) (fun _ => rfl) (d_op op_add v_add (De.up (fun _ => rfl) (d_prjL 2 (fun t : St4 => t.2.2.1) (c := fun t : St4 => .list (cSt t)) (cb := cI) (fun _ => ⟨_, rfl, rfl⟩) (d_own 0 (fun q : E1__law_draw => q.2) (fun t : St4 => .list (cSt t)) (fun _ => rfl)) d_int)) d_int)) (s_end (ow2 := [0]) (Γ2 := fun q : E1__law_draw => [some (.list (cSt q.2)), some (cI q.1.1.1), none]) (fun q : E2__law_draw => (q.1.1, q.2)) (fun _ _ _ _ r => r)))) (s_end (ow2 := [0]) (Γ2 := fun q : E1__law_draw => [some (.list (cSt q.2)), some (cI q.1.1.1), none]) (fun q : E0__law_draw => (q, q.2)) (fun _ _ _ _ r => r)) (fun _ => rfl) (fun _ => rfl)) (s_cons (s_asg 2 (d_op op_mod v_mod (d_ty call_int1 v_int T.z_int (by decide +kernel) (a_cons (De.up (fun _ => rfl) (d_prjL 1 (fun t : St4 => t.2.1) (c := fun t : St4 => .list (cSt t)) (cb := cI) (fun _ => ⟨_, rfl, rfl⟩) (d_own 0 (fun q : E1__law_draw => q.2) (fun t : St4 => .list (cSt t)) (fun _ => rfl)) d_int)) a_nil)) (d_var 1 (fun q : E1__law_draw => q.1.1.1) cI (fun _ => rfl))) (hN := sc__law_draw.nd)) (s_cons (s_setF (cs := cSt) (c := cI) 0 1 (fun q : E3__law_draw => q.1.2) (fun t a => (t.1, a, t.2.2.1, t.2.2.2)) (fun _ _ => rfl) (fun _ => by show _ < 4; decide) (fun _ => rfl) (d_op op_fdivW v_fdiv (De.up (fun _ => rfl) (d_prjL 1 (fun t : St4 => t.2.1) (c := fun t : St4 => .list (cSt t)) (cb := cI) (fun _ => ⟨_, rfl, rfl⟩) (d_own 0 (fun q : E3__law_draw => q.1.2) (fun t : St4 => .list (cSt t)) (fun _ => rfl)) d_int)) (d_var 1 (fun q : E3__law_draw => q.1.1.1.1) cI (fun _ => rfl)))) (s_one (s_retS (r := fun v (q : E4__law_draw) => (v, q.2)) (fun _ _ => rfl) (fun _ _ => rfl) (d_var 2 (fun q : E4__law_draw => q.1.2) cI (fun _ => rfl))))))))
    exact dss_eq key (by kernel_rfl) (by kernel_rfl)) (fun _ h => h) (fun a _ => ret_ex (o__law_draw a))
abbrev E0__law_pick_LI : Type := ((List Int) × Unit) × St4
def o__law_pick_LI (a : E0__law_pick_LI) : Out Empty ((Int) × St4) Empty :=
  (let some := a.1.1; (let r1 := m__law_draw ((((some).length : Int), ()), a.2); (Out.rt ((ixD some r1.1), r1.2))))
def m__law_pick_LI (a : E0__law_pick_LI) : (Int) × St4 := (o__law_pick_LI a).ret
def g__law_pick_LI (a : E0__law_pick_LI) : Prop :=
  (let some := a.1.1; (let r1 := m__law_draw ((((some).length : Int), ()), a.2); (True ∧ ((((True ∧ True) ∧ True) ∧ True) ∧ (g__law_draw ((((some).length : Int), ()), a.2))) ∧ (CIx some r1.1))))
theorem sc__law_pick : FnScope ["state", "some"] ["state", "some"] (defScope (topS 45)) := ⟨rfl, rfl, rfl, by decide +kernel, rfl, by decide +kernel, by decide +kernel⟩
theorem b__law_pick {K : Y.Frag} {mg : Str → Option Value} {ad : Nat → Addr} {fd : Nat → FuncData} (T : Tx K mg ad fd) : Binds K (fd 45) ["state", "some"] [] := T.F45.binds (ps := ["state", "some"]) fun _ _ _ _ _ _ us hl => match us, hl with | [_, _], _ => rfl
theorem f__law_pick_LI {P : Program} {w : World} {K : Y.Frag} {mg : Str → Option Value} {base : Heap} {ad : Nat → Addr} {fd : Nat → FuncData} (T : Tx K mg ad fd) : FnG P w K mg base 2 (ad 45) (fd 45) ["state", "some"] (spS K (ac (cL cI) an) cSt cI g__law_pick_LI m__law_pick_LI) :=
  fn_state T.F45 sc__law_pick 0 (fun _ => rfl) rfl (owS := []) (ow' := []) (ΓS := fun _ : Empty => []) (Γ' := fun _ : Empty => []) (cr := fun r : (Int) × St4 => cI r.1) (ci := fun r : (Int) × St4 => cSt r.2) (G := g__law_pick_LI) (d := o__law_pick_LI) (fun A0 p cdv A outer s H E hr hg => by
    have hu : (A.deeper (envOfC _ (defScope (topS 45)) s.heap.objs.size _ cdv)).units + 64 < cLine := Nat.lt_of_le_of_lt (Nat.add_le_add_left (by decide) _) (room_un hr)
    have key : Dss (XF P w K mg base ["state", "some"] "_law_pick" (topS 45) (ad 45) cdv A outer s H E) ⟨A0, [], some p⟩ [0] (fun a : E0__law_pick_LI => some (.list (cSt a.2)) :: (((ac (cL cI) an) a.1).map some ++ List.replicate 0 none)) (fun r : (Int) × St4 => cI r.1) (fun r : (Int) × St4 => cSt r.2) [] (fun _ : Empty => []) (defBody (topS 45)) _ _ [] (fun _ : Empty => []) := (s_one (s_retS (r := fun v (q : E0__law_pick_LI) => (v, q.2)) (fun _ _ => rfl) (fun _ _ => rfl) (d_ix ix_list v_ixL (d_var 1 (fun q : E0__law_pick_LI => q.1.1) (cL cI) (fun _ => rfl)) (d_callS 0 (fun q : E0__law_pick_LI => q.2) (fun (q : E0__law_pick_LI) t => (q.1, t)) (fun _ => rfl) (fun _ _ => rfl) ((f__law_draw T).mono (by decide)) hr hg T.M44 T.F44.kp (b__law_draw T) (a_cons (d_blt call_len_seq (v_len sq_L) T.z_len (by decide +kernel) (a_cons (d_var 1 (fun q : E0__law_pick_LI => q.1.1) (cL cI) (fun _ => rfl)) a_nil)) a_nil)))))
    exact dss_eq key (by kernel_rfl) (by kernel_rfl)) (fun _ h => h) (fun a _ => ret_ex (o__law_pick_LI a))
abbrev E0__law_pick_Q : Type := ((List (Int × Int)) × Unit) × St4
def o__law_pick_Q (a : E0__law_pick_Q) : Out Empty ((Int × Int) × St4) Empty :=
  (let some := a.1.1; (let r1 := m__law_draw ((((some).length : Int), ()), a.2); (Out.rt ((ixD some r1.1), r1.2))))
def m__law_pick_Q (a : E0__law_pick_Q) : (Int × Int) × St4 := (o__law_pick_Q a).ret
def g__law_pick_Q (a : E0__law_pick_Q) : Prop :=
  (let some := a.1.1; (let r1 := m__law_draw ((((some).length : Int), ()), a.2); (True ∧ ((((True ∧ True) ∧ True) ∧ True) ∧ (g__law_draw ((((some).length : Int), ()), a.2))) ∧ (CIx some r1.1))))
theorem f__law_pick_Q {P : Program} {w : World} {K : Y.Frag} {mg : Str → Option Value} {base : Heap} {ad : Nat → Addr} {fd : Nat → FuncData} (T : Tx K mg ad fd) : FnG P w K mg base 2 (ad 45) (fd 45) ["state", "some"] (spS K (ac (cL (c2 cI cI)) an) cSt (c2 cI cI) g__law_pick_Q m__law_pick_Q) :=
  fn_state T.F45 sc__law_pick 0 (fun _ => rfl) rfl (owS := []) (ow' := []) (ΓS := fun _ : Empty => []) (Γ' := fun _ : Empty => []) (cr := fun r : (Int × Int) × St4 => (c2 cI cI) r.1) (ci := fun r : (Int × Int) × St4 => cSt r.2) (G := g__law_pick_Q) (d := o__law_pick_Q) (fun A0 p cdv A outer s H E hr hg => by
    have hu : (A.deeper (envOfC _ (defScope (topS 45)) s.heap.objs.size _ cdv)).units + 64 < cLine := Nat.lt_of_le_of_lt (Nat.add_le_add_left (by decide) _) (room_un hr)
    have key : Dss (XF P w K mg base ["state", "some"] "_law_pick" (topS 45) (ad 45) cdv A outer s H E) ⟨A0, [], some p⟩ [0] (fun a : E0__law_pick_Q => some (.list (cSt a.2)) :: (((ac (cL (c2 cI cI)) an) a.1).map some ++ List.replicate 0 none)) (fun r : (Int × Int) × St4 => (c2 cI cI) r.1) (fun r : (Int × Int) × St4 => cSt r.2) [] (fun _ : Empty => []) (defBody (topS 45)) _ _ [] (fun _ : Empty => []) := (s_one (s_retS (r := fun v (q : E0__law_pick_Q) => (v, q.2)) (fun _ _ => rfl) (fun _ _ => rfl) (d_ix ix_list v_ixL (d_var 1 (fun q : E0__law_pick_Q => q.1.1) (cL (c2 cI cI)) (fun _ => rfl)) (d_callS 0 (fun q : E0__law_pick_Q => q.2) (fun (q : E0__law_pick_Q) t => (q.1, t)) (fun _ => rfl) (fun _ _ => rfl) ((f__law_draw T).mono (by decide)) hr hg T.M44 T.F44.kp (b__law_draw T) (a_cons (d_blt call_len_seq (v_len sq_L) T.z_len (by decide +kernel) (a_cons (d_var 1 (fun q : E0__law_pick_Q => q.1.1) (cL (c2 cI cI)) (fun _ => rfl)) a_nil)) a_nil)))))
    exact dss_eq key (by kernel_rfl) (by kernel_rfl)) (fun _ h => h) (fun a _ => ret_ex (o__law_pick_Q a))
abbrev E0__law_same_Q : Type := (Int × Int) × (Int × Int) × Unit
def o__law_same_Q (a : E0__law_same_Q) : Out Empty (Bool) Empty :=
  (let actual := a.1; let due := a.2.1; (Out.rt (((PyData.eqv ((c2 cI cI) actual) ((c2 cI cI) due)) && (decide (((c2 cI cI) actual).shown = ((c2 cI cI) due).shown))))))
def m__law_same_Q (a : E0__law_same_Q) : Bool := (o__law_same_Q a).ret
def g__law_same_Q (a : E0__law_same_Q) : Prop :=
  (let actual := a.1; let due := a.2.1; ((True ∧ True ∧ True) ∧ ((PyData.eqv ((c2 cI cI) actual) ((c2 cI cI) due)) = true → (((True ∧ True) ∧ (Shw ((c2 cI cI) actual))) ∧ ((True ∧ True) ∧ (Shw ((c2 cI cI) due))) ∧ True))))
theorem sc__law_same : FnScope ["actual", "due"] ["actual", "due"] (defScope (topS 46)) := ⟨rfl, rfl, rfl, by decide +kernel, rfl, by decide +kernel, by decide +kernel⟩
theorem b__law_same {K : Y.Frag} {mg : Str → Option Value} {ad : Nat → Addr} {fd : Nat → FuncData} (T : Tx K mg ad fd) : Binds K (fd 46) ["actual", "due"] [] := T.F46.binds (ps := ["actual", "due"]) fun _ _ _ _ _ _ us hl => match us, hl with | [_, _], _ => rfl
theorem f__law_same_Q {P : Program} {w : World} {K : Y.Frag} {mg : Str → Option Value} {base : Heap} {ad : Nat → Addr} {fd : Nat → FuncData} (T : Tx K mg ad fd) : FnG P w K mg base 1 (ad 46) (fd 46) ["actual", "due"] (spP K (ac (c2 cI cI) (ac (c2 cI cI) an)) cB g__law_same_Q m__law_same_Q) :=
  fn_pure T.F46 sc__law_same 0 (fun _ => rfl) rfl (owS := []) (ow' := []) (ΓS := fun _ : Empty => []) (Γ' := fun _ : Empty => []) (cr := cB) (ci := fun _ => []) (G := g__law_same_Q) (d := o__law_same_Q) (fun A0 cdv A outer s H E hr hg => by
    have hu : (A.deeper (envOfC _ (defScope (topS 46)) s.heap.objs.size _ cdv)).units + 64 < cLine := Nat.lt_of_le_of_lt (Nat.add_le_add_left (by decide) _) (room_un hr)
    have key : Dss (XF P w K mg base ["actual", "due"] "_law_same" (topS 46) (ad 46) cdv A outer s H E) ⟨A0, [], none⟩ [] (fun a : E0__law_same_Q => ((ac (c2 cI cI) (ac (c2 cI cI) an)) a).map some ++ List.replicate 0 none) cB (fun _ => []) [] (fun _ : Empty => []) (defBody (topS 46)) _ _ [] (fun _ : Empty => []) := (s_one (s_ret (r := fun v (_ : E0__law_same_Q) => v) (fun _ _ => rfl) rfl (d_and ((d_cmp (op_eqD hu) (v_eqD (cq_2 cq_I cq_I) (cq_2 cq_I cq_I)) (d_var 0 (fun q : E0__law_same_Q => q.1) (c2 cI cI) (fun _ => rfl)) (d_var 1 (fun q : E0__law_same_Q => q.2.1) (c2 cI cI) (fun _ => rfl)) (nomark _))) (d_one (d_cmp op_eq v_eqS (d_blt (cr_repr hg (room_un hr)) (v_repr (c := (c2 cI cI))) T.z_repr (by decide +kernel) (a_cons (d_var 0 (fun q : E0__law_same_Q => q.1) (c2 cI cI) (fun _ => rfl)) a_nil)) (d_blt (cr_repr hg (room_un hr)) (v_repr (c := (c2 cI cI))) T.z_repr (by decide +kernel) (a_cons (d_var 1 (fun q : E0__law_same_Q => q.2.1) (c2 cI cI) (fun _ => rfl)) a_nil)) (nomark _))))))
    exact dss_eq key (by kernel_rfl) (by kernel_rfl)) (fun _ h => h) (fun a _ => ends_ret (fun r => r) (fun _ => rfl) (o__law_same_Q a))
abbrev E0__law_same_LQ : Type := (List (Int × Int)) × (List (Int × Int)) × Unit
def o__law_same_LQ (a : E0__law_same_LQ) : Out Empty (Bool) Empty :=
  (let actual := a.1; let due := a.2.1; (Out.rt (((PyData.eqv ((cL (c2 cI cI)) actual) ((cL (c2 cI cI)) due)) && (decide (((cL (c2 cI cI)) actual).shown = ((cL (c2 cI cI)) due).shown))))))
def m__law_same_LQ (a : E0__law_same_LQ) : Bool := (o__law_same_LQ a).ret
def g__law_same_LQ (a : E0__law_same_LQ) : Prop :=
  (let actual := a.1; let due := a.2.1; ((True ∧ True ∧ True) ∧ ((PyData.eqv ((cL (c2 cI cI)) actual) ((cL (c2 cI cI)) due)) = true → (((True ∧ True) ∧ (Shw ((cL (c2 cI cI)) actual))) ∧ ((True ∧ True) ∧ (Shw ((cL (c2 cI cI)) due))) ∧ True))))
theorem f__law_same_LQ {P : Program} {w : World} {K : Y.Frag} {mg : Str → Option Value} {base : Heap} {ad : Nat → Addr} {fd : Nat → FuncData} (T : Tx K mg ad fd) : FnG P w K mg base 1 (ad 46) (fd 46) ["actual", "due"] (spP K (ac (cL (c2 cI cI)) (ac (cL (c2 cI cI)) an)) cB g__law_same_LQ m__law_same_LQ) :=
  fn_pure T.F46 sc__law_same 0 (fun _ => rfl) rfl (owS := []) (ow' := []) (ΓS := fun _ : Empty => []) (Γ' := fun _ : Empty => []) (cr := cB) (ci := fun _ => []) (G := g__law_same_LQ) (d := o__law_same_LQ) (fun A0 cdv A outer s H E hr hg => by
    have hu : (A.deeper (envOfC _ (defScope (topS 46)) s.heap.objs.size _ cdv)).units + 64 < cLine := Nat.lt_of_le_of_lt (Nat.add_le_add_left (by decide) _) (room_un hr)
    have key : Dss (XF P w K mg base ["actual", "due"] "_law_same" (topS 46) (ad 46) cdv A outer s H E) ⟨A0, [], none⟩ [] (fun a : E0__law_same_LQ => ((ac (cL (c2 cI cI)) (ac (cL (c2 cI cI)) an)) a).map some ++ List.replicate 0 none) cB (fun _ => []) [] (fun _ : Empty => []) (defBody (topS 46)) _ _ [] (fun _ : Empty => []) := (s_one (s_ret (r := fun v (_ : E0__law_same_LQ) => v) (fun _ _ => rfl) rfl (d_and ((d_cmp (op_eqD hu) (v_eqD (cq_L (cq_2 cq_I cq_I)) (cq_L (cq_2 cq_I cq_I))) (d_var 0 (fun q : E0__law_same_LQ => q.1) (cL (c2 cI cI)) (fun _ => rfl)) (d_var 1 (fun q : E0__law_same_LQ => q.2.1) (cL (c2 cI cI)) (fun _ => rfl)) (nomark _))) (d_one (d_cmp op_eq v_eqS (d_blt (cr_repr hg (room_un hr)) (v_repr (c := (cL (c2 cI cI)))) T.z_repr (by decide +kernel) (a_cons (d_var 0 (fun q : E0__law_same_LQ => q.1) (cL (c2 cI cI)) (fun _ => rfl)) a_nil)) (d_blt (cr_repr hg (room_un hr)) (v_repr (c := (cL (c2 cI cI)))) T.z_repr (by decide +kernel) (a_cons (d_var 1 (fun q : E0__law_same_LQ => q.2.1) (cL (c2 cI cI)) (fun _ => rfl)) a_nil)) (nomark _))))))
    exact dss_eq key (by kernel_rfl) (by kernel_rfl)) (fun _ h => h) (fun a _ => ends_ret (fun r => r) (fun _ => rfl) (o__law_same_LQ a))
abbrev E0__law_same_TQ : Type := (List (Int × Int)) × (List (Int × Int)) × Unit
def o__law_same_TQ (a : E0__law_same_TQ) : Out Empty (Bool) Empty :=
  (let actual := a.1; let due := a.2.1; (Out.rt (((PyData.eqv ((cT (c2 cI cI)) actual) ((cT (c2 cI cI)) due)) && (decide (((cT (c2 cI cI)) actual).shown = ((cT (c2 cI cI)) due).shown))))))
def m__law_same_TQ (a : E0__law_same_TQ) : Bool := (o__law_same_TQ a).ret
def g__law_same_TQ (a : E0__law_same_TQ) : Prop :=
  (let actual := a.1; let due := a.2.1; ((True ∧ True ∧ True) ∧ ((PyData.eqv ((cT (c2 cI cI)) actual) ((cT (c2 cI cI)) due)) = true → (((True ∧ True) ∧ (Shw ((cT (c2 cI cI)) actual))) ∧ ((True ∧ True) ∧ (Shw ((cT (c2 cI cI)) due))) ∧ True))))
theorem f__law_same_TQ {P : Program} {w : World} {K : Y.Frag} {mg : Str → Option Value} {base : Heap} {ad : Nat → Addr} {fd : Nat → FuncData} (T : Tx K mg ad fd) : FnG P w K mg base 1 (ad 46) (fd 46) ["actual", "due"] (spP K (ac (cT (c2 cI cI)) (ac (cT (c2 cI cI)) an)) cB g__law_same_TQ m__law_same_TQ) :=
  fn_pure T.F46 sc__law_same 0 (fun _ => rfl) rfl (owS := []) (ow' := []) (ΓS := fun _ : Empty => []) (Γ' := fun _ : Empty => []) (cr := cB) (ci := fun _ => []) (G := g__law_same_TQ) (d := o__law_same_TQ) (fun A0 cdv A outer s H E hr hg => by
    have hu : (A.deeper (envOfC _ (defScope (topS 46)) s.heap.objs.size _ cdv)).units + 64 < cLine := Nat.lt_of_le_of_lt (Nat.add_le_add_left (by decide) _) (room_un hr)
    have key : Dss (XF P w K mg base ["actual", "due"] "_law_same" (topS 46) (ad 46) cdv A outer s H E) ⟨A0, [], none⟩ [] (fun a : E0__law_same_TQ => ((ac (cT (c2 cI cI)) (ac (cT (c2 cI cI)) an)) a).map some ++ List.replicate 0 none) cB (fun _ => []) [] (fun _ : Empty => []) (defBody (topS 46)) _ _ [] (fun _ : Empty => []) := (s_one (s_ret (r := fun v (_ : E0__law_same_TQ) => v) (fun _ _ => rfl) rfl (d_and ((d_cmp (op_eqD hu) (v_eqD (cq_T (cq_2 cq_I cq_I)) (cq_T (cq_2 cq_I cq_I))) (d_var 0 (fun q : E0__law_same_TQ => q.1) (cT (c2 cI cI)) (fun _ => rfl)) (d_var 1 (fun q : E0__law_same_TQ => q.2.1) (cT (c2 cI cI)) (fun _ => rfl)) (nomark _))) (d_one (d_cmp op_eq v_eqS (d_blt (cr_repr hg (room_un hr)) (v_repr (c := (cT (c2 cI cI)))) T.z_repr (by decide +kernel) (a_cons (d_var 0 (fun q : E0__law_same_TQ => q.1) (cT (c2 cI cI)) (fun _ => rfl)) a_nil)) (d_blt (cr_repr hg (room_un hr)) (v_repr (c := (cT (c2 cI cI)))) T.z_repr (by decide +kernel) (a_cons (d_var 1 (fun q : E0__law_same_TQ => q.2.1) (cT (c2 cI cI)) (fun _ => rfl)) a_nil)) (nomark _))))))
    exact dss_eq key (by kernel_rfl) (by kernel_rfl)) (fun _ h => h) (fun a _ => ends_ret (fun r => r) (fun _ => rfl) (o__law_same_TQ a))
abbrev E0__law_same_TI : Type := (List Int) × (List Int) × Unit
def o__law_same_TI (a : E0__law_same_TI) : Out Empty (Bool) Empty :=
  (let actual := a.1; let due := a.2.1; (Out.rt (((PyData.eqv ((cT cI) actual) ((cT cI) due)) && (decide (((cT cI) actual).shown = ((cT cI) due).shown))))))
def m__law_same_TI (a : E0__law_same_TI) : Bool := (o__law_same_TI a).ret
def g__law_same_TI (a : E0__law_same_TI) : Prop :=
  (let actual := a.1; let due := a.2.1; ((True ∧ True ∧ True) ∧ ((PyData.eqv ((cT cI) actual) ((cT cI) due)) = true → (((True ∧ True) ∧ (Shw ((cT cI) actual))) ∧ ((True ∧ True) ∧ (Shw ((cT cI) due))) ∧ True))))
theorem f__law_same_TI {P : Program} {w : World} {K : Y.Frag} {mg : Str → Option Value} {base : Heap} {ad : Nat → Addr} {fd : Nat → FuncData} (T : Tx K mg ad fd) : FnG P w K mg base 1 (ad 46) (fd 46) ["actual", "due"] (spP K (ac (cT cI) (ac (cT cI) an)) cB g__law_same_TI m__law_same_TI) :=
  fn_pure T.F46 sc__law_same 0 (fun _ => rfl) rfl (owS := []) (ow' := []) (ΓS := fun _ : Empty => []) (Γ' := fun _ : Empty => []) (cr := cB) (ci := fun _ => []) (G := g__law_same_TI) (d := o__law_same_TI) (fun A0 cdv A outer s H E hr hg => by
    have hu : (A.deeper (envOfC _ (defScope (topS 46)) s.heap.objs.size _ cdv)).units + 64 < cLine := Nat.lt_of_le_of_lt (Nat.add_le_add_left (by decide) _) (room_un hr)
    have key : Dss (XF P w K mg base ["actual", "due"] "_law_same" (topS 46) (ad 46) cdv A outer s H E) ⟨A0, [], none⟩ [] (fun a : E0__law_same_TI => ((ac (cT cI) (ac (cT cI) an)) a).map some ++ List.replicate 0 none) cB (fun _ => []) [] (fun _ : Empty => []) (defBody (topS 46)) _ _ [] (fun _ : Empty => []) := (s_one (s_ret (r := fun v (_ : E0__law_same_TI) => v) (fun _ _ => rfl) rfl (d_and ((d_cmp (op_eqD hu) (v_eqD (cq_T cq_I) (cq_T cq_I)) (d_var 0 (fun q : E0__law_same_TI => q.1) (cT cI) (fun _ => rfl)) (d_var 1 (fun q : E0__law_same_TI => q.2.1) (cT cI) (fun _ => rfl)) (nomark _))) (d_one (d_cmp op_eq v_eqS (d_blt (cr_repr hg (room_un hr)) (v_repr (c := (cT cI))) T.z_repr (by decide +kernel) (a_cons (d_var 0 (fun q : E0__law_same_TI => q.1) (cT cI) (fun _ => rfl)) a_nil)) (d_blt (cr_repr hg (room_un hr)) (v_repr (c := (cT cI))) T.z_repr (by decide +kernel) (a_cons (d_var 1 (fun q : E0__law_same_TI => q.2.1) (cT cI) (fun _ => rfl)) a_nil)) (nomark _))))))
    exact dss_eq key (by kernel_rfl) (by kernel_rfl)) (fun _ h => h) (fun a _ => ends_ret (fun r => r) (fun _ => rfl) (o__law_same_TI a))
abbrev E0__law_same_X : Type := (List PyData) × (List PyData) × Unit
def o__law_same_X (a : E0__law_same_X) : Out Empty (Bool) Empty :=
  (let actual := a.1; let due := a.2.1; (Out.rt (((PyData.eqv ((cL cD) actual) ((cL cD) due)) && (decide (((cL cD) actual).shown = ((cL cD) due).shown))))))
def m__law_same_X (a : E0__law_same_X) : Bool := (o__law_same_X a).ret
def g__law_same_X (a : E0__law_same_X) : Prop :=
  (let actual := a.1; let due := a.2.1; ((True ∧ True ∧ (SeqAt.shaped ((cL cD) actual) = true ∧ SeqAt.shaped ((cL cD) due) = true)) ∧ ((PyData.eqv ((cL cD) actual) ((cL cD) due)) = true → (((True ∧ True) ∧ (Shw ((cL cD) actual))) ∧ ((True ∧ True) ∧ (Shw ((cL cD) due))) ∧ True))))
theorem f__law_same_X {P : Program} {w : World} {K : Y.Frag} {mg : Str → Option Value} {base : Heap} {ad : Nat → Addr} {fd : Nat → FuncData} (T : Tx K mg ad fd) : FnG P w K mg base 1 (ad 46) (fd 46) ["actual", "due"] (spP K (ac (cL cD) (ac (cL cD) an)) cB g__law_same_X m__law_same_X) :=
  fn_pure T.F46 sc__law_same 0 (fun _ => rfl) rfl (owS := []) (ow' := []) (ΓS := fun _ : Empty => []) (Γ' := fun _ : Empty => []) (cr := cB) (ci := fun _ => []) (G := g__law_same_X) (d := o__law_same_X) (fun A0 cdv A outer s H E hr hg => by
    have hu : (A.deeper (envOfC _ (defScope (topS 46)) s.heap.objs.size _ cdv)).units + 64 < cLine := Nat.lt_of_le_of_lt (Nat.add_le_add_left (by decide) _) (room_un hr)
    have key : Dss (XF P w K mg base ["actual", "due"] "_law_same" (topS 46) (ad 46) cdv A outer s H E) ⟨A0, [], none⟩ [] (fun a : E0__law_same_X => ((ac (cL cD) (ac (cL cD) an)) a).map some ++ List.replicate 0 none) cB (fun _ => []) [] (fun _ : Empty => []) (defBody (topS 46)) _ _ [] (fun _ : Empty => []) := (s_one (s_ret (r := fun v (_ : E0__law_same_X) => v) (fun _ _ => rfl) rfl (d_and ((d_cmp (op_eqD hu) v_eqG (d_var 0 (fun q : E0__law_same_X => q.1) (cL cD) (fun _ => rfl)) (d_var 1 (fun q : E0__law_same_X => q.2.1) (cL cD) (fun _ => rfl)) (nomark _))) (d_one (d_cmp op_eq v_eqS (d_blt (cr_repr hg (room_un hr)) (v_repr (c := (cL cD))) T.z_repr (by decide +kernel) (a_cons (d_var 0 (fun q : E0__law_same_X => q.1) (cL cD) (fun _ => rfl)) a_nil)) (d_blt (cr_repr hg (room_un hr)) (v_repr (c := (cL cD))) T.z_repr (by decide +kernel) (a_cons (d_var 1 (fun q : E0__law_same_X => q.2.1) (cL cD) (fun _ => rfl)) a_nil)) (nomark _))))))
    exact dss_eq key (by kernel_rfl) (by kernel_rfl)) (fun _ h => h) (fun a _ => ends_ret (fun r => r) (fun _ => rfl) (o__law_same_X a))
abbrev E0__law_low : Type := Int × Int × Unit
abbrev E1__law_low : Type := E0__law_low × Int
abbrev E2__law_low : Type := E1__law_low × Int
abbrev E3__law_low : Type := Int × Int
abbrev E4__law_low : Type := E3__law_low × Int
abbrev E5__law_low : Type := E4__law_low × Int
abbrev E6__law_low : Type := E2__law_low × E3__law_low
def k1__law_low (q4 : E3__law_low) : Out E3__law_low (Int × Int) E3__law_low :=
  (let one5 : Int := q4.2; let other6 : Int := (q4.1 % q4.2); (Out.nx ((one5, other6))))
def kg1__law_low (q4 : E3__law_low) : Prop :=
  ((True ∧ ((((True ∧ True) ∧ True) ∧ True ∧ ((0 : Int) < q4.2)) ∧ True)) ∧ (let one5 : Int := q4.2; let other6 : Int := (q4.1 % q4.2); True))
def kt1__law_low (q4 : E3__law_low) : Bool :=
  (!decide (q4.2 = (0 : Int)))
def ktg1__law_low (q4 : E3__law_low) : Prop :=
  (True ∧ True ∧ True)
def o__law_low (a : E0__law_low) : Out Empty (Int × Int) Empty :=
  (let up := a.1; let down := a.2.1; (let one1 : Int := (((up).natAbs : Nat) : Int); let other2 : Int := down; ((whO kt1__law_low k1__law_low (((Int.toNat other2) + 1)) (one1, other2)).bind (fun l7 : E3__law_low => (Out.rt (((up / l7.1), (down / l7.1))))))))
def m__law_low (a : E0__law_low) : Int × Int := (o__law_low a).ret
def g__law_low (a : E0__law_low) : Prop :=
  (let up := a.1; let down := a.2.1; ((((True ∧ True) ∧ True) ∧ (True ∧ True)) ∧ (let one1 : Int := (((up).natAbs : Nat) : Int); let other2 : Int := down; ((whG ktg1__law_low kt1__law_low kg1__law_low k1__law_low (((Int.toNat other2) + 1)) (one1, other2)) ∧ (∀ l7 : E3__law_low, (whO kt1__law_low k1__law_low (((Int.toNat other2) + 1)) (one1, other2)) = Out.nx (S := Empty) l7 → ((True ∧ True ∧ (CDivW up l7.1)) ∧ ((True ∧ True ∧ (CDivW down l7.1)) ∧ True)))))))
theorem sc__law_low : FnScope ["up", "down", "one", "other"] ["up", "down"] (defScope (topS 47)) := ⟨rfl, rfl, rfl, by decide +kernel, rfl, by decide +kernel, by decide +kernel⟩
theorem b__law_low {K : Y.Frag} {mg : Str → Option Value} {ad : Nat → Addr} {fd : Nat → FuncData} (T : Tx K mg ad fd) : Binds K (fd 47) ["up", "down"] [] := T.F47.binds (ps := ["up", "down"]) fun _ _ _ _ _ _ us hl => match us, hl with | [_, _], _ => rfl
theorem f__law_low {P : Program} {w : World} {K : Y.Frag} {mg : Str → Option Value} {base : Heap} {ad : Nat → Addr} {fd : Nat → FuncData} (T : Tx K mg ad fd) : FnG P w K mg base 1 (ad 47) (fd 47) ["up", "down"] (spP K (ac cI (ac cI an)) (c2 cI cI) g__law_low m__law_low) :=
  fn_pure T.F47 sc__law_low 2 (fun _ => rfl) rfl (owS := []) (ow' := []) (ΓS := fun _ : Empty => []) (Γ' := fun _ : Empty => []) (cr := (c2 cI cI)) (ci := fun _ => []) (G := g__law_low) (d := o__law_low) (fun A0 cdv A outer s H E hr hg => by
    have hu : (A.deeper (envOfC _ (defScope (topS 47)) s.heap.objs.size _ cdv)).units + 64 < cLine := Nat.lt_of_le_of_lt (Nat.add_le_add_left (by decide) _) (room_un hr)
    have key : Dss (XF P w K mg base ["up", "down", "one", "other"] "_law_low" (topS 47) (ad 47) cdv A outer s H E) ⟨A0, [], none⟩ [] (fun a : E0__law_low => ((ac cI (ac cI an)) a).map some ++ List.replicate 2 none) (c2 cI cI) (fun _ => []) [] (fun _ : Empty => []) (defBody (topS 47)) _ _ [] (fun _ : Empty => []) := (s_cons (s_par 2 3 (ca := cI) (cb := cI) (ga := fun x : Int × Int × Unit => x.1) (gb := fun x : Int × Int × Unit => x.2.1) (a_cons (d_blt call_abs v_abs T.z_abs (by decide +kernel) (a_cons (d_var 0 (fun q : E0__law_low => q.1) cI (fun _ => rfl)) a_nil)) (a_cons (d_var 1 (fun q : E0__law_low => q.2.1) cI (fun _ => rfl)) a_nil)) (fun _ => rfl) rfl (hN := sc__law_low.nd)) (s_consK (s_whileP (ΓL := (fun (e3 : E2__law_low) (m : E3__law_low) => [some (cI e3.1.1.1), some (cI e3.1.1.2.1), some (cI m.1), some (cI m.2)])) (fun q : E2__law_low => (q.1.2, q.2)) (fun (e3 : E2__law_low) (m : E3__law_low) => ((Int.toNat m.2) + 1)) (fun _ _ _ _ r => r) (fun e3 : E2__law_low => (t_cmp op_ne v_neI (d_var 3 (fun q : E3__law_low => q.2) cI (fun _ => rfl)) d_int (nomark _))) (fun e3 : E2__law_low => (s_cons (s_par 2 3 (ca := cI) (cb := cI) (ga := fun x : Int × Int × Unit => x.1) (gb := fun x : Int × Int × Unit => x.2.1) (a_cons (d_var 3 (fun q : E3__law_low => q.2) cI (fun _ => rfl)) (a_cons (d_op op_mod v_mod (d_ty call_int1 v_int T.z_int (by decide +kernel) (a_cons (d_var 2 (fun q : E3__law_low => q.1) cI (fun _ => rfl)) a_nil)) (d_var 3 (fun q : E3__law_low => q.2) cI (fun _ => rfl))) a_nil)) (fun _ => rfl) rfl (hN := sc__law_low.nd)) (s_end (ow2 := []) (Γ2 := (fun m : E3__law_low => [some (cI e3.1.1.1), some (cI e3.1.1.2.1), some (cI m.1), some (cI m.2)])) (fun q : E5__law_low => (q.1.2, q.2)) (fun _ _ _ _ r => r)))) PassesOwn.never) (s_one (s_ret (r := fun v (_ : E6__law_low) => v) (fun _ _ => rfl) rfl (d_tp2 (a_cons (d_op op_fdivW v_fdiv (d_var 0 (fun q : E6__law_low => q.1.1.1.1) cI (fun _ => rfl)) (d_var 2 (fun q : E6__law_low => q.2.1) cI (fun _ => rfl))) (a_cons (d_op op_fdivW v_fdiv (d_var 1 (fun q : E6__law_low => q.1.1.1.2.1) cI (fun _ => rfl)) (d_var 2 (fun q : E6__law_low => q.2.1) cI (fun _ => rfl))) a_nil)))))))
    exact dss_eq key (by kernel_rfl) (by kernel_rfl)) (fun _ h => h) (fun a _ => ends_ret (fun r => r) (fun _ => rfl) (o__law_low a))
abbrev E0__law_plus : Type := (Int × Int) × (Int × Int) × Unit
def o__law_plus (a : E0__law_plus) : Out Empty (Int × Int) Empty :=
  (let one := a.1; let other := a.2.1; (Out.rt ((m__law_low (((one.1 * other.2) + (other.1 * one.2)), (one.2 * other.2), ())))))
def m__law_plus (a : E0__law_plus) : Int × Int := (o__law_plus a).ret
def g__law_plus (a : E0__law_plus) : Prop :=
  (let one := a.1; let other := a.2.1; ((((True ∧ True ∧ (CMulW one.1 other.2)) ∧ (True ∧ True ∧ (CMulW other.1 one.2)) ∧ True) ∧ ((True ∧ True ∧ (CMulW one.2 other.2)) ∧ True)) ∧ (g__law_low (((one.1 * other.2) + (other.1 * one.2)), (one.2 * other.2), ()))))
theorem sc__law_plus : FnScope ["one", "other"] ["one", "other"] (defScope (topS 48)) := ⟨rfl, rfl, rfl, by decide +kernel, rfl, by decide +kernel, by decide +kernel⟩
theorem b__law_plus {K : Y.Frag} {mg : Str → Option Value} {ad : Nat → Addr} {fd : Nat → FuncData} (T : Tx K mg ad fd) : Binds K (fd 48) ["one", "other"] [] := T.F48.binds (ps := ["one", "other"]) fun _ _ _ _ _ _ us hl => match us, hl with | [_, _], _ => rfl
theorem f__law_plus {P : Program} {w : World} {K : Y.Frag} {mg : Str → Option Value} {base : Heap} {ad : Nat → Addr} {fd : Nat → FuncData} (T : Tx K mg ad fd) : FnG P w K mg base 2 (ad 48) (fd 48) ["one", "other"] (spP K (ac (c2 cI cI) (ac (c2 cI cI) an)) (c2 cI cI) g__law_plus m__law_plus) :=
  fn_pure T.F48 sc__law_plus 0 (fun _ => rfl) rfl (owS := []) (ow' := []) (ΓS := fun _ : Empty => []) (Γ' := fun _ : Empty => []) (cr := (c2 cI cI)) (ci := fun _ => []) (G := g__law_plus) (d := o__law_plus) (fun A0 cdv A outer s H E hr hg => by
    have hu : (A.deeper (envOfC _ (defScope (topS 48)) s.heap.objs.size _ cdv)).units + 64 < cLine := Nat.lt_of_le_of_lt (Nat.add_le_add_left (by decide) _) (room_un hr)
    have key : Dss (XF P w K mg base ["one", "other"] "_law_plus" (topS 48) (ad 48) cdv A outer s H E) ⟨A0, [], none⟩ [] (fun a : E0__law_plus => ((ac (c2 cI cI) (ac (c2 cI cI) an)) a).map some ++ List.replicate 0 none) (c2 cI cI) (fun _ => []) [] (fun _ : Empty => []) (defBody (topS 48)) _ _ [] (fun _ : Empty => []) := (s_one (s_ret (r := fun v (_ : E0__law_plus) => v) (fun _ _ => rfl) rfl (d_call ((f__law_low T).mono (by decide)) hr hg T.M47 T.F47.kp (b__law_low T) (a_cons (d_op op_add v_add (d_op op_mulW v_mulW (d_prj 0 (fun x : Int × Int => x.1) (cb := cI) (fun _ => ⟨_, rfl, rfl⟩) (d_var 0 (fun q : E0__law_plus => q.1) (c2 cI cI) (fun _ => rfl)) d_int) (d_prj 1 (fun x : Int × Int => x.2) (cb := cI) (fun _ => ⟨_, rfl, rfl⟩) (d_var 1 (fun q : E0__law_plus => q.2.1) (c2 cI cI) (fun _ => rfl)) d_int)) (d_op op_mulW v_mulW (d_prj 0 (fun x : Int × Int => x.1) (cb := cI) (fun _ => ⟨_, rfl, rfl⟩) (d_var 1 (fun q : E0__law_plus => q.2.1) (c2 cI cI) (fun _ => rfl)) d_int) (d_prj 1 (fun x : Int × Int => x.2) (cb := cI) (fun _ => ⟨_, rfl, rfl⟩) (d_var 0 (fun q : E0__law_plus => q.1) (c2 cI cI) (fun _ => rfl)) d_int))) (a_cons (d_op op_mulW v_mulW (d_prj 1 (fun x : Int × Int => x.2) (cb := cI) (fun _ => ⟨_, rfl, rfl⟩) (d_var 0 (fun q : E0__law_plus => q.1) (c2 cI cI) (fun _ => rfl)) d_int) (d_prj 1 (fun x : Int × Int => x.2) (cb := cI) (fun _ => ⟨_, rfl, rfl⟩) (d_var 1 (fun q : E0__law_plus => q.2.1) (c2 cI cI) (fun _ => rfl)) d_int)) a_nil)))))
    exact dss_eq key (by kernel_rfl) (by kernel_rfl)) (fun _ h => h) (fun a _ => ends_ret (fun r => r) (fun _ => rfl) (o__law_plus a))
abbrev E0__law_mul : Type := (Int × Int) × (Int × Int) × Unit
def o__law_mul (a : E0__law_mul) : Out Empty (Int × Int) Empty :=
  (let one := a.1; let other := a.2.1; (Out.rt ((m__law_low ((one.1 * other.1), (one.2 * other.2), ())))))
def m__law_mul (a : E0__law_mul) : Int × Int := (o__law_mul a).ret
def g__law_mul (a : E0__law_mul) : Prop :=
  (let one := a.1; let other := a.2.1; (((True ∧ True ∧ (CMulW one.1 other.1)) ∧ ((True ∧ True ∧ (CMulW one.2 other.2)) ∧ True)) ∧ (g__law_low ((one.1 * other.1), (one.2 * other.2), ()))))
theorem sc__law_mul : FnScope ["one", "other"] ["one", "other"] (defScope (topS 49)) := ⟨rfl, rfl, rfl, by decide +kernel, rfl, by decide +kernel, by decide +kernel⟩
theorem b__law_mul {K : Y.Frag} {mg : Str → Option Value} {ad : Nat → Addr} {fd : Nat → FuncData} (T : Tx K mg ad fd) : Binds K (fd 49) ["one", "other"] [] := T.F49.binds (ps := ["one", "other"]) fun _ _ _ _ _ _ us hl => match us, hl with | [_, _], _ => rfl
theorem f__law_mul {P : Program} {w : World} {K : Y.Frag} {mg : Str → Option Value} {base : Heap} {ad : Nat → Addr} {fd : Nat → FuncData} (T : Tx K mg ad fd) : FnG P w K mg base 2 (ad 49) (fd 49) ["one", "other"] (spP K (ac (c2 cI cI) (ac (c2 cI cI) an)) (c2 cI cI) g__law_mul m__law_mul) :=
  fn_pure T.F49 sc__law_mul 0 (fun _ => rfl) rfl (owS := []) (ow' := []) (ΓS := fun _ : Empty => []) (Γ' := fun _ : Empty => []) (cr := (c2 cI cI)) (ci := fun _ => []) (G := g__law_mul) (d := o__law_mul) (fun A0 cdv A outer s H E hr hg => by
    have hu : (A.deeper (envOfC _ (defScope (topS 49)) s.heap.objs.size _ cdv)).units + 64 < cLine := Nat.lt_of_le_of_lt (Nat.add_le_add_left (by decide) _) (room_un hr)
    have key : Dss (XF P w K mg base ["one", "other"] "_law_mul" (topS 49) (ad 49) cdv A outer s H E) ⟨A0, [], none⟩ [] (fun a : E0__law_mul => ((ac (c2 cI cI) (ac (c2 cI cI) an)) a).map some ++ List.replicate 0 none) (c2 cI cI) (fun _ => []) [] (fun _ : Empty => []) (defBody (topS 49)) _ _ [] (fun _ : Empty => []) := (s_one (s_ret (r := fun v (_ : E0__law_mul) => v) (fun _ _ => rfl) rfl (d_call ((f__law_low T).mono (by decide)) hr hg T.M47 T.F47.kp (b__law_low T) (a_cons (d_op op_mulW v_mulW (d_prj 0 (fun x : Int × Int => x.1) (cb := cI) (fun _ => ⟨_, rfl, rfl⟩) (d_var 0 (fun q : E0__law_mul => q.1) (c2 cI cI) (fun _ => rfl)) d_int) (d_prj 0 (fun x : Int × Int => x.1) (cb := cI) (fun _ => ⟨_, rfl, rfl⟩) (d_var 1 (fun q : E0__law_mul => q.2.1) (c2 cI cI) (fun _ => rfl)) d_int)) (a_cons (d_op op_mulW v_mulW (d_prj 1 (fun x : Int × Int => x.2) (cb := cI) (fun _ => ⟨_, rfl, rfl⟩) (d_var 0 (fun q : E0__law_mul => q.1) (c2 cI cI) (fun _ => rfl)) d_int) (d_prj 1 (fun x : Int × Int => x.2) (cb := cI) (fun _ => ⟨_, rfl, rfl⟩) (d_var 1 (fun q : E0__law_mul => q.2.1) (c2 cI cI) (fun _ => rfl)) d_int)) a_nil)))))
    exact dss_eq key (by kernel_rfl) (by kernel_rfl)) (fun _ h => h) (fun a _ => ends_ret (fun r => r) (fun _ => rfl) (o__law_mul a))
abbrev E0__law_power : Type := (Int × Int) × Int × Unit
abbrev E1__law_power : Type := E0__law_power × (Int × Int)
abbrev E2__law_power : Type := Int × Int
abbrev E3__law_power : Type := E2__law_power × Int
abbrev E4__law_power : Type := E3__law_power × (Int × Int)
abbrev E5__law_power : Type := E1__law_power × E2__law_power
def k1__law_power (rate : Int × Int) (q3 : E3__law_power) : E2__law_power :=
  (let found4 : Int × Int := (m__law_mul (q3.1, rate, ())); found4)
def kg1__law_power (rate : Int × Int) (q3 : E3__law_power) : Prop :=
  (((True ∧ (True ∧ True)) ∧ (g__law_mul (q3.1, rate, ()))) ∧ (let found4 : Int × Int := (m__law_mul (q3.1, rate, ())); True))
def o__law_power (a : E0__law_power) : Out Empty (Int × Int) Empty :=
  (let rate := a.1; let many := a.2.1; (let found1 : Int × Int := ((1 : Int), (1 : Int)); (let l5 : E2__law_power := (((rng 0 many)).foldl (fun m x => (k1__law_power rate) (m, x)) found1); (Out.rt l5))))
def m__law_power (a : E0__law_power) : Int × Int := (o__law_power a).ret
def g__law_power (a : E0__law_power) : Prop :=
  (let rate := a.1; let many := a.2.1; ((True ∧ (True ∧ True)) ∧ (let found1 : Int × Int := ((1 : Int), (1 : Int)); ((((True ∧ True) ∧ (CRg 0 many)) ∧ (forN (kg1__law_power rate) (k1__law_power rate) found1 (rng 0 many))) ∧ (let l5 : E2__law_power := (((rng 0 many)).foldl (fun m x => (k1__law_power rate) (m, x)) found1); True)))))
theorem sc__law_power : FnScope ["rate", "many", "found", "k"] ["rate", "many"] (defScope (topS 50)) := ⟨rfl, rfl, rfl, by decide +kernel, rfl, by decide +kernel, by decide +kernel⟩
theorem b__law_power {K : Y.Frag} {mg : Str → Option Value} {ad : Nat → Addr} {fd : Nat → FuncData} (T : Tx K mg ad fd) : Binds K (fd 50) ["rate", "many"] [] := T.F50.binds (ps := ["rate", "many"]) fun _ _ _ _ _ _ us hl => match us, hl with | [_, _], _ => rfl
theorem f__law_power {P : Program} {w : World} {K : Y.Frag} {mg : Str → Option Value} {base : Heap} {ad : Nat → Addr} {fd : Nat → FuncData} (T : Tx K mg ad fd) : FnG P w K mg base 3 (ad 50) (fd 50) ["rate", "many"] (spP K (ac (c2 cI cI) (ac cI an)) (c2 cI cI) g__law_power m__law_power) :=
  fn_pure T.F50 sc__law_power 2 (fun _ => rfl) rfl (owS := []) (ow' := []) (ΓS := fun _ : Empty => []) (Γ' := fun _ : Empty => []) (cr := (c2 cI cI)) (ci := fun _ => []) (G := g__law_power) (d := o__law_power) (fun A0 cdv A outer s H E hr hg => by
    have hu : (A.deeper (envOfC _ (defScope (topS 50)) s.heap.objs.size _ cdv)).units + 64 < cLine := Nat.lt_of_le_of_lt (Nat.add_le_add_left (by decide) _) (room_un hr)
    have key : Dss (XF P w K mg base ["rate", "many", "found", "k"] "_law_power" (topS 50) (ad 50) cdv A outer s H E) ⟨A0, [], none⟩ [] (fun a : E0__law_power => ((ac (c2 cI cI) (ac cI an)) a).map some ++ List.replicate 2 none) (c2 cI cI) (fun _ => []) [] (fun _ : Empty => []) (defBody (topS 50)) _ _ [] (fun _ : Empty => []) := (s_cons (s_asg 2 (d_tp2 (a_cons d_int (a_cons d_int a_nil))) (hN := sc__law_power.nd)) (s_cons (s_forN (ΓL := (fun (e2 : E1__law_power) (m : E2__law_power) => [some ((c2 cI cI) e2.1.1), some (cI e2.1.2.1), some ((c2 cI cI) m), none])) (fun q : E1__law_power => q.2) (i_rng1 (a_cons (d_var 1 (fun q : E1__law_power => q.1.2.1) cI (fun _ => rfl)) a_nil) T.z_range) (fun _ _ _ _ r => r) (pg_name (i := 3) sc__law_power.nd rfl (by first | exact .inl rfl | exact .inr rfl)) (tg_name 3) (fun e2 : E1__law_power => (s_cons (s_asg 2 (d_call ((f__law_mul T).mono (by decide)) hr hg T.M49 T.F49.kp (b__law_mul T) (a_cons (d_var 2 (fun q : E3__law_power => q.1) (c2 cI cI) (fun _ => rfl)) (a_cons (d_var 0 (fun q : E3__law_power => e2.1.1) (c2 cI cI) (fun _ => rfl)) a_nil))) (hN := sc__law_power.nd)) (s_end (ow2 := []) (Γ2 := (fun m : E2__law_power => [some ((c2 cI cI) e2.1.1), some (cI e2.1.2.1), some ((c2 cI cI) m), none])) (fun q : E4__law_power => q.2) (fun _ _ _ _ r => r.wk (.k (.k (.k (.f .nil)))))))) (fun _ _ => rfl) PassesOwn.never) (s_one (s_ret (r := fun v (_ : E5__law_power) => v) (fun _ _ => rfl) rfl (d_var 2 (fun q : E5__law_power => q.2) (c2 cI cI) (fun _ => rfl))))))
    exact dss_eq key (by kernel_rfl) (by kernel_rfl)) (fun _ h => h) (fun a _ => ends_ret (fun r => r) (fun _ => rfl) (o__law_power a))
abbrev E0__law_case : Type := (Unit) × St4
abbrev E1__law_case : Type := E0__law_case × (Int × Int)
abbrev E2__law_case : Type := E1__law_case × (Int × Int × Int)
abbrev E3__law_case : Type := E2__law_case × Int
def c1__law_case (s11 : St4) (x9 : Int) : Int × St4 :=
  (let r12 := m__law_draw (((60 : Int), ()), s11); (r12.1, r12.2))
def cg1__law_case (s11 : St4) (x9 : Int) : Prop :=
  (let r12 := m__law_draw (((60 : Int), ()), s11); ((True ∧ True) ∧ (g__law_draw (((60 : Int), ()), s11))))
abbrev E4__law_case : Type := E2__law_case × (List Int)
abbrev E5__law_case : Type := E4__law_case × Int
def c2__law_case (some14 : List Int) (s22 : St4) (x16 : Int) : Int × St4 :=
  (let r23 := m__law_draw (((2 : Int), ()), s22); let i26 : Int := (if (decide (r23.1 = (0 : Int))) = true then (let r24 := m__law_pick_LI ((some14, ()), r23.2); r24.1) else (let r25 := m__law_draw (((60 : Int), ()), r23.2); r25.1)); let i27 : St4 := (if (decide (r23.1 = (0 : Int))) = true then (let r24 := m__law_pick_LI ((some14, ()), r23.2); r24.2) else (let r25 := m__law_draw (((60 : Int), ()), r23.2); r25.2)); (i26, i27))
def cg2__law_case (some14 : List Int) (s22 : St4) (x16 : Int) : Prop :=
  (let r23 := m__law_draw (((2 : Int), ()), s22); let i26 : Int := (if (decide (r23.1 = (0 : Int))) = true then (let r24 := m__law_pick_LI ((some14, ()), r23.2); r24.1) else (let r25 := m__law_draw (((60 : Int), ()), r23.2); r25.1)); let i27 : St4 := (if (decide (r23.1 = (0 : Int))) = true then (let r24 := m__law_pick_LI ((some14, ()), r23.2); r24.2) else (let r25 := m__law_draw (((60 : Int), ()), r23.2); r25.2)); ((((True ∧ True) ∧ (g__law_draw (((2 : Int), ()), s22))) ∧ True ∧ True) ∧ ((decide (r23.1 = (0 : Int))) = true → (let r24 := m__law_pick_LI ((some14, ()), r23.2); ((True ∧ True) ∧ (g__law_pick_LI ((some14, ()), r23.2))))) ∧ ((decide (r23.1 = (0 : Int))) = false → (let r25 := m__law_draw (((60 : Int), ()), r23.2); ((True ∧ True) ∧ (g__law_draw (((60 : Int), ()), r23.2)))))))
abbrev E6__law_case : Type := E4__law_case × (List Int)
def o__law_case (a : E0__law_case) : Out Empty (((Int × Int) × (Int × Int × Int) × (List Int) × (Int × Int)) × St4) Empty :=
  (let r1 := m__law_draw (((50 : Int), ()), a.2); let r2 := m__law_draw (((9 : Int), ()), r1.2); (let ferry3 : Int × Int := (r1.1, r2.1); (let r4 := m__law_pick_LI (([(20 : Int), (400 : Int)], ()), r2.2); let r5 := m__law_draw ((r4.1, ()), r4.2); let r6 := m__law_draw (((40 : Int), ()), r5.2); let r7 := m__law_draw (((6 : Int), ()), r6.2); (let bridge8 : Int × Int × Int := (r5.1, r6.1, r7.1); (let r13 := lcS c1__law_case r7.2 ((rng 0 ((2 : Int)))); (let some14 : List Int := r13.1; (let r15 := m__law_draw (((9 : Int), ()), r13.2); let r28 := lcS (c2__law_case some14) r15.2 ((rng 0 (((1 : Int) + r15.1)))); (let traffic29 : List Int := r28.1; (let r30 := m__law_pick_Q (([((1 : Int), (1 : Int)), ((1 : Int), (2 : Int)), ((9 : Int), (10 : Int)), ((1 : Int), (3 : Int)), ((19 : Int), (20 : Int))], ()), r28.2); (Out.rt ((ferry3, bridge8, traffic29, r30.1), r30.2)))))))))))
def m__law_case (a : E0__law_case) : ((Int × Int) × (Int × Int × Int) × (List Int) × (Int × Int)) × St4 := (o__law_case a).ret
def g__law_case (a : E0__law_case) : Prop :=
  (let r1 := m__law_draw (((50 : Int), ()), a.2); let r2 := m__law_draw (((9 : Int), ()), r1.2); ((((True ∧ True) ∧ (g__law_draw (((50 : Int), ()), a.2))) ∧ (((True ∧ True) ∧ (g__law_draw (((9 : Int), ()), r1.2))) ∧ True)) ∧ (let ferry3 : Int × Int := (r1.1, r2.1); (let r4 := m__law_pick_LI (([(20 : Int), (400 : Int)], ()), r2.2); let r5 := m__law_draw ((r4.1, ()), r4.2); let r6 := m__law_draw (((40 : Int), ()), r5.2); let r7 := m__law_draw (((6 : Int), ()), r6.2); (((((((True ∧ (True ∧ True)) ∧ True) ∧ (g__law_pick_LI (([(20 : Int), (400 : Int)], ()), r2.2))) ∧ True) ∧ (g__law_draw ((r4.1, ()), r4.2))) ∧ (((True ∧ True) ∧ (g__law_draw (((40 : Int), ()), r5.2))) ∧ (((True ∧ True) ∧ (g__law_draw (((6 : Int), ()), r6.2))) ∧ True))) ∧ (let bridge8 : Int × Int × Int := (r5.1, r6.1, r7.1); (let r13 := lcS c1__law_case r7.2 ((rng 0 ((2 : Int)))); ((((True ∧ True) ∧ (CRg 0 ((2 : Int)))) ∧ (lcG cg1__law_case c1__law_case r7.2 ((rng 0 ((2 : Int)))))) ∧ (let some14 : List Int := r13.1; (let r15 := m__law_draw (((9 : Int), ()), r13.2); let r28 := lcS (c2__law_case some14) r15.2 ((rng 0 (((1 : Int) + r15.1)))); (((((((True ∧ ((True ∧ True) ∧ (g__law_draw (((9 : Int), ()), r13.2))) ∧ True) ∧ True) ∧ (CRg 0 (((1 : Int) + r15.1)))) ∧ (lcG (cg2__law_case some14) (c2__law_case some14) r15.2 ((rng 0 (((1 : Int) + r15.1)))))) ∧ True) ∧ True) ∧ (let traffic29 : List Int := r28.1; (let r30 := m__law_pick_Q (([((1 : Int), (1 : Int)), ((1 : Int), (2 : Int)), ((9 : Int), (10 : Int)), ((1 : Int), (3 : Int)), ((19 : Int), (20 : Int))], ()), r28.2); (True ∧ (True ∧ (True ∧ (((((True ∧ (True ∧ True)) ∧ ((True ∧ (True ∧ True)) ∧ ((True ∧ (True ∧ True)) ∧ ((True ∧ (True ∧ True)) ∧ ((True ∧ (True ∧ True)) ∧ True))))) ∧ True) ∧ (g__law_pick_Q (([((1 : Int), (1 : Int)), ((1 : Int), (2 : Int)), ((9 : Int), (10 : Int)), ((1 : Int), (3 : Int)), ((19 : Int), (20 : Int))], ()), r28.2))) ∧ True)))))))))))))))))
theorem sc__law_case : FnScope ["state", "ferry", "bridge", "some", "traffic", "k"] ["state"] (defScope (topS 51)) := ⟨rfl, rfl, rfl, by decide +kernel, rfl, by decide +kernel, by decide +kernel⟩
theorem b__law_case {K : Y.Frag} {mg : Str → Option Value} {ad : Nat → Addr} {fd : Nat → FuncData} (T : Tx K mg ad fd) : Binds K (fd 51) ["state"] [] := T.F51.binds (ps := ["state"]) fun _ _ _ _ _ _ us hl => match us, hl with | [_], _ => rfl
theorem f__law_case {P : Program} {w : World} {K : Y.Frag} {mg : Str → Option Value} {base : Heap} {ad : Nat → Addr} {fd : Nat → FuncData} (T : Tx K mg ad fd) : FnG P w K mg base 3 (ad 51) (fd 51) ["state"] (spS K an cSt (c4 (c2 cI cI) (c3 cI cI cI) (cT cI) (c2 cI cI)) g__law_case m__law_case) :=
  fn_state T.F51 sc__law_case 5 (fun _ => rfl) rfl (owS := []) (ow' := []) (ΓS := fun _ : Empty => []) (Γ' := fun _ : Empty => []) (cr := fun r : ((Int × Int) × (Int × Int × Int) × (List Int) × (Int × Int)) × St4 => (c4 (c2 cI cI) (c3 cI cI cI) (cT cI) (c2 cI cI)) r.1) (ci := fun r : ((Int × Int) × (Int × Int × Int) × (List Int) × (Int × Int)) × St4 => cSt r.2) (G := g__law_case) (d := o__law_case) (fun A0 p cdv A outer s H E hr hg => by
    have hu : (A.deeper (envOfC _ (defScope (topS 51)) s.heap.objs.size _ cdv)).units + 64 < cLine := Nat.lt_of_le_of_lt (Nat.add_le_add_left (by decide) _) (room_un hr)
    have key : Dss (XF P w K mg base ["state", "ferry", "bridge", "some", "traffic", "k"] "_law_case" (topS 51) (ad 51) cdv A outer s H E) ⟨A0, [], some p⟩ [0] (fun a : E0__law_case => some (.list (cSt a.2)) :: ((an a.1).map some ++ List.replicate 5 none)) (fun r : ((Int × Int) × (Int × Int × Int) × (List Int) × (Int × Int)) × St4 => (c4 (c2 cI cI) (c3 cI cI cI) (cT cI) (c2 cI cI)) r.1) (fun r : ((Int × Int) × (Int × Int × Int) × (List Int) × (Int × Int)) × St4 => cSt r.2) [] (fun _ : Empty => []) (defBody (topS 51)) _ _ [] (fun _ : Empty => []) := (s_cons (s_asg 1 (d_tp2 (a_cons (d_callS 0 (fun q : E0__law_case => q.2) (fun (q : E0__law_case) t => (q.1, t)) (fun _ => rfl) (fun _ _ => rfl) ((f__law_draw T).mono (by decide)) hr hg T.M44 T.F44.kp (b__law_draw T) (a_cons d_int a_nil)) (a_cons (d_callS 0 (fun q : E0__law_case => q.2) (fun (q : E0__law_case) t => (q.1, t)) (fun _ => rfl) (fun _ _ => rfl) ((f__law_draw T).mono (by decide)) hr hg T.M44 T.F44.kp (b__law_draw T) (a_cons d_int a_nil)) a_nil))) (hN := sc__law_case.nd)) (s_cons (s_asg 2 (d_tp3 (a_cons (d_callS 0 (fun q : E1__law_case => q.1.2) (fun (q : E1__law_case) t => ((q.1.1, t), q.2)) (fun _ => rfl) (fun _ _ => rfl) ((f__law_draw T).mono (by decide)) hr hg T.M44 T.F44.kp (b__law_draw T) (a_cons (d_callS 0 (fun q : E1__law_case => q.1.2) (fun (q : E1__law_case) t => ((q.1.1, t), q.2)) (fun _ => rfl) (fun _ _ => rfl) ((f__law_pick_LI T).mono (by decide)) hr hg T.M45 T.F45.kp (b__law_pick T) (a_cons (DL.de (l_disp (c := cI) (g := fun x : Int × Int × Unit => [x.1, x.2.1]) (fun _ => rfl) (fun _ => Nat.le_of_ble_eq_true rfl) (a_cons d_int (a_cons d_int a_nil)))) a_nil)) a_nil)) (a_cons (d_callS 0 (fun q : E1__law_case => q.1.2) (fun (q : E1__law_case) t => ((q.1.1, t), q.2)) (fun _ => rfl) (fun _ _ => rfl) ((f__law_draw T).mono (by decide)) hr hg T.M44 T.F44.kp (b__law_draw T) (a_cons d_int a_nil)) (a_cons (d_callS 0 (fun q : E1__law_case => q.1.2) (fun (q : E1__law_case) t => ((q.1.1, t), q.2)) (fun _ => rfl) (fun _ _ => rfl) ((f__law_draw T).mono (by decide)) hr hg T.M44 T.F44.kp (b__law_draw T) (a_cons d_int a_nil)) a_nil)))) (hN := sc__law_case.nd)) (s_cons (s_asg 3 (DL.de (d_lcS (fun q : E2__law_case => q.1.1.2) (fun (q : E2__law_case) t => (((q.1.1.1, t), q.1.2), q.2)) (fun _ _ _ => rfl) (fun _ => rfl) (fun _ _ => rfl) (tg_name 5) (tgf_name 5) (fun _ _ _ => rfl) (fun _ t t' i d hi h => hfz_of 0 (by decide) (x := some (.list (cSt t'))) rfl hi h) (i_rng1 (a_cons d_int a_nil) T.z_range) (blkOk_by (N := ["state", "ferry", "bridge", "some", "traffic", "k"]) (sc := defScope (topS 51)) (own := [("k", 5)]) (by decide +kernel)) (fun _ _ _ _ _ => (pg_name (i := 5) sc__law_case.nd rfl (by first | exact .inl rfl | exact .inr rfl))) (fun _ _ _ _ _ _ => (d_callS 0 (fun q : E3__law_case => q.1.1.1.2) (fun (q : E3__law_case) t => ((((q.1.1.1.1, t), q.1.1.2), q.1.2), q.2)) (fun _ => rfl) (fun _ _ => rfl) ((f__law_draw T).mono (by decide)) hr hg T.M44 T.F44.kp (b__law_draw T) (a_cons d_int a_nil))) (own := [("k", 5)]) (hN := sc__law_case.nd))) (hN := sc__law_case.nd)) (s_cons (s_asg 4 (d_ty call_tuple_of (v_tuple sq_L) T.z_tuple (by decide +kernel) (a_cons (DL.de (d_lcS (fun q : E4__law_case => q.1.1.1.2) (fun (q : E4__law_case) t => ((((q.1.1.1.1, t), q.1.1.2), q.1.2), q.2)) (fun _ _ _ => rfl) (fun _ => rfl) (fun _ _ => rfl) (tg_name 5) (tgf_name 5) (fun _ _ _ => rfl) (fun _ t t' i d hi h => hfz_of 0 (by decide) (x := some (.list (cSt t'))) rfl hi h) (i_rng1 (a_cons (d_op op_add v_add d_int (d_callS 0 (fun q : E4__law_case => q.1.1.1.2) (fun (q : E4__law_case) t => ((((q.1.1.1.1, t), q.1.1.2), q.1.2), q.2)) (fun _ => rfl) (fun _ _ => rfl) ((f__law_draw T).mono (by decide)) hr hg T.M44 T.F44.kp (b__law_draw T) (a_cons d_int a_nil))) a_nil) T.z_range) (blkOk_by (N := ["state", "ferry", "bridge", "some", "traffic", "k"]) (sc := defScope (topS 51)) (own := [("k", 5)]) (by decide +kernel)) (fun _ _ _ _ _ => (pg_name (i := 5) sc__law_case.nd rfl (by first | exact .inl rfl | exact .inr rfl))) (fun _ _ _ _ _ _ => (d_ifE (fun (q : E5__law_case) t => (((((q.1.1.1.1.1, t), q.1.1.1.2), q.1.1.2), q.1.2), q.2)) (t_cmp op_eq v_eqI (d_callS 0 (fun q : E5__law_case => q.1.1.1.1.2) (fun (q : E5__law_case) t => (((((q.1.1.1.1.1, t), q.1.1.1.2), q.1.1.2), q.1.2), q.2)) (fun _ => rfl) (fun _ _ => rfl) ((f__law_draw T).mono (by decide)) hr hg T.M44 T.F44.kp (b__law_draw T) (a_cons d_int a_nil)) d_int (nomark _)) (d_callS 0 (fun q : E5__law_case => q.1.1.1.1.2) (fun (q : E5__law_case) t => (((((q.1.1.1.1.1, t), q.1.1.1.2), q.1.1.2), q.1.2), q.2)) (fun _ => rfl) (fun _ _ => rfl) ((f__law_pick_LI T).mono (by decide)) hr hg T.M45 T.F45.kp (b__law_pick T) (a_cons (d_var 3 (fun q : E5__law_case => q.1.2) (cL cI) (fun _ => rfl)) a_nil)) (d_callS 0 (fun q : E5__law_case => q.1.1.1.1.2) (fun (q : E5__law_case) t => (((((q.1.1.1.1.1, t), q.1.1.1.2), q.1.1.2), q.1.2), q.2)) (fun _ => rfl) (fun _ _ => rfl) ((f__law_draw T).mono (by decide)) hr hg T.M44 T.F44.kp (b__law_draw T) (a_cons d_int a_nil)) (fun _ => rfl) (fun _ => rfl))) (own := [("k", 5)]) (hN := sc__law_case.nd))) a_nil)) (hN := sc__law_case.nd)) (s_one (s_retS (r := fun v (q : E6__law_case) => (v, q.1.1.1.1.2)) (fun _ _ => rfl) (fun _ _ => rfl) (d_tp4 (a_cons (d_var 1 (fun q : E6__law_case => q.1.1.1.2) (c2 cI cI) (fun _ => rfl)) (a_cons (d_var 2 (fun q : E6__law_case => q.1.1.2) (c3 cI cI cI) (fun _ => rfl)) (a_cons (d_var 4 (fun q : E6__law_case => q.2) (cT cI) (fun _ => rfl)) (a_cons (d_callS 0 (fun q : E6__law_case => q.1.1.1.1.2) (fun (q : E6__law_case) t => (((((q.1.1.1.1.1, t), q.1.1.1.2), q.1.1.2), q.1.2), q.2)) (fun _ => rfl) (fun _ _ => rfl) ((f__law_pick_Q T).mono (by decide)) hr hg T.M45 T.F45.kp (b__law_pick T) (a_cons (DL.de (l_disp (c := (c2 cI cI)) (g := fun x : (Int × Int) × (Int × Int) × (Int × Int) × (Int × Int) × (Int × Int) × Unit => [x.1, x.2.1, x.2.2.1, x.2.2.2.1, x.2.2.2.2.1]) (fun _ => rfl) (fun _ => Nat.le_of_ble_eq_true rfl) (a_cons (d_tp2 (a_cons d_int (a_cons d_int a_nil))) (a_cons (d_tp2 (a_cons d_int (a_cons d_int a_nil))) (a_cons (d_tp2 (a_cons d_int (a_cons d_int a_nil))) (a_cons (d_tp2 (a_cons d_int (a_cons d_int a_nil))) (a_cons (d_tp2 (a_cons d_int (a_cons d_int a_nil))) a_nil))))))) a_nil)) a_nil)))))))))))
    exact dss_eq key (by kernel_rfl) (by kernel_rfl)) (fun _ h => h) (fun a _ => ret_ex (o__law_case a))
abbrev E0__law_savings_hold : Type := ((Int × Int) × (Int × Int × Int) × (List Int) × (Int × Int)) × Unit
abbrev E1__law_savings_hold : Type := E0__law_savings_hold × ((Int × Int) × (Int × Int × Int) × (List Int) × (Int × Int))
abbrev E2__law_savings_hold : Type := E1__law_savings_hold × (List (Option Int))
abbrev E3__law_savings_hold : Type := E2__law_savings_hold × (Option Int)
abbrev E4__law_savings_hold : Type := E2__law_savings_hold × (List (Int × Int))
abbrev E5__law_savings_hold : Type := E4__law_savings_hold × (List (Int × Int))
abbrev E6__law_savings_hold : Type := E5__law_savings_hold × (Int × Int)
abbrev E7__law_savings_hold : Type := Int × Int
abbrev E8__law_savings_hold : Type := E7__law_savings_hold × Int
abbrev E9__law_savings_hold : Type := E8__law_savings_hold × (Int × Int)
abbrev E10__law_savings_hold : Type := E9__law_savings_hold × (Int × Int)
abbrev E11__law_savings_hold : Type := E6__law_savings_hold × E7__law_savings_hold
def k1__law_savings_hold (u1 : (Int × Int) × (Int × Int × Int) × (List Int) × (Int × Int)) (costs4 : List (Int × Int)) (saved5 : List (Int × Int)) (q8 : E8__law_savings_hold) : Out E7__law_savings_hold Bool E7__law_savings_hold :=
  (let own9 : Int × Int := (m__law_mul ((ixD saved5 q8.2), (m__law_power (u1.2.2.2, q8.2, ())), ())); (let whole10 : Int × Int := (m__law_plus (q8.1, own9, ())); (if (!((m__law_same_Q ((m__law_plus ((ixD costs4 ((q8.2 + (1 : Int)))), own9, ())), (ixD costs4 q8.2), ())))) = true then (Out.rt false) else (Out.nx whole10))))
def kg1__law_savings_hold (u1 : (Int × Int) × (Int × Int × Int) × (List Int) × (Int × Int)) (costs4 : List (Int × Int)) (saved5 : List (Int × Int)) (q8 : E8__law_savings_hold) : Prop :=
  ((((True ∧ True ∧ (CIx saved5 q8.2)) ∧ (((True ∧ (True ∧ True)) ∧ (g__law_power (u1.2.2.2, q8.2, ()))) ∧ True)) ∧ (g__law_mul ((ixD saved5 q8.2), (m__law_power (u1.2.2.2, q8.2, ())), ()))) ∧ (let own9 : Int × Int := (m__law_mul ((ixD saved5 q8.2), (m__law_power (u1.2.2.2, q8.2, ())), ())); (((True ∧ (True ∧ True)) ∧ (g__law_plus (q8.1, own9, ()))) ∧ (let whole10 : Int × Int := (m__law_plus (q8.1, own9, ())); ((((((True ∧ (True ∧ True ∧ True) ∧ (CIx costs4 ((q8.2 + (1 : Int))))) ∧ (True ∧ True)) ∧ (g__law_plus ((ixD costs4 ((q8.2 + (1 : Int)))), own9, ()))) ∧ ((True ∧ True ∧ (CIx costs4 q8.2)) ∧ True)) ∧ (g__law_same_Q ((m__law_plus ((ixD costs4 ((q8.2 + (1 : Int)))), own9, ())), (ixD costs4 q8.2), ()))) ∧ ((!((m__law_same_Q ((m__law_plus ((ixD costs4 ((q8.2 + (1 : Int)))), own9, ())), (ixD costs4 q8.2), ())))) = true → True) ∧ ((!((m__law_same_Q ((m__law_plus ((ixD costs4 ((q8.2 + (1 : Int)))), own9, ())), (ixD costs4 q8.2), ())))) = false → True))))))
abbrev E12__law_savings_hold : Type := E11__law_savings_hold × (Option Int)
abbrev E13__law_savings_hold : Type := E11__law_savings_hold × ((Int × Int) × (Option Int))
def o__law_savings_hold (a : E0__law_savings_hold) : Out Empty (Bool) Empty :=
  (let case := a.1; (let u1 : (Int × Int) × (Int × Int × Int) × (List Int) × (Int × Int) := case; (let years2 : List (Option Int) := ((((rng 0 (((u1.2.2.1).length : Int)))).map (fun x : Int => (some x))) ++ (([()]).map (fun x : Unit => (none : Option Int)))); (let costs4 : List (Int × Int) := (years2.map fun x3 => (m_whole_cost (u1.1, u1.2.1, u1.2.2.1, u1.2.2.2, x3, ()))); (let saved5 : List (Int × Int) := (m_later_savings (u1.1, u1.2.1, u1.2.2.1, u1.2.2.2, ())); let whole6 : Int × Int := ((0 : Int), (1 : Int)); (if (!decide (((saved5).length : Int) = ((u1.2.2.1).length : Int))) = true then (Out.rt false) else ((forO (k1__law_savings_hold u1 costs4 saved5) whole6 (rng 0 (((u1.2.2.1).length : Int)))).bind (fun l11 : E7__law_savings_hold => (if (!((m__law_same_Q ((m__law_plus ((ixD costs4 ((-1 : Int))), l11, ())), (ixD costs4 ((0 : Int))), ())))) = true then (Out.rt false) else (if ((PyData.eqv ((c2 cI cI) u1.2.2.2) ((c2 cI cI) (((1 : Int), (1 : Int))))) && (!((m__law_same_LQ (costs4, (years2.map fun x12 => ((((m_yearly_costs (u1.1, u1.2.1, u1.2.2.1, x12, ()))).sum), (1 : Int))), ()))))) = true then (Out.rt false) else (let u13 : (Int × Int) × (Option Int) := (m_best_year (u1.1, u1.2.1, u1.2.2.1, u1.2.2.2, ())); (Out.rt (((m__law_same_Q (u13.1, (ixD costs4 ((idxD (cO cI) years2 u13.2))), ())) && true))))))))))))))
def m__law_savings_hold (a : E0__law_savings_hold) : Bool := (o__law_savings_hold a).ret
def g__law_savings_hold (a : E0__law_savings_hold) : Prop :=
  (let case := a.1; (True ∧ (let u1 : (Int × Int) × (Int × Int × Int) × (List Int) × (Int × Int) := case; (((((True ∧ True) ∧ True) ∧ (CRg 0 (((u1.2.2.1).length : Int)))) ∧ (True ∧ True) ∧ (((((rng 0 (((u1.2.2.1).length : Int)))).map (fun x : Int => (some x)))).length + ((([()]).map (fun x : Unit => (none : Option Int)))).length ≤ 16777216)) ∧ (let years2 : List (Option Int) := ((((rng 0 (((u1.2.2.1).length : Int)))).map (fun x : Int => (some x))) ++ (([()]).map (fun x : Unit => (none : Option Int)))); ((True ∧ (∀ x3 ∈ years2, ((True ∧ (True ∧ (True ∧ (True ∧ (True ∧ True))))) ∧ (g_whole_cost (u1.1, u1.2.1, u1.2.2.1, u1.2.2.2, x3, ()))))) ∧ (let costs4 : List (Int × Int) := (years2.map fun x3 => (m_whole_cost (u1.1, u1.2.1, u1.2.2.1, u1.2.2.2, x3, ()))); ((((True ∧ (True ∧ (True ∧ (True ∧ True)))) ∧ (g_later_savings (u1.1, u1.2.1, u1.2.2.1, u1.2.2.2, ()))) ∧ ((True ∧ (True ∧ True)) ∧ True)) ∧ (let saved5 : List (Int × Int) := (m_later_savings (u1.1, u1.2.1, u1.2.2.1, u1.2.2.2, ())); let whole6 : Int × Int := ((0 : Int), (1 : Int)); ((((True ∧ True) ∧ True) ∧ ((True ∧ True) ∧ True) ∧ True) ∧ ((!decide (((saved5).length : Int) = ((u1.2.2.1).length : Int))) = true → True) ∧ ((!decide (((saved5).length : Int) = ((u1.2.2.1).length : Int))) = false → ((((((True ∧ True) ∧ True) ∧ True) ∧ (CRg 0 (((u1.2.2.1).length : Int)))) ∧ (forG (kg1__law_savings_hold u1 costs4 saved5) (k1__law_savings_hold u1 costs4 saved5) whole6 (rng 0 (((u1.2.2.1).length : Int))))) ∧ (∀ l11 : E7__law_savings_hold, (forO (k1__law_savings_hold u1 costs4 saved5) whole6 (rng 0 (((u1.2.2.1).length : Int)))) = Out.nx (S := Empty) l11 → ((((((True ∧ True ∧ (CIx costs4 ((-1 : Int)))) ∧ (True ∧ True)) ∧ (g__law_plus ((ixD costs4 ((-1 : Int))), l11, ()))) ∧ ((True ∧ True ∧ (CIx costs4 ((0 : Int)))) ∧ True)) ∧ (g__law_same_Q ((m__law_plus ((ixD costs4 ((-1 : Int))), l11, ())), (ixD costs4 ((0 : Int))), ()))) ∧ ((!((m__law_same_Q ((m__law_plus ((ixD costs4 ((-1 : Int))), l11, ())), (ixD costs4 ((0 : Int))), ())))) = true → True) ∧ ((!((m__law_same_Q ((m__law_plus ((ixD costs4 ((-1 : Int))), l11, ())), (ixD costs4 ((0 : Int))), ())))) = false → (((True ∧ (True ∧ (True ∧ True)) ∧ True) ∧ ((PyData.eqv ((c2 cI cI) u1.2.2.2) ((c2 cI cI) (((1 : Int), (1 : Int))))) = true → ((True ∧ ((True ∧ (∀ x12 ∈ years2, (((((True ∧ (True ∧ (True ∧ (True ∧ True)))) ∧ (g_yearly_costs (u1.1, u1.2.1, u1.2.2.1, x12, ()))) ∧ True) ∧ True) ∧ (True ∧ True)))) ∧ True)) ∧ (g__law_same_LQ (costs4, (years2.map fun x12 => ((((m_yearly_costs (u1.1, u1.2.1, u1.2.2.1, x12, ()))).sum), (1 : Int))), ()))))) ∧ (((PyData.eqv ((c2 cI cI) u1.2.2.2) ((c2 cI cI) (((1 : Int), (1 : Int))))) && (!((m__law_same_LQ (costs4, (years2.map fun x12 => ((((m_yearly_costs (u1.1, u1.2.1, u1.2.2.1, x12, ()))).sum), (1 : Int))), ()))))) = true → True) ∧ (((PyData.eqv ((c2 cI cI) u1.2.2.2) ((c2 cI cI) (((1 : Int), (1 : Int))))) && (!((m__law_same_LQ (costs4, (years2.map fun x12 => ((((m_yearly_costs (u1.1, u1.2.1, u1.2.2.1, x12, ()))).sum), (1 : Int))), ()))))) = false → (((True ∧ (True ∧ (True ∧ (True ∧ True)))) ∧ (g_best_year (u1.1, u1.2.1, u1.2.2.1, u1.2.2.2, ()))) ∧ (let u13 : (Int × Int) × (Option Int) := (m_best_year (u1.1, u1.2.1, u1.2.2.1, u1.2.2.2, ())); (((True ∧ ((True ∧ (True ∧ True ∧ (IdxOk (cO cI) years2 u13.2)) ∧ (CIx costs4 ((idxD (cO cI) years2 u13.2)))) ∧ True)) ∧ (g__law_same_Q (u13.1, (ixD costs4 ((idxD (cO cI) years2 u13.2))), ()))) ∧ ((m__law_same_Q (u13.1, (ixD costs4 ((idxD (cO cI) years2 u13.2))), ())) = true → (((True ∧ (True ∧ (True ∧ (True ∧ (True ∧ (((True ∧ True) ∧ True) ∧ True)))))) ∧ (g_accept_year (u1.1, u1.2.1, u1.2.2.1, u1.2.2.2, u13.2, costs4, ()))) ∧ True ∧ True))))))))))))))))))))))
theorem sc__law_savings_hold : FnScope ["case", "ferry", "bridge", "traffic", "rate", "years", "costs", "saved", "whole", "k", "own", "cost", "year"] ["case"] (defScope (topS 52)) := ⟨rfl, rfl, rfl, by decide +kernel, rfl, by decide +kernel, by decide +kernel⟩
theorem b__law_savings_hold {K : Y.Frag} {mg : Str → Option Value} {ad : Nat → Addr} {fd : Nat → FuncData} (T : Tx K mg ad fd) : Binds K (fd 52) ["case"] [] := T.F52.binds (ps := ["case"]) fun _ _ _ _ _ _ us hl => match us, hl with | [_], _ => rfl
theorem f__law_savings_hold {P : Program} {w : World} {K : Y.Frag} {mg : Str → Option Value} {base : Heap} {ad : Nat → Addr} {fd : Nat → FuncData} (T : Tx K mg ad fd) : FnG P w K mg base 7 (ad 52) (fd 52) ["case"] (spP K (ac (c4 (c2 cI cI) (c3 cI cI cI) (cT cI) (c2 cI cI)) an) cB g__law_savings_hold m__law_savings_hold) :=
  fn_pure T.F52 sc__law_savings_hold 12 (fun _ => rfl) rfl (owS := []) (ow' := []) (ΓS := fun _ : Empty => []) (Γ' := fun _ : Empty => []) (cr := cB) (ci := fun _ => []) (G := g__law_savings_hold) (d := o__law_savings_hold) (fun A0 cdv A outer s H E hr hg => by
    have hu : (A.deeper (envOfC _ (defScope (topS 52)) s.heap.objs.size _ cdv)).units + 64 < cLine := Nat.lt_of_le_of_lt (Nat.add_le_add_left (by decide) _) (room_un hr)
    have key : Dss (XF P w K mg base ["case", "ferry", "bridge", "traffic", "rate", "years", "costs", "saved", "whole", "k", "own", "cost", "year"] "_law_savings_hold" (topS 52) (ad 52) cdv A outer s H E) ⟨A0, [], none⟩ [] (fun a : E0__law_savings_hold => ((ac (c4 (c2 cI cI) (c3 cI cI cI) (cT cI) (c2 cI cI)) an) a).map some ++ List.replicate 12 none) cB (fun _ => []) [] (fun _ : Empty => []) (defBody (topS 52)) _ _ [] (fun _ : Empty => []) := (s_cons (s_asgT (d_var 0 (fun q : E0__law_savings_hold => q.1) (c4 (c2 cI cI) (c3 cI cI cI) (cT cI) (c2 cI cI)) (fun _ => rfl)) (pg_tup rfl (pgs_cons (pg_name (i := 1) sc__law_savings_hold.nd rfl (by first | exact .inl rfl | exact .inr rfl)) (pgs_cons (pg_name (i := 2) sc__law_savings_hold.nd rfl (by first | exact .inl rfl | exact .inr rfl)) (pgs_cons (pg_name (i := 3) sc__law_savings_hold.nd rfl (by first | exact .inl rfl | exact .inr rfl)) (pgs_cons (pg_name (i := 4) sc__law_savings_hold.nd rfl (by first | exact .inl rfl | exact .inr rfl)) pgs_nil))))) (tg_four 1 2 3 4)) (s_cons (s_asg 5 (DL.de (l_cat (De.asL (c := cI) (c' := (cO cI)) (fun x : Int => (some x)) (fun _ => rfl) (DL.de (l_lrg1 (d_blt call_len_seq (v_len sq_T) T.z_len (by decide +kernel) (a_cons (d_var 3 (fun q : E1__law_savings_hold => q.2.2.2.1) (cT cI) (fun _ => rfl)) a_nil)) T.z_list T.z_range))) (De.asL (c := cN) (c' := (cO cI)) (fun x : Unit => (none : Option Int)) (fun _ => rfl) (DL.de (l_disp (c := cN) (g := fun x : Unit × Unit => [x.1]) (fun _ => rfl) (fun _ => Nat.le_of_ble_eq_true rfl) (a_cons d_non a_nil)))))) (hN := sc__law_savings_hold.nd)) (s_cons (s_asgLc0 6 (sw_true rfl rfl rfl (by decide +kernel)) (i_lst (d_var 5 (fun q : E2__law_savings_hold => q.2) (cL (cO cI)) (fun _ => rfl))) (blkOk_by (N := ["case", "ferry", "bridge", "traffic", "rate", "years", "costs", "saved", "whole", "k", "own", "cost", "year"]) (sc := defScope (topS 52)) (own := [("year", 12)]) (by decide +kernel)) (tg_name 12) (fun _ _ _ _ _ => (pg_name (i := 12) sc__law_savings_hold.nd rfl (by first | exact .inl rfl | exact .inr rfl))) (fun _ _ _ _ _ _ => (d_call ((f_whole_cost T).mono (by decide)) hr hg T.M33 T.F33.kp (b_whole_cost T) (a_cons (d_var 1 (fun q : E3__law_savings_hold => q.1.1.2.1) (c2 cI cI) (fun _ => rfl)) (a_cons (d_var 2 (fun q : E3__law_savings_hold => q.1.1.2.2.1) (c3 cI cI cI) (fun _ => rfl)) (a_cons (d_var 3 (fun q : E3__law_savings_hold => q.1.1.2.2.2.1) (cT cI) (fun _ => rfl)) (a_cons (d_var 4 (fun q : E3__law_savings_hold => q.1.1.2.2.2.2) (c2 cI cI) (fun _ => rfl)) (a_cons (d_var 12 (fun q : E3__law_savings_hold => q.2) (cO cI) (fun _ => rfl)) a_nil))))))) (own := [("year", 12)]) (hN := sc__law_savings_hold.nd)) (s_cons (s_par 7 8 (ca := (cT (c2 cI cI))) (cb := (c2 cI cI)) (ga := fun x : (List (Int × Int)) × (Int × Int) × Unit => x.1) (gb := fun x : (List (Int × Int)) × (Int × Int) × Unit => x.2.1) (a_cons (d_call ((f_later_savings T).mono (by decide)) hr hg T.M37 T.F37.kp (b_later_savings T) (a_cons (d_var 1 (fun q : E4__law_savings_hold => q.1.1.2.1) (c2 cI cI) (fun _ => rfl)) (a_cons (d_var 2 (fun q : E4__law_savings_hold => q.1.1.2.2.1) (c3 cI cI cI) (fun _ => rfl)) (a_cons (d_var 3 (fun q : E4__law_savings_hold => q.1.1.2.2.2.1) (cT cI) (fun _ => rfl)) (a_cons (d_var 4 (fun q : E4__law_savings_hold => q.1.1.2.2.2.2) (c2 cI cI) (fun _ => rfl)) a_nil))))) (a_cons (d_tp2 (a_cons d_int (a_cons d_int a_nil))) a_nil)) (fun _ => rfl) rfl (hN := sc__law_savings_hold.nd)) (s_ifR (t_cmp op_ne v_neI (d_blt call_len_seq (v_len sq_T) T.z_len (by decide +kernel) (a_cons (d_var 7 (fun q : E6__law_savings_hold => q.1.2) (cT (c2 cI cI)) (fun _ => rfl)) a_nil)) (d_blt call_len_seq (v_len sq_T) T.z_len (by decide +kernel) (a_cons (d_var 3 (fun q : E6__law_savings_hold => q.1.1.1.1.2.2.2.1) (cT cI) (fun _ => rfl)) a_nil)) (nomark _)) (s_one (s_ret (r := fun v (_ : E6__law_savings_hold) => v) (fun _ _ => rfl) rfl d_bl)) (by intro ε n; (repeat' (first | (intro h; nomatch h) | split))) (s_consK (s_forP (ΓL := (fun (e7 : E6__law_savings_hold) (m : E7__law_savings_hold) => [some ((c4 (c2 cI cI) (c3 cI cI cI) (cT cI) (c2 cI cI)) e7.1.1.1.1.1.1), some ((c2 cI cI) e7.1.1.1.1.2.1), some ((c3 cI cI cI) e7.1.1.1.1.2.2.1), some ((cT cI) e7.1.1.1.1.2.2.2.1), some ((c2 cI cI) e7.1.1.1.1.2.2.2.2), some ((cL (cO cI)) e7.1.1.1.2), some ((cL (c2 cI cI)) e7.1.1.2), some ((cT (c2 cI cI)) e7.1.2), some ((c2 cI cI) m), none, none, none, none])) (fun q : E6__law_savings_hold => q.2) (i_rng1 (a_cons (d_blt call_len_seq (v_len sq_T) T.z_len (by decide +kernel) (a_cons (d_var 3 (fun q : E6__law_savings_hold => q.1.1.1.1.2.2.2.1) (cT cI) (fun _ => rfl)) a_nil)) a_nil) T.z_range) (fun _ _ _ _ r => r) (pg_name (i := 9) sc__law_savings_hold.nd rfl (by first | exact .inl rfl | exact .inr rfl)) (tg_name 9) (fun e7 : E6__law_savings_hold => (s_cons (s_asg 10 (d_call ((f__law_mul T).mono (by decide)) hr hg T.M49 T.F49.kp (b__law_mul T) (a_cons (d_ix ix_tup v_ixT (d_var 7 (fun q : E8__law_savings_hold => e7.1.2) (cT (c2 cI cI)) (fun _ => rfl)) (d_var 9 (fun q : E8__law_savings_hold => q.2) cI (fun _ => rfl))) (a_cons (d_call ((f__law_power T).mono (by decide)) hr hg T.M50 T.F50.kp (b__law_power T) (a_cons (d_var 4 (fun q : E8__law_savings_hold => e7.1.1.1.1.2.2.2.2) (c2 cI cI) (fun _ => rfl)) (a_cons (d_var 9 (fun q : E8__law_savings_hold => q.2) cI (fun _ => rfl)) a_nil))) a_nil))) (hN := sc__law_savings_hold.nd)) (s_cons (s_asg 8 (d_call ((f__law_plus T).mono (by decide)) hr hg T.M48 T.F48.kp (b__law_plus T) (a_cons (d_var 8 (fun q : E9__law_savings_hold => q.1.1) (c2 cI cI) (fun _ => rfl)) (a_cons (d_var 10 (fun q : E9__law_savings_hold => q.2) (c2 cI cI) (fun _ => rfl)) a_nil))) (hN := sc__law_savings_hold.nd)) (s_ifR (t_not (t_val (d_call ((f__law_same_Q T).mono (by decide)) hr hg T.M46 T.F46.kp (b__law_same T) (a_cons (d_call ((f__law_plus T).mono (by decide)) hr hg T.M48 T.F48.kp (b__law_plus T) (a_cons (d_ix ix_list v_ixL (d_var 6 (fun q : E10__law_savings_hold => e7.1.1.2) (cL (c2 cI cI)) (fun _ => rfl)) (d_op op_add v_add (d_var 9 (fun q : E10__law_savings_hold => q.1.1.2) cI (fun _ => rfl)) d_int)) (a_cons (d_var 10 (fun q : E10__law_savings_hold => q.1.2) (c2 cI cI) (fun _ => rfl)) a_nil))) (a_cons (d_ix ix_list v_ixL (d_var 6 (fun q : E10__law_savings_hold => e7.1.1.2) (cL (c2 cI cI)) (fun _ => rfl)) (d_var 9 (fun q : E10__law_savings_hold => q.1.1.2) cI (fun _ => rfl))) a_nil))))) (s_one (s_ret (r := fun v (_ : E10__law_savings_hold) => v) (fun _ _ => rfl) rfl d_bl)) (by intro ε n; (repeat' (first | (intro h; nomatch h) | split))) (s_end (ow2 := []) (Γ2 := (fun m : E7__law_savings_hold => [some ((c4 (c2 cI cI) (c3 cI cI cI) (cT cI) (c2 cI cI)) e7.1.1.1.1.1.1), some ((c2 cI cI) e7.1.1.1.1.2.1), some ((c3 cI cI cI) e7.1.1.1.1.2.2.1), some ((cT cI) e7.1.1.1.1.2.2.2.1), some ((c2 cI cI) e7.1.1.1.1.2.2.2.2), some ((cL (cO cI)) e7.1.1.1.2), some ((cL (c2 cI cI)) e7.1.1.2), some ((cT (c2 cI cI)) e7.1.2), some ((c2 cI cI) m), none, none, none, none])) (fun q : E10__law_savings_hold => q.2) (fun _ _ _ _ r => r.wk (.k (.k (.k (.k (.k (.k (.k (.k (.k (.f (.f (.k (.k .nil))))))))))))))))))) PassesOwn.never) (s_ifR (t_not (t_val (d_call ((f__law_same_Q T).mono (by decide)) hr hg T.M46 T.F46.kp (b__law_same T) (a_cons (d_call ((f__law_plus T).mono (by decide)) hr hg T.M48 T.F48.kp (b__law_plus T) (a_cons (d_ix ix_list v_ixL (d_var 6 (fun q : E11__law_savings_hold => q.1.1.1.2) (cL (c2 cI cI)) (fun _ => rfl)) d_neg1) (a_cons (d_var 8 (fun q : E11__law_savings_hold => q.2) (c2 cI cI) (fun _ => rfl)) a_nil))) (a_cons (d_ix ix_list v_ixL (d_var 6 (fun q : E11__law_savings_hold => q.1.1.1.2) (cL (c2 cI cI)) (fun _ => rfl)) d_int) a_nil))))) (s_one (s_ret (r := fun v (_ : E11__law_savings_hold) => v) (fun _ _ => rfl) rfl d_bl)) (by intro ε n; (repeat' (first | (intro h; nomatch h) | split))) (s_ifR (Dw.dt (w_andP (t_cmp (op_eqD hu) (v_eqD (cq_2 cq_I cq_I) (cq_2 cq_I cq_I)) (d_var 4 (fun q : E11__law_savings_hold => q.1.1.1.1.1.2.2.2.2) (c2 cI cI) (fun _ => rfl)) (d_tp2 (a_cons d_int (a_cons d_int a_nil))) (nomark _)) (w_and1 (t_not (t_val (d_call ((f__law_same_LQ T).mono (by decide)) hr hg T.M46 T.F46.kp (b__law_same T) (a_cons (d_var 6 (fun q : E11__law_savings_hold => q.1.1.1.2) (cL (c2 cI cI)) (fun _ => rfl)) (a_cons (DL.de (d_lc0 (i_lst (d_var 5 (fun q : E11__law_savings_hold => q.1.1.1.1.2) (cL (cO cI)) (fun _ => rfl))) (blkOk_by (N := ["case", "ferry", "bridge", "traffic", "rate", "years", "costs", "saved", "whole", "k", "own", "cost", "year"]) (sc := defScope (topS 52)) (own := [("year", 12)]) (by decide +kernel)) (tg_name 12) (fun _ _ _ _ _ => (pg_name (i := 12) sc__law_savings_hold.nd rfl (by first | exact .inl rfl | exact .inr rfl))) (fun _ _ _ _ _ _ => (d_tp2 (a_cons (d_blt (cr_sumT rfl) v_sumT T.z_sum (by decide +kernel) (a_cons (d_call ((f_yearly_costs T).mono (by decide)) hr hg T.M34 T.F34.kp (b_yearly_costs T) (a_cons (d_var 1 (fun q : E12__law_savings_hold => q.1.1.1.1.1.1.2.1) (c2 cI cI) (fun _ => rfl)) (a_cons (d_var 2 (fun q : E12__law_savings_hold => q.1.1.1.1.1.1.2.2.1) (c3 cI cI cI) (fun _ => rfl)) (a_cons (d_var 3 (fun q : E12__law_savings_hold => q.1.1.1.1.1.1.2.2.2.1) (cT cI) (fun _ => rfl)) (a_cons (d_var 12 (fun q : E12__law_savings_hold => q.2) (cO cI) (fun _ => rfl)) a_nil))))) a_nil)) (a_cons d_int a_nil)))) (own := [("year", 12)]) (hN := sc__law_savings_hold.nd))) a_nil)))))))) (s_one (s_ret (r := fun v (_ : E11__law_savings_hold) => v) (fun _ _ => rfl) rfl d_bl)) (by intro ε n; (repeat' (first | (intro h; nomatch h) | split))) (s_cons (s_asgT (d_call ((f_best_year T).mono (by decide)) hr hg T.M36 T.F36.kp (b_best_year T) (a_cons (d_var 1 (fun q : E11__law_savings_hold => q.1.1.1.1.1.2.1) (c2 cI cI) (fun _ => rfl)) (a_cons (d_var 2 (fun q : E11__law_savings_hold => q.1.1.1.1.1.2.2.1) (c3 cI cI cI) (fun _ => rfl)) (a_cons (d_var 3 (fun q : E11__law_savings_hold => q.1.1.1.1.1.2.2.2.1) (cT cI) (fun _ => rfl)) (a_cons (d_var 4 (fun q : E11__law_savings_hold => q.1.1.1.1.1.2.2.2.2) (c2 cI cI) (fun _ => rfl)) a_nil))))) (pg_tup rfl (pgs_cons (pg_name (i := 11) sc__law_savings_hold.nd rfl (by first | exact .inl rfl | exact .inr rfl)) (pgs_cons (pg_name (i := 12) sc__law_savings_hold.nd rfl (by first | exact .inl rfl | exact .inr rfl)) pgs_nil))) (tg_pair 11 12)) (s_one (s_ret (r := fun v (_ : E13__law_savings_hold) => v) (fun _ _ => rfl) rfl (d_and (d_call ((f__law_same_Q T).mono (by decide)) hr hg T.M46 T.F46.kp (b__law_same T) (a_cons (d_var 11 (fun q : E13__law_savings_hold => q.2.1) (c2 cI cI) (fun _ => rfl)) (a_cons (d_ix ix_list v_ixL (d_var 6 (fun q : E13__law_savings_hold => q.1.1.1.1.2) (cL (c2 cI cI)) (fun _ => rfl)) (d_index (Nat.lt_of_le_of_lt (Nat.add_le_add_left (by decide) _) (room_un hr)) (d_var 5 (fun q : E13__law_savings_hold => q.1.1.1.1.1.2) (cL (cO cI)) (fun _ => rfl)) (d_var 12 (fun q : E13__law_savings_hold => q.2.2) (cO cI) (fun _ => rfl)) rfl)) a_nil))) (d_one ((d_cmp op_isN v_isN (d_call ((f_accept_year T).mono (by decide)) hr hg T.M38 T.F38.kp (b_accept_year T) (a_cons (d_var 1 (fun q : E13__law_savings_hold => q.1.1.1.1.1.1.2.1) (c2 cI cI) (fun _ => rfl)) (a_cons (d_var 2 (fun q : E13__law_savings_hold => q.1.1.1.1.1.1.2.2.1) (c3 cI cI cI) (fun _ => rfl)) (a_cons (d_var 3 (fun q : E13__law_savings_hold => q.1.1.1.1.1.1.2.2.2.1) (cT cI) (fun _ => rfl)) (a_cons (d_var 4 (fun q : E13__law_savings_hold => q.1.1.1.1.1.1.2.2.2.2) (c2 cI cI) (fun _ => rfl)) (a_cons (d_var 12 (fun q : E13__law_savings_hold => q.2.2) (cO cI) (fun _ => rfl)) (a_cons (d_ty call_tuple_of (v_tuple sq_L) T.z_tuple (by decide +kernel) (a_cons (d_var 6 (fun q : E13__law_savings_hold => q.1.1.1.1.2) (cL (c2 cI cI)) (fun _ => rfl)) a_nil)) a_nil))))))) d_non (nomark _))))))))))))))))
    exact dss_eq key (by kernel_rfl) (by kernel_rfl)) (fun _ h => h) (fun a _ => ends_ret (fun r => r) (fun _ => rfl) (o__law_savings_hold a))
abbrev E0__law_within : Type := Int × ((Option Int) × (Option Int)) × Unit
def o__law_within (a : E0__law_within) : Out Empty (Bool) Empty :=
  (let many := a.1; let told := a.2.1; (Out.rt (((!(told.1).isNone) && ((decide ((told.1.getD default) ≤ many)) && ((told.2).isNone || (decide (many ≤ (told.2.getD default)))))))))
def m__law_within (a : E0__law_within) : Bool := (o__law_within a).ret
def g__law_within (a : E0__law_within) : Prop :=
  (let many := a.1; let told := a.2.1; ((True ∧ True ∧ True) ∧ ((!(told.1).isNone) = true → (((True ∧ ((cO cI) told.1 = cI (told.1.getD default))) ∧ True ∧ True) ∧ ((decide ((told.1.getD default) ≤ many)) = true → ((True ∧ True ∧ True) ∧ ((told.2).isNone = false → (True ∧ (True ∧ ((cO cI) told.2 = cI (told.2.getD default))) ∧ True))))))))
theorem sc__law_within : FnScope ["many", "told"] ["many", "told"] (defScope (topS 54)) := ⟨rfl, rfl, rfl, by decide +kernel, rfl, by decide +kernel, by decide +kernel⟩
theorem b__law_within {K : Y.Frag} {mg : Str → Option Value} {ad : Nat → Addr} {fd : Nat → FuncData} (T : Tx K mg ad fd) : Binds K (fd 54) ["many", "told"] [] := T.F54.binds (ps := ["many", "told"]) fun _ _ _ _ _ _ us hl => match us, hl with | [_, _], _ => rfl
theorem f__law_within {P : Program} {w : World} {K : Y.Frag} {mg : Str → Option Value} {base : Heap} {ad : Nat → Addr} {fd : Nat → FuncData} (T : Tx K mg ad fd) : FnG P w K mg base 1 (ad 54) (fd 54) ["many", "told"] (spP K (ac cI (ac (c2 (cO cI) (cO cI)) an)) cB g__law_within m__law_within) :=
  fn_pure T.F54 sc__law_within 0 (fun _ => rfl) rfl (owS := []) (ow' := []) (ΓS := fun _ : Empty => []) (Γ' := fun _ : Empty => []) (cr := cB) (ci := fun _ => []) (G := g__law_within) (d := o__law_within) (fun A0 cdv A outer s H E hr hg => by
    have hu : (A.deeper (envOfC _ (defScope (topS 54)) s.heap.objs.size _ cdv)).units + 64 < cLine := Nat.lt_of_le_of_lt (Nat.add_le_add_left (by decide) _) (room_un hr)
    have key : Dss (XF P w K mg base ["many", "told"] "_law_within" (topS 54) (ad 54) cdv A outer s H E) ⟨A0, [], none⟩ [] (fun a : E0__law_within => ((ac cI (ac (c2 (cO cI) (cO cI)) an)) a).map some ++ List.replicate 0 none) cB (fun _ => []) [] (fun _ : Empty => []) (defBody (topS 54)) _ _ [] (fun _ : Empty => []) := (s_one (s_ret (r := fun v (_ : E0__law_within) => v) (fun _ _ => rfl) rfl (d_and ((d_cmp op_notN (v_notO (fun _ => by intro h; cases h)) (d_prj 0 (fun x : (Option Int) × (Option Int) => x.1) (cb := (cO cI)) (fun _ => ⟨_, rfl, rfl⟩) (d_var 1 (fun q : E0__law_within => q.2.1) (c2 (cO cI) (cO cI)) (fun _ => rfl)) d_int) d_non (nomark _))) (d_and (d_cmp op_le v_le (De.cast (c' := cI) (fun x : Option Int => x.getD default) (d_prj 0 (fun x : (Option Int) × (Option Int) => x.1) (cb := (cO cI)) (fun _ => ⟨_, rfl, rfl⟩) (d_var 1 (fun q : E0__law_within => q.2.1) (c2 (cO cI) (cO cI)) (fun _ => rfl)) d_int)) (d_var 0 (fun q : E0__law_within => q.1) cI (fun _ => rfl)) (nomark _)) (d_one (d_or ((d_cmp op_isN (v_isO (fun _ => by intro h; cases h)) (d_prj 1 (fun x : (Option Int) × (Option Int) => x.2) (cb := (cO cI)) (fun _ => ⟨_, rfl, rfl⟩) (d_var 1 (fun q : E0__law_within => q.2.1) (c2 (cO cI) (cO cI)) (fun _ => rfl)) d_int) d_non (nomark _))) (d_one (d_cmp op_le v_le (d_var 0 (fun q : E0__law_within => q.1) cI (fun _ => rfl)) (De.cast (c' := cI) (fun x : Option Int => x.getD default) (d_prj 1 (fun x : (Option Int) × (Option Int) => x.2) (cb := (cO cI)) (fun _ => ⟨_, rfl, rfl⟩) (d_var 1 (fun q : E0__law_within => q.2.1) (c2 (cO cI) (cO cI)) (fun _ => rfl)) d_int)) (nomark _)))))))))
    exact dss_eq key (by kernel_rfl) (by kernel_rfl)) (fun _ h => h) (fun a _ => ends_ret (fun r => r) (fun _ => rfl) (o__law_within a))
abbrev E0__law_parts_hold : Type := (((Int × Int) × (Int × Int × Int) × (List Int) × (Int × Int)) × Unit) × St4
abbrev E1__law_parts_hold : Type := E0__law_parts_hold × ((Int × Int) × (Int × Int × Int) × (List Int) × (Int × Int))
abbrev E2__law_parts_hold : Type := E1__law_parts_hold × Int
abbrev E3__law_parts_hold : Type := E2__law_parts_hold × (Int × Int)
abbrev E4__law_parts_hold : Type := Unit
abbrev E5__law_parts_hold : Type := E3__law_parts_hold × E4__law_parts_hold
abbrev E6__law_parts_hold : Type := E3__law_parts_hold × (Int × Int)
def bt1__law_parts_hold (state6 : St4) (ferry8 : Int × Int) (bridge9 : Int × Int × Int) (traffic10 : List Int) (rate11 : Int × Int) (cut12 : Int) (whole13 : Int × Int) : Out E4__law_parts_hold ((Bool) × St4) Empty :=
  (let rest_14 : Int × Int := (m__law_mul ((m_whole_cost (ferry8, bridge9, (cut traffic10 (some cut12) none), rate11, (none : Option Int), ())), (m__law_power (rate11, cut12, ())), ())); (if (!((m__law_same_Q ((m__law_plus ((m_whole_cost (ferry8, bridge9, (cut traffic10 none (some cut12)), rate11, (none : Option Int), ())), rest_14, ())), whole13, ())))) = true then (Out.rt (false, state6)) else (Out.nx (()))))
def bgt1__law_parts_hold (state6 : St4) (ferry8 : Int × Int) (bridge9 : Int × Int × Int) (traffic10 : List Int) (rate11 : Int × Int) (cut12 : Int) (whole13 : Int × Int) : Prop :=
  (((((True ∧ (True ∧ ((True ∧ True ∧ True) ∧ (True ∧ (True ∧ True))))) ∧ (g_whole_cost (ferry8, bridge9, (cut traffic10 (some cut12) none), rate11, (none : Option Int), ()))) ∧ (((True ∧ (True ∧ True)) ∧ (g__law_power (rate11, cut12, ()))) ∧ True)) ∧ (g__law_mul ((m_whole_cost (ferry8, bridge9, (cut traffic10 (some cut12) none), rate11, (none : Option Int), ())), (m__law_power (rate11, cut12, ())), ()))) ∧ (let rest_14 : Int × Int := (m__law_mul ((m_whole_cost (ferry8, bridge9, (cut traffic10 (some cut12) none), rate11, (none : Option Int), ())), (m__law_power (rate11, cut12, ())), ())); (((((((True ∧ (True ∧ ((True ∧ True ∧ True) ∧ (True ∧ (True ∧ True))))) ∧ (g_whole_cost (ferry8, bridge9, (cut traffic10 none (some cut12)), rate11, (none : Option Int), ()))) ∧ (True ∧ True)) ∧ (g__law_plus ((m_whole_cost (ferry8, bridge9, (cut traffic10 none (some cut12)), rate11, (none : Option Int), ())), rest_14, ()))) ∧ (True ∧ True)) ∧ (g__law_same_Q ((m__law_plus ((m_whole_cost (ferry8, bridge9, (cut traffic10 none (some cut12)), rate11, (none : Option Int), ())), rest_14, ())), whole13, ()))) ∧ ((!((m__law_same_Q ((m__law_plus ((m_whole_cost (ferry8, bridge9, (cut traffic10 none (some cut12)), rate11, (none : Option Int), ())), rest_14, ())), whole13, ())))) = true → True) ∧ ((!((m__law_same_Q ((m__law_plus ((m_whole_cost (ferry8, bridge9, (cut traffic10 none (some cut12)), rate11, (none : Option Int), ())), rest_14, ())), whole13, ())))) = false → True))))
def be1__law_parts_hold : Out E4__law_parts_hold ((Bool) × St4) Empty :=
  (Out.nx (()))
def bge1__law_parts_hold : Prop :=
  True
abbrev E7__law_parts_hold : Type := E5__law_parts_hold × Int
abbrev E8__law_parts_hold : Type := E7__law_parts_hold × Int
abbrev E9__law_parts_hold : Type := E7__law_parts_hold × ((List Int) × (List Int))
abbrev E10__law_parts_hold : Type := E9__law_parts_hold × (PySem.Str × PyData)
abbrev E11__law_parts_hold : Type := E10__law_parts_hold × ((Int × Int) × (Option Int))
abbrev E12__law_parts_hold : Type := E11__law_parts_hold × (PySem.Str × PyData)
abbrev E13__law_parts_hold : Type := E12__law_parts_hold × (Int × Int)
abbrev E14__law_parts_hold : Type := E13__law_parts_hold × Int
def o__law_parts_hold (a : E0__law_parts_hold) : Out Empty ((Bool) × St4) Empty :=
  (let case := a.1.1; (let u1 : (Int × Int) × (Int × Int × Int) × (List Int) × (Int × Int) := case; (let r2 := m__law_draw ((((u1.2.2.1).length : Int), ()), a.2); (let cut3 : Int := r2.1; let whole4 : Int × Int := (m_whole_cost (u1.1, u1.2.1, u1.2.2.1, u1.2.2.2, (none : Option Int), ())); ((if (decide ((0 : Int) < cut3)) = true then (bt1__law_parts_hold r2.2 u1.1 u1.2.1 u1.2.2.1 u1.2.2.2 cut3 whole4) else be1__law_parts_hold).bind (fun j15 : E4__law_parts_hold => (let r16 := m__law_draw (((9 : Int), ()), r2.2); (let more17 : Int := ((2 : Int) + r16.1); (let much20 : (List Int) × (List Int) := ((([u1.1.1, u1.1.2]).map fun x18 => (x18 * more17)), (([u1.2.1.1, u1.2.1.2.1, u1.2.1.2.2]).map fun x19 => (x19 * more17))); (let told21 : PySem.Str × PyData := (m_judge_worth (u1.1, u1.2.1, u1.2.2.1, u1.2.2.2, ())); let best22 : (Int × Int) × (Option Int) := (m_best_year (u1.1, u1.2.1, u1.2.2.1, u1.2.2.2, ())); (let due23 : PySem.Str × PyData := (if (decide (told21.1 = (PySem.Str.ofString "bridge"))) = true then told21 else ((((PySem.Str.ofString "ferry"), (m__law_mul (((as2 asI asI) told21.2), (more17, (1 : Int)), ())))).1, ((c2 cI cI) (((PySem.Str.ofString "ferry"), (m__law_mul (((as2 asI asI) told21.2), (more17, (1 : Int)), ())))).2))); (if (!((m__law_same_X ([((c2 cS cD) ((m_judge_worth ((fx2 much20.1), (fx3 much20.2), u1.2.2.1, u1.2.2.2, ())))), ((c2 (c2 cI cI) (cO cI)) ((m_best_year ((fx2 much20.1), (fx3 much20.2), u1.2.2.1, u1.2.2.2, ()))))], [((c2 cS cD) due23), ((c2 (c2 cI cI) (cO cI)) (((m__law_mul (best22.1, (more17, (1 : Int)), ())), best22.2)))], ())))) = true then (Out.rt (false, r16.2)) else (if (!((m__law_same_X ([((c2 (cO cI) (cO cI)) ((m_from_zero ((fx2 much20.1), (fx3 much20.2), ())))), ((cO cI) ((m_break_even ((fx2 much20.1), (fx3 much20.2), ()))))], [((c2 (cO cI) (cO cI)) ((m_from_zero (u1.1, u1.2.1, ())))), ((cO cI) ((m_break_even (u1.1, u1.2.1, ()))))], ())))) = true then (Out.rt (false, r16.2)) else (let one24 : Int × Int := (u1.2.1.2.1, u1.2.1.2.2); (Out.rt ((!(!(((((rng 0 ((70 : Int)))).filter fun x25 => (!decide ((decide ((one24.1 + (x25 * one24.2)) ≤ (u1.1.1 + (x25 * u1.1.2)))) = (m__law_within (x25, (m_from_zero (u1.1, u1.2.1, ())), ()))))).map fun x25 => x25)).isEmpty)), r16.2))))))))))))))))
def m__law_parts_hold (a : E0__law_parts_hold) : (Bool) × St4 := (o__law_parts_hold a).ret
def g__law_parts_hold (a : E0__law_parts_hold) : Prop :=
  (let case := a.1.1; (True ∧ (let u1 : (Int × Int) × (Int × Int × Int) × (List Int) × (Int × Int) := case; (let r2 := m__law_draw ((((u1.2.2.1).length : Int), ()), a.2); ((((((True ∧ True) ∧ True) ∧ True) ∧ (g__law_draw ((((u1.2.2.1).length : Int), ()), a.2))) ∧ (((True ∧ (True ∧ (True ∧ (True ∧ (True ∧ True))))) ∧ (g_whole_cost (u1.1, u1.2.1, u1.2.2.1, u1.2.2.2, (none : Option Int), ()))) ∧ True)) ∧ (let cut3 : Int := r2.1; let whole4 : Int × Int := (m_whole_cost (u1.1, u1.2.1, u1.2.2.1, u1.2.2.2, (none : Option Int), ())); (((True ∧ True ∧ True) ∧ ((decide ((0 : Int) < cut3)) = true → (bgt1__law_parts_hold r2.2 u1.1 u1.2.1 u1.2.2.1 u1.2.2.2 cut3 whole4)) ∧ ((decide ((0 : Int) < cut3)) = false → bge1__law_parts_hold)) ∧ (∀ j15 : E4__law_parts_hold, (if (decide ((0 : Int) < cut3)) = true then (bt1__law_parts_hold r2.2 u1.1 u1.2.1 u1.2.2.1 u1.2.2.2 cut3 whole4) else be1__law_parts_hold) = Out.nx (S := Empty) j15 → (let r16 := m__law_draw (((9 : Int), ()), r2.2); ((True ∧ ((True ∧ True) ∧ (g__law_draw (((9 : Int), ()), r2.2))) ∧ True) ∧ (let more17 : Int := ((2 : Int) + r16.1); (((((True ∧ (∀ x18 ∈ [u1.1.1, u1.1.2], (True ∧ True ∧ (CMul x18 more17)))) ∧ True) ∧ True) ∧ ((((True ∧ (∀ x19 ∈ [u1.2.1.1, u1.2.1.2.1, u1.2.1.2.2], (True ∧ True ∧ (CMul x19 more17)))) ∧ True) ∧ True) ∧ True)) ∧ (let much20 : (List Int) × (List Int) := ((([u1.1.1, u1.1.2]).map fun x18 => (x18 * more17)), (([u1.2.1.1, u1.2.1.2.1, u1.2.1.2.2]).map fun x19 => (x19 * more17))); ((((True ∧ (True ∧ (True ∧ (True ∧ True)))) ∧ (g_judge_worth (u1.1, u1.2.1, u1.2.2.1, u1.2.2.2, ()))) ∧ (((True ∧ (True ∧ (True ∧ (True ∧ True)))) ∧ (g_best_year (u1.1, u1.2.1, u1.2.2.1, u1.2.2.2, ()))) ∧ True)) ∧ (let told21 : PySem.Str × PyData := (m_judge_worth (u1.1, u1.2.1, u1.2.2.1, u1.2.2.2, ())); let best22 : (Int × Int) × (Option Int) := (m_best_year (u1.1, u1.2.1, u1.2.2.1, u1.2.2.2, ())); (((True ∧ True ∧ True) ∧ ((decide (told21.1 = (PySem.Str.ofString "bridge"))) = true → True) ∧ ((decide (told21.1 = (PySem.Str.ofString "bridge"))) = false → (True ∧ ((((True ∧ (told21.2 = (c2 cI cI) ((as2 asI asI) told21.2))) ∧ ((True ∧ (True ∧ True)) ∧ True)) ∧ (g__law_mul (((as2 asI asI) told21.2), (more17, (1 : Int)), ()))) ∧ True)))) ∧ (let due23 : PySem.Str × PyData := (if (decide (told21.1 = (PySem.Str.ofString "bridge"))) = true then told21 else ((((PySem.Str.ofString "ferry"), (m__law_mul (((as2 asI asI) told21.2), (more17, (1 : Int)), ())))).1, ((c2 cI cI) (((PySem.Str.ofString "ferry"), (m__law_mul (((as2 asI asI) told21.2), (more17, (1 : Int)), ())))).2))); (((((((True ∧ ((cT cI) much20.1 = (c2 cI cI) (fx2 much20.1))) ∧ ((True ∧ ((cT cI) much20.2 = (c3 cI cI cI) (fx3 much20.2))) ∧ (True ∧ (True ∧ True)))) ∧ (g_judge_worth ((fx2 much20.1), (fx3 much20.2), u1.2.2.1, u1.2.2.2, ()))) ∧ ((((True ∧ ((cT cI) much20.1 = (c2 cI cI) (fx2 much20.1))) ∧ ((True ∧ ((cT cI) much20.2 = (c3 cI cI cI) (fx3 much20.2))) ∧ (True ∧ (True ∧ True)))) ∧ (g_best_year ((fx2 much20.1), (fx3 much20.2), u1.2.2.1, u1.2.2.2, ()))) ∧ True)) ∧ ((True ∧ ((((True ∧ ((True ∧ (True ∧ True)) ∧ True)) ∧ (g__law_mul (best22.1, (more17, (1 : Int)), ()))) ∧ (True ∧ True)) ∧ True)) ∧ True)) ∧ (g__law_same_X ([((c2 cS cD) ((m_judge_worth ((fx2 much20.1), (fx3 much20.2), u1.2.2.1, u1.2.2.2, ())))), ((c2 (c2 cI cI) (cO cI)) ((m_best_year ((fx2 much20.1), (fx3 much20.2), u1.2.2.1, u1.2.2.2, ()))))], [((c2 cS cD) due23), ((c2 (c2 cI cI) (cO cI)) (((m__law_mul (best22.1, (more17, (1 : Int)), ())), best22.2)))], ()))) ∧ ((!((m__law_same_X ([((c2 cS cD) ((m_judge_worth ((fx2 much20.1), (fx3 much20.2), u1.2.2.1, u1.2.2.2, ())))), ((c2 (c2 cI cI) (cO cI)) ((m_best_year ((fx2 much20.1), (fx3 much20.2), u1.2.2.1, u1.2.2.2, ()))))], [((c2 cS cD) due23), ((c2 (c2 cI cI) (cO cI)) (((m__law_mul (best22.1, (more17, (1 : Int)), ())), best22.2)))], ())))) = true → True) ∧ ((!((m__law_same_X ([((c2 cS cD) ((m_judge_worth ((fx2 much20.1), (fx3 much20.2), u1.2.2.1, u1.2.2.2, ())))), ((c2 (c2 cI cI) (cO cI)) ((m_best_year ((fx2 much20.1), (fx3 much20.2), u1.2.2.1, u1.2.2.2, ()))))], [((c2 cS cD) due23), ((c2 (c2 cI cI) (cO cI)) (((m__law_mul (best22.1, (more17, (1 : Int)), ())), best22.2)))], ())))) = false → (((((((True ∧ ((cT cI) much20.1 = (c2 cI cI) (fx2 much20.1))) ∧ ((True ∧ ((cT cI) much20.2 = (c3 cI cI cI) (fx3 much20.2))) ∧ True)) ∧ (g_from_zero ((fx2 much20.1), (fx3 much20.2), ()))) ∧ ((((True ∧ ((cT cI) much20.1 = (c2 cI cI) (fx2 much20.1))) ∧ ((True ∧ ((cT cI) much20.2 = (c3 cI cI cI) (fx3 much20.2))) ∧ True)) ∧ (g_break_even ((fx2 much20.1), (fx3 much20.2), ()))) ∧ True)) ∧ ((((True ∧ (True ∧ True)) ∧ (g_from_zero (u1.1, u1.2.1, ()))) ∧ (((True ∧ (True ∧ True)) ∧ (g_break_even (u1.1, u1.2.1, ()))) ∧ True)) ∧ True)) ∧ (g__law_same_X ([((c2 (cO cI) (cO cI)) ((m_from_zero ((fx2 much20.1), (fx3 much20.2), ())))), ((cO cI) ((m_break_even ((fx2 much20.1), (fx3 much20.2), ()))))], [((c2 (cO cI) (cO cI)) ((m_from_zero (u1.1, u1.2.1, ())))), ((cO cI) ((m_break_even (u1.1, u1.2.1, ()))))], ()))) ∧ ((!((m__law_same_X ([((c2 (cO cI) (cO cI)) ((m_from_zero ((fx2 much20.1), (fx3 much20.2), ())))), ((cO cI) ((m_break_even ((fx2 much20.1), (fx3 much20.2), ()))))], [((c2 (cO cI) (cO cI)) ((m_from_zero (u1.1, u1.2.1, ())))), ((cO cI) ((m_break_even (u1.1, u1.2.1, ()))))], ())))) = true → True) ∧ ((!((m__law_same_X ([((c2 (cO cI) (cO cI)) ((m_from_zero ((fx2 much20.1), (fx3 much20.2), ())))), ((cO cI) ((m_break_even ((fx2 much20.1), (fx3 much20.2), ()))))], [((c2 (cO cI) (cO cI)) ((m_from_zero (u1.1, u1.2.1, ())))), ((cO cI) ((m_break_even (u1.1, u1.2.1, ()))))], ())))) = false → ((True ∧ True ∧ True) ∧ (let one24 : Int × Int := (u1.2.1.2.1, u1.2.1.2.2); (((True ∧ True) ∧ (CRg 0 ((70 : Int)))) ∧ (∀ x25 ∈ (rng 0 ((70 : Int))), (((True ∧ (True ∧ True ∧ (CMul x25 u1.1.2)) ∧ True) ∧ (True ∧ (True ∧ True ∧ (CMul x25 one24.2)) ∧ True) ∧ True) ∧ ((True ∧ (((True ∧ (True ∧ True)) ∧ (g_from_zero (u1.1, u1.2.1, ()))) ∧ True)) ∧ (g__law_within (x25, (m_from_zero (u1.1, u1.2.1, ())), ()))) ∧ True) ∧ ((!decide ((decide ((one24.1 + (x25 * one24.2)) ≤ (u1.1.1 + (x25 * u1.1.2)))) = (m__law_within (x25, (m_from_zero (u1.1, u1.2.1, ())), ())))) = true → True))))))))))))))))))))))))))
theorem sc__law_parts_hold : FnScope ["state", "case", "ferry", "bridge", "traffic", "rate", "cut", "whole", "rest", "more", "much", "told", "best", "due", "one", "n", "own"] ["state", "case"] (defScope (topS 53)) := ⟨rfl, rfl, rfl, by decide +kernel, rfl, by decide +kernel, by decide +kernel⟩
theorem b__law_parts_hold {K : Y.Frag} {mg : Str → Option Value} {ad : Nat → Addr} {fd : Nat → FuncData} (T : Tx K mg ad fd) : Binds K (fd 53) ["state", "case"] [] := T.F53.binds (ps := ["state", "case"]) fun _ _ _ _ _ _ us hl => match us, hl with | [_, _], _ => rfl
theorem f__law_parts_hold {P : Program} {w : World} {K : Y.Frag} {mg : Str → Option Value} {base : Heap} {ad : Nat → Addr} {fd : Nat → FuncData} (T : Tx K mg ad fd) : FnG P w K mg base 7 (ad 53) (fd 53) ["state", "case"] (spS K (ac (c4 (c2 cI cI) (c3 cI cI cI) (cT cI) (c2 cI cI)) an) cSt cB g__law_parts_hold m__law_parts_hold) :=
  fn_state T.F53 sc__law_parts_hold 15 (fun _ => rfl) rfl (owS := []) (ow' := []) (ΓS := fun _ : Empty => []) (Γ' := fun _ : Empty => []) (cr := fun r : (Bool) × St4 => cB r.1) (ci := fun r : (Bool) × St4 => cSt r.2) (G := g__law_parts_hold) (d := o__law_parts_hold) (fun A0 p cdv A outer s H E hr hg => by
    have hu : (A.deeper (envOfC _ (defScope (topS 53)) s.heap.objs.size _ cdv)).units + 64 < cLine := Nat.lt_of_le_of_lt (Nat.add_le_add_left (by decide) _) (room_un hr)
    have key : Dss (XF P w K mg base ["state", "case", "ferry", "bridge", "traffic", "rate", "cut", "whole", "rest", "more", "much", "told", "best", "due", "one", "n", "own"] "_law_parts_hold" (topS 53) (ad 53) cdv A outer s H E) ⟨A0, [], some p⟩ [0] (fun a : E0__law_parts_hold => some (.list (cSt a.2)) :: (((ac (c4 (c2 cI cI) (c3 cI cI cI) (cT cI) (c2 cI cI)) an) a.1).map some ++ List.replicate 15 none)) (fun r : (Bool) × St4 => cB r.1) (fun r : (Bool) × St4 => cSt r.2) [] (fun _ : Empty => []) (defBody (topS 53)) _ _ [] (fun _ : Empty => []) := (s_cons (s_asgT (d_var 1 (fun q : E0__law_parts_hold => q.1.1) (c4 (c2 cI cI) (c3 cI cI cI) (cT cI) (c2 cI cI)) (fun _ => rfl)) (pg_tup rfl (pgs_cons (pg_name (i := 2) sc__law_parts_hold.nd rfl (by first | exact .inl rfl | exact .inr rfl)) (pgs_cons (pg_name (i := 3) sc__law_parts_hold.nd rfl (by first | exact .inl rfl | exact .inr rfl)) (pgs_cons (pg_name (i := 4) sc__law_parts_hold.nd rfl (by first | exact .inl rfl | exact .inr rfl)) (pgs_cons (pg_name (i := 5) sc__law_parts_hold.nd rfl (by first | exact .inl rfl | exact .inr rfl)) pgs_nil))))) (tg_four 2 3 4 5)) (s_cons (s_par 6 7 (ca := cI) (cb := (c2 cI cI)) (ga := fun x : Int × (Int × Int) × Unit => x.1) (gb := fun x : Int × (Int × Int) × Unit => x.2.1) (a_cons (d_callS 0 (fun q : E1__law_parts_hold => q.1.2) (fun (q : E1__law_parts_hold) t => ((q.1.1, t), q.2)) (fun _ => rfl) (fun _ _ => rfl) ((f__law_draw T).mono (by decide)) hr hg T.M44 T.F44.kp (b__law_draw T) (a_cons (d_blt call_len_seq (v_len sq_T) T.z_len (by decide +kernel) (a_cons (d_var 4 (fun q : E1__law_parts_hold => q.2.2.2.1) (cT cI) (fun _ => rfl)) a_nil)) a_nil)) (a_cons (d_call ((f_whole_cost T).mono (by decide)) hr hg T.M33 T.F33.kp (b_whole_cost T) (a_cons (d_var 2 (fun q : E1__law_parts_hold => q.2.1) (c2 cI cI) (fun _ => rfl)) (a_cons (d_var 3 (fun q : E1__law_parts_hold => q.2.2.1) (c3 cI cI cI) (fun _ => rfl)) (a_cons (d_var 4 (fun q : E1__law_parts_hold => q.2.2.2.1) (cT cI) (fun _ => rfl)) (a_cons (d_var 5 (fun q : E1__law_parts_hold => q.2.2.2.2) (c2 cI cI) (fun _ => rfl)) (a_cons (De.as (c := cN) (c' := (cO cI)) (g := fun x : Unit => (none : Option Int)) (fun _ => rfl) d_non) a_nil)))))) a_nil)) (fun _ => rfl) rfl (hN := sc__law_parts_hold.nd)) (s_consK (s_ifK (oa := fun q : E3__law_parts_hold => (bt1__law_parts_hold q.1.1.1.2 q.1.1.2.1 q.1.1.2.2.1 q.1.1.2.2.2.1 q.1.1.2.2.2.2 q.1.2 q.2)) (ob := fun q : E3__law_parts_hold => be1__law_parts_hold) (t_cmp op_gt v_gt (d_var 6 (fun q : E3__law_parts_hold => q.1.2) cI (fun _ => rfl)) d_int (nomark _)) (s_cons (s_asg 8 (d_call ((f__law_mul T).mono (by decide)) hr hg T.M49 T.F49.kp (b__law_mul T) (a_cons (d_call ((f_whole_cost T).mono (by decide)) hr hg T.M33 T.F33.kp (b_whole_cost T) (a_cons (d_var 2 (fun q : E3__law_parts_hold => q.1.1.2.1) (c2 cI cI) (fun _ => rfl)) (a_cons (d_var 3 (fun q : E3__law_parts_hold => q.1.1.2.2.1) (c3 cI cI cI) (fun _ => rfl)) (a_cons (d_slT (d_var 4 (fun q : E3__law_parts_hold => q.1.1.2.2.2.1) (cT cI) (fun _ => rfl)) (o_some (d_var 6 (fun q : E3__law_parts_hold => q.1.2) cI (fun _ => rfl))) o_none) (a_cons (d_var 5 (fun q : E3__law_parts_hold => q.1.1.2.2.2.2) (c2 cI cI) (fun _ => rfl)) (a_cons (De.as (c := cN) (c' := (cO cI)) (g := fun x : Unit => (none : Option Int)) (fun _ => rfl) d_non) a_nil)))))) (a_cons (d_call ((f__law_power T).mono (by decide)) hr hg T.M50 T.F50.kp (b__law_power T) (a_cons (d_var 5 (fun q : E3__law_parts_hold => q.1.1.2.2.2.2) (c2 cI cI) (fun _ => rfl)) (a_cons (d_var 6 (fun q : E3__law_parts_hold => q.1.2) cI (fun _ => rfl)) a_nil))) a_nil))) (hN := sc__law_parts_hold.nd)) (s_ifR (t_not (t_val (d_call ((f__law_same_Q T).mono (by decide)) hr hg T.M46 T.F46.kp (b__law_same T) (a_cons (d_call ((f__law_plus T).mono (by decide)) hr hg T.M48 T.F48.kp (b__law_plus T) (a_cons (d_call ((f_whole_cost T).mono (by decide)) hr hg T.M33 T.F33.kp (b_whole_cost T) (a_cons (d_var 2 (fun q : E6__law_parts_hold => q.1.1.1.2.1) (c2 cI cI) (fun _ => rfl)) (a_cons (d_var 3 (fun q : E6__law_parts_hold => q.1.1.1.2.2.1) (c3 cI cI cI) (fun _ => rfl)) (a_cons (d_slT (d_var 4 (fun q : E6__law_parts_hold => q.1.1.1.2.2.2.1) (cT cI) (fun _ => rfl)) o_none (o_some (d_var 6 (fun q : E6__law_parts_hold => q.1.1.2) cI (fun _ => rfl)))) (a_cons (d_var 5 (fun q : E6__law_parts_hold => q.1.1.1.2.2.2.2) (c2 cI cI) (fun _ => rfl)) (a_cons (De.as (c := cN) (c' := (cO cI)) (g := fun x : Unit => (none : Option Int)) (fun _ => rfl) d_non) a_nil)))))) (a_cons (d_var 8 (fun q : E6__law_parts_hold => q.2) (c2 cI cI) (fun _ => rfl)) a_nil))) (a_cons (d_var 7 (fun q : E6__law_parts_hold => q.1.2) (c2 cI cI) (fun _ => rfl)) a_nil))))) (s_one (s_retS (r := fun v (q : E6__law_parts_hold) => (v, q.1.1.1.1.2)) (fun _ _ => rfl) (fun _ _ => rfl) d_bl)) (by intro ε n; (repeat' (first | (intro h; nomatch h) | split))) (s_end (ow2 := [0]) (Γ2 := fun q : E5__law_parts_hold => [some (.list (cSt q.1.1.1.1.2)), some ((c4 (c2 cI cI) (c3 cI cI cI) (cT cI) (c2 cI cI)) q.1.1.1.1.1.1), some ((c2 cI cI) q.1.1.1.2.1), some ((c3 cI cI cI) q.1.1.1.2.2.1), some ((cT cI) q.1.1.1.2.2.2.1), some ((c2 cI cI) q.1.1.1.2.2.2.2), some (cI q.1.1.2), some ((c2 cI cI) q.1.2), none, none, none, none, none, none, none, none, none]) (fun q : E6__law_parts_hold => (q.1, ())) (fun _ _ _ _ r => r.wk (.k (.k (.k (.k (.k (.k (.k (.k (.f (.k (.k (.k (.k (.k (.k (.k (.k .nil))))))))))))))))))))) (s_end (ow2 := [0]) (Γ2 := fun q : E5__law_parts_hold => [some (.list (cSt q.1.1.1.1.2)), some ((c4 (c2 cI cI) (c3 cI cI cI) (cT cI) (c2 cI cI)) q.1.1.1.1.1.1), some ((c2 cI cI) q.1.1.1.2.1), some ((c3 cI cI cI) q.1.1.1.2.2.1), some ((cT cI) q.1.1.1.2.2.2.1), some ((c2 cI cI) q.1.1.1.2.2.2.2), some (cI q.1.1.2), some ((c2 cI cI) q.1.2), none, none, none, none, none, none, none, none, none]) (fun q : E3__law_parts_hold => (q, ())) (fun _ _ _ _ r => r)) (by intro ε; simp only [bt1__law_parts_hold, Y.keep_ite, Y.keep_bind]; try rfl) (by intro ε; simp only [be1__law_parts_hold, Y.keep_ite, Y.keep_bind]; try rfl)) (s_cons (s_asg 9 (d_op op_add v_add d_int (d_callS 0 (fun q : E5__law_parts_hold => q.1.1.1.1.2) (fun (q : E5__law_parts_hold) t => (((((q.1.1.1.1.1, t), q.1.1.1.2), q.1.1.2), q.1.2), q.2)) (fun _ => rfl) (fun _ _ => rfl) ((f__law_draw T).mono (by decide)) hr hg T.M44 T.F44.kp (b__law_draw T) (a_cons d_int a_nil))) (hN := sc__law_parts_hold.nd)) (s_cons (s_asg 10 (d_tp2 (a_cons (d_ty call_tuple_of (v_tuple sq_L) T.z_tuple (by decide +kernel) (a_cons (DL.de (d_lc0 (i_tup (De.as (c := (c2 cI cI)) (c' := (cT cI)) (g := fun x : Int × Int => [x.1, x.2]) (fun _ => rfl) (d_var 2 (fun q : E7__law_parts_hold => q.1.1.1.1.2.1) (c2 cI cI) (fun _ => rfl)))) (blkOk_by (N := ["state", "case", "ferry", "bridge", "traffic", "rate", "cut", "whole", "rest", "more", "much", "told", "best", "due", "one", "n", "own"]) (sc := defScope (topS 53)) (own := [("own", 16)]) (by decide +kernel)) (tg_name 16) (fun _ _ _ _ _ => (pg_name (i := 16) sc__law_parts_hold.nd rfl (by first | exact .inl rfl | exact .inr rfl))) (fun _ _ _ _ _ _ => (d_op op_mul v_mul (d_var 16 (fun q : E8__law_parts_hold => q.2) cI (fun _ => rfl)) (d_var 9 (fun q : E8__law_parts_hold => q.1.2) cI (fun _ => rfl)))) (own := [("own", 16)]) (hN := sc__law_parts_hold.nd))) a_nil)) (a_cons (d_ty call_tuple_of (v_tuple sq_L) T.z_tuple (by decide +kernel) (a_cons (DL.de (d_lc0 (i_tup (De.as (c := (c3 cI cI cI)) (c' := (cT cI)) (g := fun x : Int × Int × Int => [x.1, x.2.1, x.2.2]) (fun _ => rfl) (d_var 3 (fun q : E7__law_parts_hold => q.1.1.1.1.2.2.1) (c3 cI cI cI) (fun _ => rfl)))) (blkOk_by (N := ["state", "case", "ferry", "bridge", "traffic", "rate", "cut", "whole", "rest", "more", "much", "told", "best", "due", "one", "n", "own"]) (sc := defScope (topS 53)) (own := [("own", 16)]) (by decide +kernel)) (tg_name 16) (fun _ _ _ _ _ => (pg_name (i := 16) sc__law_parts_hold.nd rfl (by first | exact .inl rfl | exact .inr rfl))) (fun _ _ _ _ _ _ => (d_op op_mul v_mul (d_var 16 (fun q : E8__law_parts_hold => q.2) cI (fun _ => rfl)) (d_var 9 (fun q : E8__law_parts_hold => q.1.2) cI (fun _ => rfl)))) (own := [("own", 16)]) (hN := sc__law_parts_hold.nd))) a_nil)) a_nil))) (hN := sc__law_parts_hold.nd)) (s_cons (s_par 11 12 (ca := (c2 cS cD)) (cb := (c2 (c2 cI cI) (cO cI))) (ga := fun x : (PySem.Str × PyData) × ((Int × Int) × (Option Int)) × Unit => x.1) (gb := fun x : (PySem.Str × PyData) × ((Int × Int) × (Option Int)) × Unit => x.2.1) (a_cons (d_call ((f_judge_worth T).mono (by decide)) hr hg T.M35 T.F35.kp (b_judge_worth T) (a_cons (d_var 2 (fun q : E9__law_parts_hold => q.1.1.1.1.1.2.1) (c2 cI cI) (fun _ => rfl)) (a_cons (d_var 3 (fun q : E9__law_parts_hold => q.1.1.1.1.1.2.2.1) (c3 cI cI cI) (fun _ => rfl)) (a_cons (d_var 4 (fun q : E9__law_parts_hold => q.1.1.1.1.1.2.2.2.1) (cT cI) (fun _ => rfl)) (a_cons (d_var 5 (fun q : E9__law_parts_hold => q.1.1.1.1.1.2.2.2.2) (c2 cI cI) (fun _ => rfl)) a_nil))))) (a_cons (d_call ((f_best_year T).mono (by decide)) hr hg T.M36 T.F36.kp (b_best_year T) (a_cons (d_var 2 (fun q : E9__law_parts_hold => q.1.1.1.1.1.2.1) (c2 cI cI) (fun _ => rfl)) (a_cons (d_var 3 (fun q : E9__law_parts_hold => q.1.1.1.1.1.2.2.1) (c3 cI cI cI) (fun _ => rfl)) (a_cons (d_var 4 (fun q : E9__law_parts_hold => q.1.1.1.1.1.2.2.2.1) (cT cI) (fun _ => rfl)) (a_cons (d_var 5 (fun q : E9__law_parts_hold => q.1.1.1.1.1.2.2.2.2) (c2 cI cI) (fun _ => rfl)) a_nil))))) a_nil)) (fun _ => rfl) rfl (hN := sc__law_parts_hold.nd)) (s_cons (s_asg 13 (d_if (t_cmp op_eq v_eqS (d_prj 0 (fun x : PySem.Str × PyData => x.1) (cb := cS) (fun _ => ⟨_, rfl, rfl⟩) (d_var 11 (fun q : E11__law_parts_hold => q.1.2) (c2 cS cD) (fun _ => rfl)) d_int) d_str (nomark _)) (d_var 11 (fun q : E11__law_parts_hold => q.1.2) (c2 cS cD) (fun _ => rfl)) (De.as (c := (c2 cS (c2 cI cI))) (c' := (c2 cS cD)) (g := fun x : PySem.Str × (Int × Int) => (x.1, ((c2 cI cI) x.2))) (fun _ => rfl) (d_tp2 (a_cons d_str (a_cons (d_call ((f__law_mul T).mono (by decide)) hr hg T.M49 T.F49.kp (b__law_mul T) (a_cons (De.cast (c' := (c2 cI cI)) (as2 asI asI) (d_prj 1 (fun x : PySem.Str × PyData => x.2) (cb := cD) (fun _ => ⟨_, rfl, rfl⟩) (d_var 11 (fun q : E11__law_parts_hold => q.1.2) (c2 cS cD) (fun _ => rfl)) d_int)) (a_cons (d_tp2 (a_cons (d_var 9 (fun q : E11__law_parts_hold => q.1.1.1.2) cI (fun _ => rfl)) (a_cons d_int a_nil))) a_nil))) a_nil))))) (hN := sc__law_parts_hold.nd)) (s_ifR (t_not (t_val (d_call ((f__law_same_X T).mono (by decide)) hr hg T.M46 T.F46.kp (b__law_same T) (a_cons (DL.de (l_disp (c := cD) (g := fun x : PyData × PyData × Unit => [x.1, x.2.1]) (fun _ => rfl) (fun _ => Nat.le_of_ble_eq_true rfl) (a_cons (De.as (c := (c2 cS cD)) (c' := cD) (g := fun x : PySem.Str × PyData => ((c2 cS cD) x)) (fun _ => rfl) (d_call ((f_judge_worth T).mono (by decide)) hr hg T.M35 T.F35.kp (b_judge_worth T) (a_cons (De.cast (c' := (c2 cI cI)) fx2 (d_prj 0 (fun x : (List Int) × (List Int) => x.1) (cb := (cT cI)) (fun _ => ⟨_, rfl, rfl⟩) (d_var 10 (fun q : E12__law_parts_hold => q.1.1.1.2) (c2 (cT cI) (cT cI)) (fun _ => rfl)) d_int)) (a_cons (De.cast (c' := (c3 cI cI cI)) fx3 (d_prj 1 (fun x : (List Int) × (List Int) => x.2) (cb := (cT cI)) (fun _ => ⟨_, rfl, rfl⟩) (d_var 10 (fun q : E12__law_parts_hold => q.1.1.1.2) (c2 (cT cI) (cT cI)) (fun _ => rfl)) d_int)) (a_cons (d_var 4 (fun q : E12__law_parts_hold => q.1.1.1.1.1.1.1.1.2.2.2.1) (cT cI) (fun _ => rfl)) (a_cons (d_var 5 (fun q : E12__law_parts_hold => q.1.1.1.1.1.1.1.1.2.2.2.2) (c2 cI cI) (fun _ => rfl)) a_nil)))))) (a_cons (De.as (c := (c2 (c2 cI cI) (cO cI))) (c' := cD) (g := fun x : (Int × Int) × (Option Int) => ((c2 (c2 cI cI) (cO cI)) x)) (fun _ => rfl) (d_call ((f_best_year T).mono (by decide)) hr hg T.M36 T.F36.kp (b_best_year T) (a_cons (De.cast (c' := (c2 cI cI)) fx2 (d_prj 0 (fun x : (List Int) × (List Int) => x.1) (cb := (cT cI)) (fun _ => ⟨_, rfl, rfl⟩) (d_var 10 (fun q : E12__law_parts_hold => q.1.1.1.2) (c2 (cT cI) (cT cI)) (fun _ => rfl)) d_int)) (a_cons (De.cast (c' := (c3 cI cI cI)) fx3 (d_prj 1 (fun x : (List Int) × (List Int) => x.2) (cb := (cT cI)) (fun _ => ⟨_, rfl, rfl⟩) (d_var 10 (fun q : E12__law_parts_hold => q.1.1.1.2) (c2 (cT cI) (cT cI)) (fun _ => rfl)) d_int)) (a_cons (d_var 4 (fun q : E12__law_parts_hold => q.1.1.1.1.1.1.1.1.2.2.2.1) (cT cI) (fun _ => rfl)) (a_cons (d_var 5 (fun q : E12__law_parts_hold => q.1.1.1.1.1.1.1.1.2.2.2.2) (c2 cI cI) (fun _ => rfl)) a_nil)))))) a_nil)))) (a_cons (DL.de (l_disp (c := cD) (g := fun x : PyData × PyData × Unit => [x.1, x.2.1]) (fun _ => rfl) (fun _ => Nat.le_of_ble_eq_true rfl) (a_cons (De.as (c := (c2 cS cD)) (c' := cD) (g := fun x : PySem.Str × PyData => ((c2 cS cD) x)) (fun _ => rfl) (d_var 13 (fun q : E12__law_parts_hold => q.2) (c2 cS cD) (fun _ => rfl))) (a_cons (De.as (c := (c2 (c2 cI cI) (cO cI))) (c' := cD) (g := fun x : (Int × Int) × (Option Int) => ((c2 (c2 cI cI) (cO cI)) x)) (fun _ => rfl) (d_tp2 (a_cons (d_call ((f__law_mul T).mono (by decide)) hr hg T.M49 T.F49.kp (b__law_mul T) (a_cons (d_prj 0 (fun x : (Int × Int) × (Option Int) => x.1) (cb := (c2 cI cI)) (fun _ => ⟨_, rfl, rfl⟩) (d_var 12 (fun q : E12__law_parts_hold => q.1.2) (c2 (c2 cI cI) (cO cI)) (fun _ => rfl)) d_int) (a_cons (d_tp2 (a_cons (d_var 9 (fun q : E12__law_parts_hold => q.1.1.1.1.2) cI (fun _ => rfl)) (a_cons d_int a_nil))) a_nil))) (a_cons (d_prj 1 (fun x : (Int × Int) × (Option Int) => x.2) (cb := (cO cI)) (fun _ => ⟨_, rfl, rfl⟩) (d_var 12 (fun q : E12__law_parts_hold => q.1.2) (c2 (c2 cI cI) (cO cI)) (fun _ => rfl)) d_int) a_nil)))) a_nil)))) a_nil))))) (s_one (s_retS (r := fun v (q : E12__law_parts_hold) => (v, q.1.1.1.1.1.1.1.1.1.2)) (fun _ _ => rfl) (fun _ _ => rfl) d_bl)) (by intro ε n; (repeat' (first | (intro h; nomatch h) | split))) (s_ifR (t_not (t_val (d_call ((f__law_same_X T).mono (by decide)) hr hg T.M46 T.F46.kp (b__law_same T) (a_cons (DL.de (l_disp (c := cD) (g := fun x : PyData × PyData × Unit => [x.1, x.2.1]) (fun _ => rfl) (fun _ => Nat.le_of_ble_eq_true rfl) (a_cons (De.as (c := (c2 (cO cI) (cO cI))) (c' := cD) (g := fun x : (Option Int) × (Option Int) => ((c2 (cO cI) (cO cI)) x)) (fun _ => rfl) (d_call ((f_from_zero T).mono (by decide)) hr hg T.M27 T.F27.kp (b_from_zero T) (a_cons (De.cast (c' := (c2 cI cI)) fx2 (d_prj 0 (fun x : (List Int) × (List Int) => x.1) (cb := (cT cI)) (fun _ => ⟨_, rfl, rfl⟩) (d_var 10 (fun q : E12__law_parts_hold => q.1.1.1.2) (c2 (cT cI) (cT cI)) (fun _ => rfl)) d_int)) (a_cons (De.cast (c' := (c3 cI cI cI)) fx3 (d_prj 1 (fun x : (List Int) × (List Int) => x.2) (cb := (cT cI)) (fun _ => ⟨_, rfl, rfl⟩) (d_var 10 (fun q : E12__law_parts_hold => q.1.1.1.2) (c2 (cT cI) (cT cI)) (fun _ => rfl)) d_int)) a_nil)))) (a_cons (De.as (c := (cO cI)) (c' := cD) (g := fun x : Option Int => ((cO cI) x)) (fun _ => rfl) (d_call ((f_break_even T).mono (by decide)) hr hg T.M26 T.F26.kp (b_break_even T) (a_cons (De.cast (c' := (c2 cI cI)) fx2 (d_prj 0 (fun x : (List Int) × (List Int) => x.1) (cb := (cT cI)) (fun _ => ⟨_, rfl, rfl⟩) (d_var 10 (fun q : E12__law_parts_hold => q.1.1.1.2) (c2 (cT cI) (cT cI)) (fun _ => rfl)) d_int)) (a_cons (De.cast (c' := (c3 cI cI cI)) fx3 (d_prj 1 (fun x : (List Int) × (List Int) => x.2) (cb := (cT cI)) (fun _ => ⟨_, rfl, rfl⟩) (d_var 10 (fun q : E12__law_parts_hold => q.1.1.1.2) (c2 (cT cI) (cT cI)) (fun _ => rfl)) d_int)) a_nil)))) a_nil)))) (a_cons (DL.de (l_disp (c := cD) (g := fun x : PyData × PyData × Unit => [x.1, x.2.1]) (fun _ => rfl) (fun _ => Nat.le_of_ble_eq_true rfl) (a_cons (De.as (c := (c2 (cO cI) (cO cI))) (c' := cD) (g := fun x : (Option Int) × (Option Int) => ((c2 (cO cI) (cO cI)) x)) (fun _ => rfl) (d_call ((f_from_zero T).mono (by decide)) hr hg T.M27 T.F27.kp (b_from_zero T) (a_cons (d_var 2 (fun q : E12__law_parts_hold => q.1.1.1.1.1.1.1.1.2.1) (c2 cI cI) (fun _ => rfl)) (a_cons (d_var 3 (fun q : E12__law_parts_hold => q.1.1.1.1.1.1.1.1.2.2.1) (c3 cI cI cI) (fun _ => rfl)) a_nil)))) (a_cons (De.as (c := (cO cI)) (c' := cD) (g := fun x : Option Int => ((cO cI) x)) (fun _ => rfl) (d_call ((f_break_even T).mono (by decide)) hr hg T.M26 T.F26.kp (b_break_even T) (a_cons (d_var 2 (fun q : E12__law_parts_hold => q.1.1.1.1.1.1.1.1.2.1) (c2 cI cI) (fun _ => rfl)) (a_cons (d_var 3 (fun q : E12__law_parts_hold => q.1.1.1.1.1.1.1.1.2.2.1) (c3 cI cI cI) (fun _ => rfl)) a_nil)))) a_nil)))) a_nil))))) (s_one (s_retS (r := fun v (q : E12__law_parts_hold) => (v, q.1.1.1.1.1.1.1.1.1.2)) (fun _ _ => rfl) (fun _ _ => rfl) d_bl)) (by intro ε n; (repeat' (first | (intro h; nomatch h) | split))) (s_cons (s_asg 14 (De.asD (c' := (c2 cI cI)) fx2 (d_slT (De.as (c := (c3 cI cI cI)) (c' := (cT cI)) (g := fun x : Int × Int × Int => [x.1, x.2.1, x.2.2]) (fun _ => rfl) (d_var 3 (fun q : E12__law_parts_hold => q.1.1.1.1.1.1.1.1.2.2.1) (c3 cI cI cI) (fun _ => rfl))) (o_some d_int) o_none) (fun _ => rfl)) (hN := sc__law_parts_hold.nd)) (s_one (s_retS (r := fun v (q : E13__law_parts_hold) => (v, q.1.1.1.1.1.1.1.1.1.1.2)) (fun _ _ => rfl) (fun _ _ => rfl) (d_notT (DL.de (d_lc (i_rng1 (a_cons d_int a_nil) T.z_range) (blkOk_by (N := ["state", "case", "ferry", "bridge", "traffic", "rate", "cut", "whole", "rest", "more", "much", "told", "best", "due", "one", "n", "own"]) (sc := defScope (topS 53)) (own := [("n", 15)]) (by decide +kernel)) (tg_name 15) (fun _ _ _ _ _ => (pg_name (i := 15) sc__law_parts_hold.nd rfl (by first | exact .inl rfl | exact .inr rfl))) (fun _ _ _ _ _ => dt_one fun _ => (t_cmp op_ne v_neB (d_cmp op_ge v_ge (d_op op_add v_add (d_prj 0 (fun x : Int × Int => x.1) (cb := cI) (fun _ => ⟨_, rfl, rfl⟩) (d_var 2 (fun q : E14__law_parts_hold => q.1.1.1.1.1.1.1.1.1.1.2.1) (c2 cI cI) (fun _ => rfl)) d_int) (d_op op_mul v_mul (d_var 15 (fun q : E14__law_parts_hold => q.2) cI (fun _ => rfl)) (d_prj 1 (fun x : Int × Int => x.2) (cb := cI) (fun _ => ⟨_, rfl, rfl⟩) (d_var 2 (fun q : E14__law_parts_hold => q.1.1.1.1.1.1.1.1.1.1.2.1) (c2 cI cI) (fun _ => rfl)) d_int))) (d_op op_add v_add (d_prj 0 (fun x : Int × Int => x.1) (cb := cI) (fun _ => ⟨_, rfl, rfl⟩) (d_var 14 (fun q : E14__law_parts_hold => q.1.2) (c2 cI cI) (fun _ => rfl)) d_int) (d_op op_mul v_mul (d_var 15 (fun q : E14__law_parts_hold => q.2) cI (fun _ => rfl)) (d_prj 1 (fun x : Int × Int => x.2) (cb := cI) (fun _ => ⟨_, rfl, rfl⟩) (d_var 14 (fun q : E14__law_parts_hold => q.1.2) (c2 cI cI) (fun _ => rfl)) d_int))) (nomark _)) (d_call ((f__law_within T).mono (by decide)) hr hg T.M54 T.F54.kp (b__law_within T) (a_cons (d_var 15 (fun q : E14__law_parts_hold => q.2) cI (fun _ => rfl)) (a_cons (d_call ((f_from_zero T).mono (by decide)) hr hg T.M27 T.F27.kp (b_from_zero T) (a_cons (d_var 2 (fun q : E14__law_parts_hold => q.1.1.1.1.1.1.1.1.1.1.2.1) (c2 cI cI) (fun _ => rfl)) (a_cons (d_var 3 (fun q : E14__law_parts_hold => q.1.1.1.1.1.1.1.1.1.1.2.2.1) (c3 cI cI cI) (fun _ => rfl)) a_nil))) a_nil))) (nomark _))) (fun _ _ _ _ _ _ => (d_var 15 (fun q : E14__law_parts_hold => q.2) cI (fun _ => rfl))) (own := [("n", 15)]) (hN := sc__law_parts_hold.nd))) (tru_list sq_L))))))))))))))
    exact dss_eq key (by kernel_rfl) (by kernel_rfl)) (fun _ h => h) (fun a _ => ret_ex (o__law_parts_hold a))
abbrev E0__law_debts_hold : Type := ((Int × Int) × Unit) × St4
abbrev E1__law_debts_hold : Type := E0__law_debts_hold × Int
abbrev E2__law_debts_hold : Type := E1__law_debts_hold × Int
abbrev E3__law_debts_hold : Type := E2__law_debts_hold × Int
def c1__law_debts_hold (s7 : St4) (x4 : Int) : (Int × Int) × St4 :=
  (let r8 := m__law_draw (((50 : Int), ()), s7); let r9 := m__law_draw (((3 : Int), ()), r8.2); ((m__law_low (r8.1, ((1 : Int) + r9.1), ())), r9.2))
def cg1__law_debts_hold (s7 : St4) (x4 : Int) : Prop :=
  (let r8 := m__law_draw (((50 : Int), ()), s7); let r9 := m__law_draw (((3 : Int), ()), r8.2); ((((True ∧ True) ∧ (g__law_draw (((50 : Int), ()), s7))) ∧ ((True ∧ ((True ∧ True) ∧ (g__law_draw (((3 : Int), ()), r8.2))) ∧ True) ∧ True)) ∧ (g__law_low (r8.1, ((1 : Int) + r9.1), ()))))
def c2__law_debts_hold (s15 : St4) (x12 : Int) : (Int × Int) × St4 :=
  (let r16 := m__law_draw (((50 : Int), ()), s15); let r17 := m__law_draw (((3 : Int), ()), r16.2); ((m__law_low (r16.1, ((1 : Int) + r17.1), ())), r17.2))
def cg2__law_debts_hold (s15 : St4) (x12 : Int) : Prop :=
  (let r16 := m__law_draw (((50 : Int), ()), s15); let r17 := m__law_draw (((3 : Int), ()), r16.2); ((((True ∧ True) ∧ (g__law_draw (((50 : Int), ()), s15))) ∧ ((True ∧ ((True ∧ True) ∧ (g__law_draw (((3 : Int), ()), r16.2))) ∧ True) ∧ True)) ∧ (g__law_low (r16.1, ((1 : Int) + r17.1), ()))))
def c3__law_debts_hold (many2 : Int) (s11 : St4) (x3 : Int) : (List (Int × Int)) × St4 :=
  (let r18 := lcS c2__law_debts_hold s11 ((rng 0 many2)); (r18.1, r18.2))
def cg3__law_debts_hold (many2 : Int) (s11 : St4) (x3 : Int) : Prop :=
  (let r18 := lcS c2__law_debts_hold s11 ((rng 0 many2)); (((((True ∧ True) ∧ (CRg 0 many2)) ∧ (lcG cg2__law_debts_hold c2__law_debts_hold s11 ((rng 0 many2)))) ∧ True) ∧ True))
abbrev E4__law_debts_hold : Type := E1__law_debts_hold × (List (List (Int × Int)))
abbrev E5__law_debts_hold : Type := E4__law_debts_hold × (List Int)
abbrev E6__law_debts_hold : Type := E5__law_debts_hold × Int
abbrev E7__law_debts_hold : Type := E5__law_debts_hold × (List (Int × Int))
abbrev E8__law_debts_hold : Type := E7__law_debts_hold × ((List (Int × Int)) × (List (Int × Int)))
abbrev E9__law_debts_hold : Type := E8__law_debts_hold × Int
abbrev E10__law_debts_hold : Type := E8__law_debts_hold × (Int × Int)
abbrev E11__law_debts_hold : Type := E10__law_debts_hold × (Int × Int)
abbrev E12__law_debts_hold : Type := E11__law_debts_hold × Int
abbrev E13__law_debts_hold : Type := E12__law_debts_hold × (List Int)
abbrev E14__law_debts_hold : Type := E13__law_debts_hold × Int
def o__law_debts_hold (a : E0__law_debts_hold) : Out Empty ((Bool) × St4) Empty :=
  (let rate := a.1.1; (let r1 := m__law_draw (((8 : Int), ()), a.2); (let many2 : Int := ((1 : Int) + r1.1); (let r19 := lcS (c3__law_debts_hold many2) r1.2 ((rng 0 ((2 : Int)))); (let rows20 : List (List (Int × Int)) := r19.1; (let r21 := m__law_draw (((500 : Int), ()), r19.2); let r22 := m__law_draw (((500 : Int), ()), r21.2); (let sums23 : List Int := [r21.1, r22.1]; (let both25 : List (Int × Int) := (m_debts ((sums23.sum), rate, (((rng 0 many2)).map fun x24 => (m__law_plus ((ixD ((ixD rows20 ((0 : Int)))) x24), (ixD ((ixD rows20 ((1 : Int)))) x24), ()))), ())); (let u26 : (List (Int × Int)) × (List (Int × Int)) := ((m_debts ((ixD sums23 ((0 : Int))), rate, (ixD rows20 ((0 : Int))), ())), (m_debts ((ixD sums23 ((1 : Int))), rate, (ixD rows20 ((1 : Int))), ()))); (if (!((m__law_same_TQ (both25, (((rng 0 ((many2 + (1 : Int))))).map fun x27 => (m__law_plus ((ixD u26.1 x27), (ixD u26.2 x27), ()))), ())))) = true then (Out.rt (false, r22.2)) else (let even28 : Int × Int := (m_even_payment ((ixD sums23 ((0 : Int))), rate, many2, ())); (if (!PyData.eqv ((c2 cI cI) ((ixD ((m_debts ((ixD sums23 ((0 : Int))), rate, (repI [even28] many2), ()))) ((-1 : Int))))) ((c2 cI cI) (((0 : Int), (1 : Int))))) = true then (Out.rt (false, r22.2)) else (let r29 := m__law_pick_Q (([((11 : Int), (10 : Int)), ((9 : Int), (10 : Int)), ((3 : Int), (2 : Int)), ((1 : Int), (1 : Int)), ((2 : Int), (1 : Int)), ((1 : Int), (2 : Int)), ((7 : Int), (5 : Int))], ()), r22.2); let r30 := m__law_draw (((500 : Int), ()), r29.2); (let growth31 : Int × Int := r29.1; let crossings32 : Int := r30.1; (let r33 := m__law_draw ((many2, ()), r30.2); (let grown34 : List Int := (m_grown_traffic (crossings32, growth31, many2, ())); let at_35 : Int := r33.1; (Out.rt (((decide ((ixD grown34 ((0 : Int))) = crossings32)) && (m__law_same_TI ((m_grown_traffic ((ixD grown34 at_35), growth31, (many2 - at_35), ())), (cut grown34 (some at_35) none), ()))), r33.2))))))))))))))))))
def m__law_debts_hold (a : E0__law_debts_hold) : (Bool) × St4 := (o__law_debts_hold a).ret
def g__law_debts_hold (a : E0__law_debts_hold) : Prop :=
  (let rate := a.1.1; (let r1 := m__law_draw (((8 : Int), ()), a.2); ((True ∧ ((True ∧ True) ∧ (g__law_draw (((8 : Int), ()), a.2))) ∧ True) ∧ (let many2 : Int := ((1 : Int) + r1.1); (let r19 := lcS (c3__law_debts_hold many2) r1.2 ((rng 0 ((2 : Int)))); ((((True ∧ True) ∧ (CRg 0 ((2 : Int)))) ∧ (lcG (cg3__law_debts_hold many2) (c3__law_debts_hold many2) r1.2 ((rng 0 ((2 : Int)))))) ∧ (let rows20 : List (List (Int × Int)) := r19.1; (let r21 := m__law_draw (((500 : Int), ()), r19.2); let r22 := m__law_draw (((500 : Int), ()), r21.2); ((((True ∧ True) ∧ (g__law_draw (((500 : Int), ()), r19.2))) ∧ (((True ∧ True) ∧ (g__law_draw (((500 : Int), ()), r21.2))) ∧ True)) ∧ (let sums23 : List Int := [r21.1, r22.1]; (((((True ∧ True) ∧ True) ∧ (True ∧ ((((((True ∧ True) ∧ (CRg 0 many2)) ∧ (∀ x24 ∈ (rng 0 many2), ((((True ∧ True ∧ (CIx rows20 ((0 : Int)))) ∧ True ∧ (CIx ((ixD rows20 ((0 : Int)))) x24)) ∧ (((True ∧ True ∧ (CIx rows20 ((1 : Int)))) ∧ True ∧ (CIx ((ixD rows20 ((1 : Int)))) x24)) ∧ True)) ∧ (g__law_plus ((ixD ((ixD rows20 ((0 : Int)))) x24), (ixD ((ixD rows20 ((1 : Int)))) x24), ()))))) ∧ True) ∧ True) ∧ True))) ∧ (g_debts ((sums23.sum), rate, (((rng 0 many2)).map fun x24 => (m__law_plus ((ixD ((ixD rows20 ((0 : Int)))) x24), (ixD ((ixD rows20 ((1 : Int)))) x24), ()))), ()))) ∧ (let both25 : List (Int × Int) := (m_debts ((sums23.sum), rate, (((rng 0 many2)).map fun x24 => (m__law_plus ((ixD ((ixD rows20 ((0 : Int)))) x24), (ixD ((ixD rows20 ((1 : Int)))) x24), ()))), ())); (((((True ∧ True ∧ (CIx sums23 ((0 : Int)))) ∧ (True ∧ ((True ∧ True ∧ (CIx rows20 ((0 : Int)))) ∧ True))) ∧ (g_debts ((ixD sums23 ((0 : Int))), rate, (ixD rows20 ((0 : Int))), ()))) ∧ ((((True ∧ True ∧ (CIx sums23 ((1 : Int)))) ∧ (True ∧ ((True ∧ True ∧ (CIx rows20 ((1 : Int)))) ∧ True))) ∧ (g_debts ((ixD sums23 ((1 : Int))), rate, (ixD rows20 ((1 : Int))), ()))) ∧ True)) ∧ (let u26 : (List (Int × Int)) × (List (Int × Int)) := ((m_debts ((ixD sums23 ((0 : Int))), rate, (ixD rows20 ((0 : Int))), ())), (m_debts ((ixD sums23 ((1 : Int))), rate, (ixD rows20 ((1 : Int))), ()))); (((True ∧ (((((((True ∧ True ∧ True) ∧ True) ∧ (CRg 0 ((many2 + (1 : Int))))) ∧ (∀ x27 ∈ (rng 0 ((many2 + (1 : Int)))), (((True ∧ True ∧ (CIx u26.1 x27)) ∧ ((True ∧ True ∧ (CIx u26.2 x27)) ∧ True)) ∧ (g__law_plus ((ixD u26.1 x27), (ixD u26.2 x27), ()))))) ∧ True) ∧ True) ∧ True)) ∧ (g__law_same_TQ (both25, (((rng 0 ((many2 + (1 : Int))))).map fun x27 => (m__law_plus ((ixD u26.1 x27), (ixD u26.2 x27), ()))), ()))) ∧ ((!((m__law_same_TQ (both25, (((rng 0 ((many2 + (1 : Int))))).map fun x27 => (m__law_plus ((ixD u26.1 x27), (ixD u26.2 x27), ()))), ())))) = true → True) ∧ ((!((m__law_same_TQ (both25, (((rng 0 ((many2 + (1 : Int))))).map fun x27 => (m__law_plus ((ixD u26.1 x27), (ixD u26.2 x27), ()))), ())))) = false → ((((True ∧ True ∧ (CIx sums23 ((0 : Int)))) ∧ (True ∧ (True ∧ True))) ∧ (g_even_payment ((ixD sums23 ((0 : Int))), rate, many2, ()))) ∧ (let even28 : Int × Int := (m_even_payment ((ixD sums23 ((0 : Int))), rate, many2, ())); ((((((True ∧ True ∧ (CIx sums23 ((0 : Int)))) ∧ (True ∧ (((True ∧ True) ∧ True ∧ (-1000000 ≤ many2 ∧ many2 ≤ 1000 ∧ ([even28]).length ≤ 1000)) ∧ True))) ∧ (g_debts ((ixD sums23 ((0 : Int))), rate, (repI [even28] many2), ()))) ∧ True ∧ (CIx ((m_debts ((ixD sums23 ((0 : Int))), rate, (repI [even28] many2), ()))) ((-1 : Int)))) ∧ (True ∧ (True ∧ True)) ∧ True) ∧ ((!PyData.eqv ((c2 cI cI) ((ixD ((m_debts ((ixD sums23 ((0 : Int))), rate, (repI [even28] many2), ()))) ((-1 : Int))))) ((c2 cI cI) (((0 : Int), (1 : Int))))) = true → True) ∧ ((!PyData.eqv ((c2 cI cI) ((ixD ((m_debts ((ixD sums23 ((0 : Int))), rate, (repI [even28] many2), ()))) ((-1 : Int))))) ((c2 cI cI) (((0 : Int), (1 : Int))))) = false → (let r29 := m__law_pick_Q (([((11 : Int), (10 : Int)), ((9 : Int), (10 : Int)), ((3 : Int), (2 : Int)), ((1 : Int), (1 : Int)), ((2 : Int), (1 : Int)), ((1 : Int), (2 : Int)), ((7 : Int), (5 : Int))], ()), r22.2); let r30 := m__law_draw (((500 : Int), ()), r29.2); ((((((True ∧ (True ∧ True)) ∧ ((True ∧ (True ∧ True)) ∧ ((True ∧ (True ∧ True)) ∧ ((True ∧ (True ∧ True)) ∧ ((True ∧ (True ∧ True)) ∧ ((True ∧ (True ∧ True)) ∧ ((True ∧ (True ∧ True)) ∧ True))))))) ∧ True) ∧ (g__law_pick_Q (([((11 : Int), (10 : Int)), ((9 : Int), (10 : Int)), ((3 : Int), (2 : Int)), ((1 : Int), (1 : Int)), ((2 : Int), (1 : Int)), ((1 : Int), (2 : Int)), ((7 : Int), (5 : Int))], ()), r22.2))) ∧ (((True ∧ True) ∧ (g__law_draw (((500 : Int), ()), r29.2))) ∧ True)) ∧ (let growth31 : Int × Int := r29.1; let crossings32 : Int := r30.1; (let r33 := m__law_draw ((many2, ()), r30.2); ((((True ∧ (True ∧ (True ∧ True))) ∧ (g_grown_traffic (crossings32, growth31, many2, ()))) ∧ (((True ∧ True) ∧ (g__law_draw ((many2, ()), r30.2))) ∧ True)) ∧ (let grown34 : List Int := (m_grown_traffic (crossings32, growth31, many2, ())); let at_35 : Int := r33.1; (((True ∧ True ∧ (CIx grown34 ((0 : Int)))) ∧ True ∧ True) ∧ ((decide ((ixD grown34 ((0 : Int))) = crossings32)) = true → (((((True ∧ True ∧ (CIx grown34 at_35)) ∧ (True ∧ ((True ∧ True ∧ True) ∧ True))) ∧ (g_grown_traffic ((ixD grown34 at_35), growth31, (many2 - at_35), ()))) ∧ ((True ∧ True ∧ True) ∧ True)) ∧ (g__law_same_TI ((m_grown_traffic ((ixD grown34 at_35), growth31, (many2 - at_35), ())), (cut grown34 (some at_35) none), ())))))))))))))))))))))))))))))))
theorem sc__law_debts_hold : FnScope ["state", "rate", "many", "rows", "sums", "both", "one", "other", "even", "growth", "crossings", "grown", "at", "row", "k"] ["state", "rate"] (defScope (topS 55)) := ⟨rfl, rfl, rfl, by decide +kernel, rfl, by decide +kernel, by decide +kernel⟩
theorem b__law_debts_hold {K : Y.Frag} {mg : Str → Option Value} {ad : Nat → Addr} {fd : Nat → FuncData} (T : Tx K mg ad fd) : Binds K (fd 55) ["state", "rate"] [] := T.F55.binds (ps := ["state", "rate"]) fun _ _ _ _ _ _ us hl => match us, hl with | [_, _], _ => rfl
theorem f__law_debts_hold {P : Program} {w : World} {K : Y.Frag} {mg : Str → Option Value} {base : Heap} {ad : Nat → Addr} {fd : Nat → FuncData} (T : Tx K mg ad fd) : FnG P w K mg base 6 (ad 55) (fd 55) ["state", "rate"] (spS K (ac (c2 cI cI) an) cSt cB g__law_debts_hold m__law_debts_hold) :=
  fn_state T.F55 sc__law_debts_hold 13 (fun _ => rfl) rfl (owS := []) (ow' := []) (ΓS := fun _ : Empty => []) (Γ' := fun _ : Empty => []) (cr := fun r : (Bool) × St4 => cB r.1) (ci := fun r : (Bool) × St4 => cSt r.2) (G := g__law_debts_hold) (d := o__law_debts_hold) (fun A0 p cdv A outer s H E hr hg => by
    have hu : (A.deeper (envOfC _ (defScope (topS 55)) s.heap.objs.size _ cdv)).units + 64 < cLine := Nat.lt_of_le_of_lt (Nat.add_le_add_left (by decide) _) (room_un hr)
    have key : Dss (XF P w K mg base ["state", "rate", "many", "rows", "sums", "both", "one", "other", "even", "growth", "crossings", "grown", "at", "row", "k"] "_law_debts_hold" (topS 55) (ad 55) cdv A outer s H E) ⟨A0, [], some p⟩ [0] (fun a : E0__law_debts_hold => some (.list (cSt a.2)) :: (((ac (c2 cI cI) an) a.1).map some ++ List.replicate 13 none)) (fun r : (Bool) × St4 => cB r.1) (fun r : (Bool) × St4 => cSt r.2) [] (fun _ : Empty => []) (defBody (topS 55)) _ _ [] (fun _ : Empty => []) := (s_cons (s_asg 2 (d_op op_add v_add d_int (d_callS 0 (fun q : E0__law_debts_hold => q.2) (fun (q : E0__law_debts_hold) t => (q.1, t)) (fun _ => rfl) (fun _ _ => rfl) ((f__law_draw T).mono (by decide)) hr hg T.M44 T.F44.kp (b__law_draw T) (a_cons d_int a_nil))) (hN := sc__law_debts_hold.nd)) (s_cons (s_asg 3 (DL.de (d_lcS (fun q : E1__law_debts_hold => q.1.2) (fun (q : E1__law_debts_hold) t => ((q.1.1, t), q.2)) (fun _ _ _ => rfl) (fun _ => rfl) (fun _ _ => rfl) (tg_name 13) (tgf_name 13) (fun _ _ _ => rfl) (fun _ t t' i d hi h => hfz_of 0 (by decide) (x := some (.list (cSt t'))) rfl hi h) (i_rng1 (a_cons d_int a_nil) T.z_range) (blkOk_by (N := ["state", "rate", "many", "rows", "sums", "both", "one", "other", "even", "growth", "crossings", "grown", "at", "row", "k"]) (sc := defScope (topS 55)) (own := [("row", 13)]) (by decide +kernel)) (fun _ _ _ _ _ => (pg_name (i := 13) sc__law_debts_hold.nd rfl (by first | exact .inl rfl | exact .inr rfl))) (fun _ _ _ _ _ _ => (d_ty call_tuple_of (v_tuple sq_L) T.z_tuple (by decide +kernel) (a_cons (DL.de (d_lcS (fun q : E2__law_debts_hold => q.1.1.2) (fun (q : E2__law_debts_hold) t => (((q.1.1.1, t), q.1.2), q.2)) (fun _ _ _ => rfl) (fun _ => rfl) (fun _ _ => rfl) (tg_name 14) (tgf_name 14) (fun _ _ _ => rfl) (fun _ t t' i d hi h => hfz_of 0 (by decide) (x := some (.list (cSt t'))) rfl hi h) (i_rng1 (a_cons (d_var 2 (fun q : E2__law_debts_hold => q.1.2) cI (fun _ => rfl)) a_nil) T.z_range) (blkOk_by (N := ["state", "rate", "many", "rows", "sums", "both", "one", "other", "even", "growth", "crossings", "grown", "at", "row", "k"]) (own := [("k", 14)]) (by kernel_rfl)) (fun _ _ _ _ _ => (pg_name (i := 14) sc__law_debts_hold.nd rfl (by first | exact .inl rfl | exact .inr rfl))) (fun _ _ _ _ _ _ => (d_call ((f__law_low T).mono (by decide)) hr hg T.M47 T.F47.kp (b__law_low T) (a_cons (d_callS 0 (fun q : E3__law_debts_hold => q.1.1.1.2) (fun (q : E3__law_debts_hold) t => ((((q.1.1.1.1, t), q.1.1.2), q.1.2), q.2)) (fun _ => rfl) (fun _ _ => rfl) ((f__law_draw T).mono (by decide)) hr hg T.M44 T.F44.kp (b__law_draw T) (a_cons d_int a_nil)) (a_cons (d_op op_add v_add d_int (d_callS 0 (fun q : E3__law_debts_hold => q.1.1.1.2) (fun (q : E3__law_debts_hold) t => ((((q.1.1.1.1, t), q.1.1.2), q.1.2), q.2)) (fun _ => rfl) (fun _ _ => rfl) ((f__law_draw T).mono (by decide)) hr hg T.M44 T.F44.kp (b__law_draw T) (a_cons d_int a_nil))) a_nil)))) (own := [("k", 14)]) (hN := sc__law_debts_hold.nd))) a_nil))) (own := [("row", 13)]) (hN := sc__law_debts_hold.nd))) (hN := sc__law_debts_hold.nd)) (s_cons (s_asg 4 (l_dispE (a := cI) (fun x : Int × Int × Unit => [x.1, x.2.1]) (fun _ => rfl) (fun _ => Nat.le_of_ble_eq_true rfl) (a_cons (d_callS 0 (fun q : E4__law_debts_hold => q.1.1.2) (fun (q : E4__law_debts_hold) t => (((q.1.1.1, t), q.1.2), q.2)) (fun _ => rfl) (fun _ _ => rfl) ((f__law_draw T).mono (by decide)) hr hg T.M44 T.F44.kp (b__law_draw T) (a_cons d_int a_nil)) (a_cons (d_callS 0 (fun q : E4__law_debts_hold => q.1.1.2) (fun (q : E4__law_debts_hold) t => (((q.1.1.1, t), q.1.2), q.2)) (fun _ => rfl) (fun _ _ => rfl) ((f__law_draw T).mono (by decide)) hr hg T.M44 T.F44.kp (b__law_draw T) (a_cons d_int a_nil)) a_nil))) (hN := sc__law_debts_hold.nd)) (s_cons (s_asg 5 (d_call ((f_debts T).mono (by decide)) hr hg T.M41 T.F41.kp (b_debts T) (a_cons (d_blt (cr_sum rfl) v_sumL T.z_sum (by decide +kernel) (a_cons (d_var 4 (fun q : E5__law_debts_hold => q.2) (cL cI) (fun _ => rfl)) a_nil)) (a_cons (d_var 1 (fun q : E5__law_debts_hold => q.1.1.1.1.1) (c2 cI cI) (fun _ => rfl)) (a_cons (d_ty call_tuple_of (v_tuple sq_L) T.z_tuple (by decide +kernel) (a_cons (DL.de (d_lc0 (i_rng1 (a_cons (d_var 2 (fun q : E5__law_debts_hold => q.1.1.2) cI (fun _ => rfl)) a_nil) T.z_range) (blkOk_by (N := ["state", "rate", "many", "rows", "sums", "both", "one", "other", "even", "growth", "crossings", "grown", "at", "row", "k"]) (sc := defScope (topS 55)) (own := [("k", 14)]) (by decide +kernel)) (tg_name 14) (fun _ _ _ _ _ => (pg_name (i := 14) sc__law_debts_hold.nd rfl (by first | exact .inl rfl | exact .inr rfl))) (fun _ _ _ _ _ _ => (d_call ((f__law_plus T).mono (by decide)) hr hg T.M48 T.F48.kp (b__law_plus T) (a_cons (d_ix ix_tup v_ixT (d_ix ix_list v_ixL (d_var 3 (fun q : E6__law_debts_hold => q.1.1.2) (cL (cT (c2 cI cI))) (fun _ => rfl)) d_int) (d_var 14 (fun q : E6__law_debts_hold => q.2) cI (fun _ => rfl))) (a_cons (d_ix ix_tup v_ixT (d_ix ix_list v_ixL (d_var 3 (fun q : E6__law_debts_hold => q.1.1.2) (cL (cT (c2 cI cI))) (fun _ => rfl)) d_int) (d_var 14 (fun q : E6__law_debts_hold => q.2) cI (fun _ => rfl))) a_nil)))) (own := [("k", 14)]) (hN := sc__law_debts_hold.nd))) a_nil)) a_nil)))) (hN := sc__law_debts_hold.nd)) (s_cons (s_asgT (d_tp2 (a_cons (d_call ((f_debts T).mono (by decide)) hr hg T.M41 T.F41.kp (b_debts T) (a_cons (d_ix ix_list v_ixL (d_var 4 (fun q : E7__law_debts_hold => q.1.2) (cL cI) (fun _ => rfl)) d_int) (a_cons (d_var 1 (fun q : E7__law_debts_hold => q.1.1.1.1.1.1) (c2 cI cI) (fun _ => rfl)) (a_cons (d_ix ix_list v_ixL (d_var 3 (fun q : E7__law_debts_hold => q.1.1.2) (cL (cT (c2 cI cI))) (fun _ => rfl)) d_int) a_nil)))) (a_cons (d_call ((f_debts T).mono (by decide)) hr hg T.M41 T.F41.kp (b_debts T) (a_cons (d_ix ix_list v_ixL (d_var 4 (fun q : E7__law_debts_hold => q.1.2) (cL cI) (fun _ => rfl)) d_int) (a_cons (d_var 1 (fun q : E7__law_debts_hold => q.1.1.1.1.1.1) (c2 cI cI) (fun _ => rfl)) (a_cons (d_ix ix_list v_ixL (d_var 3 (fun q : E7__law_debts_hold => q.1.1.2) (cL (cT (c2 cI cI))) (fun _ => rfl)) d_int) a_nil)))) a_nil))) (pg_tup rfl (pgs_cons (pg_name (i := 6) sc__law_debts_hold.nd rfl (by first | exact .inl rfl | exact .inr rfl)) (pgs_cons (pg_name (i := 7) sc__law_debts_hold.nd rfl (by first | exact .inl rfl | exact .inr rfl)) pgs_nil))) (tg_pair 6 7)) (s_ifR (t_not (t_val (d_call ((f__law_same_TQ T).mono (by decide)) hr hg T.M46 T.F46.kp (b__law_same T) (a_cons (d_var 5 (fun q : E8__law_debts_hold => q.1.2) (cT (c2 cI cI)) (fun _ => rfl)) (a_cons (d_ty call_tuple_of (v_tuple sq_L) T.z_tuple (by decide +kernel) (a_cons (DL.de (d_lc0 (i_rng1 (a_cons (d_op op_add v_add (d_var 2 (fun q : E8__law_debts_hold => q.1.1.1.1.2) cI (fun _ => rfl)) d_int) a_nil) T.z_range) (blkOk_by (N := ["state", "rate", "many", "rows", "sums", "both", "one", "other", "even", "growth", "crossings", "grown", "at", "row", "k"]) (sc := defScope (topS 55)) (own := [("k", 14)]) (by decide +kernel)) (tg_name 14) (fun _ _ _ _ _ => (pg_name (i := 14) sc__law_debts_hold.nd rfl (by first | exact .inl rfl | exact .inr rfl))) (fun _ _ _ _ _ _ => (d_call ((f__law_plus T).mono (by decide)) hr hg T.M48 T.F48.kp (b__law_plus T) (a_cons (d_ix ix_tup v_ixT (d_var 6 (fun q : E9__law_debts_hold => q.1.2.1) (cT (c2 cI cI)) (fun _ => rfl)) (d_var 14 (fun q : E9__law_debts_hold => q.2) cI (fun _ => rfl))) (a_cons (d_ix ix_tup v_ixT (d_var 7 (fun q : E9__law_debts_hold => q.1.2.2) (cT (c2 cI cI)) (fun _ => rfl)) (d_var 14 (fun q : E9__law_debts_hold => q.2) cI (fun _ => rfl))) a_nil)))) (own := [("k", 14)]) (hN := sc__law_debts_hold.nd))) a_nil)) a_nil))))) (s_one (s_retS (r := fun v (q : E8__law_debts_hold) => (v, q.1.1.1.1.1.2)) (fun _ _ => rfl) (fun _ _ => rfl) d_bl)) (by intro ε n; (repeat' (first | (intro h; nomatch h) | split))) (s_cons (s_asg 8 (d_call ((f_even_payment T).mono (by decide)) hr hg T.M40 T.F40.kp (b_even_payment T) (a_cons (d_ix ix_list v_ixL (d_var 4 (fun q : E8__law_debts_hold => q.1.1.2) (cL cI) (fun _ => rfl)) d_int) (a_cons (d_var 1 (fun q : E8__law_debts_hold => q.1.1.1.1.1.1.1) (c2 cI cI) (fun _ => rfl)) (a_cons (d_var 2 (fun q : E8__law_debts_hold => q.1.1.1.1.2) cI (fun _ => rfl)) a_nil)))) (hN := sc__law_debts_hold.nd)) (s_ifR (t_cmp (op_neD hu) (v_neD (cq_2 cq_I cq_I) (cq_2 cq_I cq_I)) (d_ix ix_tup v_ixT (d_call ((f_debts T).mono (by decide)) hr hg T.M41 T.F41.kp (b_debts T) (a_cons (d_ix ix_list v_ixL (d_var 4 (fun q : E10__law_debts_hold => q.1.1.1.2) (cL cI) (fun _ => rfl)) d_int) (a_cons (d_var 1 (fun q : E10__law_debts_hold => q.1.1.1.1.1.1.1.1) (c2 cI cI) (fun _ => rfl)) (a_cons (d_op op_repTA v_repT (d_tpT (a := (c2 cI cI)) (fun x : (Int × Int) × Unit => [x.1]) (fun _ => rfl) (fun _ => Nat.le_of_ble_eq_true rfl) (a_cons (d_var 8 (fun q : E10__law_debts_hold => q.2) (c2 cI cI) (fun _ => rfl)) a_nil)) (d_var 2 (fun q : E10__law_debts_hold => q.1.1.1.1.1.2) cI (fun _ => rfl))) a_nil)))) d_neg1) (d_tp2 (a_cons d_int (a_cons d_int a_nil))) (nomark _)) (s_one (s_retS (r := fun v (q : E10__law_debts_hold) => (v, q.1.1.1.1.1.1.2)) (fun _ _ => rfl) (fun _ _ => rfl) d_bl)) (by intro ε n; (repeat' (first | (intro h; nomatch h) | split))) (s_cons (s_par 9 10 (ca := (c2 cI cI)) (cb := cI) (ga := fun x : (Int × Int) × Int × Unit => x.1) (gb := fun x : (Int × Int) × Int × Unit => x.2.1) (a_cons (d_callS 0 (fun q : E10__law_debts_hold => q.1.1.1.1.1.1.2) (fun (q : E10__law_debts_hold) t => (((((((q.1.1.1.1.1.1.1, t), q.1.1.1.1.1.2), q.1.1.1.1.2), q.1.1.1.2), q.1.1.2), q.1.2), q.2)) (fun _ => rfl) (fun _ _ => rfl) ((f__law_pick_Q T).mono (by decide)) hr hg T.M45 T.F45.kp (b__law_pick T) (a_cons (DL.de (l_disp (c := (c2 cI cI)) (g := fun x : (Int × Int) × (Int × Int) × (Int × Int) × (Int × Int) × (Int × Int) × (Int × Int) × (Int × Int) × Unit => [x.1, x.2.1, x.2.2.1, x.2.2.2.1, x.2.2.2.2.1, x.2.2.2.2.2.1, x.2.2.2.2.2.2.1]) (fun _ => rfl) (fun _ => Nat.le_of_ble_eq_true rfl) (a_cons (d_tp2 (a_cons d_int (a_cons d_int a_nil))) (a_cons (d_tp2 (a_cons d_int (a_cons d_int a_nil))) (a_cons (d_tp2 (a_cons d_int (a_cons d_int a_nil))) (a_cons (d_tp2 (a_cons d_int (a_cons d_int a_nil))) (a_cons (d_tp2 (a_cons d_int (a_cons d_int a_nil))) (a_cons (d_tp2 (a_cons d_int (a_cons d_int a_nil))) (a_cons (d_tp2 (a_cons d_int (a_cons d_int a_nil))) a_nil))))))))) a_nil)) (a_cons (d_callS 0 (fun q : E10__law_debts_hold => q.1.1.1.1.1.1.2) (fun (q : E10__law_debts_hold) t => (((((((q.1.1.1.1.1.1.1, t), q.1.1.1.1.1.2), q.1.1.1.1.2), q.1.1.1.2), q.1.1.2), q.1.2), q.2)) (fun _ => rfl) (fun _ _ => rfl) ((f__law_draw T).mono (by decide)) hr hg T.M44 T.F44.kp (b__law_draw T) (a_cons d_int a_nil)) a_nil)) (fun _ => rfl) rfl (hN := sc__law_debts_hold.nd)) (s_cons (s_par 11 12 (ca := (cT cI)) (cb := cI) (ga := fun x : (List Int) × Int × Unit => x.1) (gb := fun x : (List Int) × Int × Unit => x.2.1) (a_cons (d_call ((f_grown_traffic T).mono (by decide)) hr hg T.M39 T.F39.kp (b_grown_traffic T) (a_cons (d_var 10 (fun q : E12__law_debts_hold => q.2) cI (fun _ => rfl)) (a_cons (d_var 9 (fun q : E12__law_debts_hold => q.1.2) (c2 cI cI) (fun _ => rfl)) (a_cons (d_var 2 (fun q : E12__law_debts_hold => q.1.1.1.1.1.1.1.2) cI (fun _ => rfl)) a_nil)))) (a_cons (d_callS 0 (fun q : E12__law_debts_hold => q.1.1.1.1.1.1.1.1.2) (fun (q : E12__law_debts_hold) t => (((((((((q.1.1.1.1.1.1.1.1.1, t), q.1.1.1.1.1.1.1.2), q.1.1.1.1.1.1.2), q.1.1.1.1.1.2), q.1.1.1.1.2), q.1.1.1.2), q.1.1.2), q.1.2), q.2)) (fun _ => rfl) (fun _ _ => rfl) ((f__law_draw T).mono (by decide)) hr hg T.M44 T.F44.kp (b__law_draw T) (a_cons (d_var 2 (fun q : E12__law_debts_hold => q.1.1.1.1.1.1.1.2) cI (fun _ => rfl)) a_nil)) a_nil)) (fun _ => rfl) rfl (hN := sc__law_debts_hold.nd)) (s_one (s_retS (r := fun v (q : E14__law_debts_hold) => (v, q.1.1.1.1.1.1.1.1.1.1.2)) (fun _ _ => rfl) (fun _ _ => rfl) (d_and (d_cmp op_eq v_eqI (d_ix ix_tup v_ixT (d_var 11 (fun q : E14__law_debts_hold => q.1.2) (cT cI) (fun _ => rfl)) d_int) (d_var 10 (fun q : E14__law_debts_hold => q.1.1.2) cI (fun _ => rfl)) (nomark _)) (d_one (d_call ((f__law_same_TI T).mono (by decide)) hr hg T.M46 T.F46.kp (b__law_same T) (a_cons (d_call ((f_grown_traffic T).mono (by decide)) hr hg T.M39 T.F39.kp (b_grown_traffic T) (a_cons (d_ix ix_tup v_ixT (d_var 11 (fun q : E14__law_debts_hold => q.1.2) (cT cI) (fun _ => rfl)) (d_var 12 (fun q : E14__law_debts_hold => q.2) cI (fun _ => rfl))) (a_cons (d_var 9 (fun q : E14__law_debts_hold => q.1.1.1.2) (c2 cI cI) (fun _ => rfl)) (a_cons (d_op op_sub v_sub (d_var 2 (fun q : E14__law_debts_hold => q.1.1.1.1.1.1.1.1.1.2) cI (fun _ => rfl)) (d_var 12 (fun q : E14__law_debts_hold => q.2) cI (fun _ => rfl))) a_nil)))) (a_cons (d_slT (d_var 11 (fun q : E14__law_debts_hold => q.1.2) (cT cI) (fun _ => rfl)) (o_some (d_var 12 (fun q : E14__law_debts_hold => q.2) cI (fun _ => rfl))) o_none) a_nil)))))))))))))))))
    exact dss_eq key (by kernel_rfl) (by kernel_rfl)) (fun _ h => h) (fun a _ => ret_ex (o__law_debts_hold a))
abbrev E0_law : Type := St4
abbrev E1_law : Type := E0_law × Int
abbrev E2_law : Type := E1_law × ((Int × Int) × (Int × Int × Int) × (List Int) × (Int × Int))
abbrev E3_law : Type := St4 × E0_law
def k1_law (q2 : E1_law) : Out E0_law Bool E0_law :=
  (let r3 := m__law_case ((), q2.1); (let case4 : (Int × Int) × (Int × Int × Int) × (List Int) × (Int × Int) := r3.1; (let r5 := m__law_parts_hold ((case4, ()), r3.2); let r6 := m__law_debts_hold ((case4.2.2.2, ()), r5.2); let t7 := (if (!((m__law_savings_hold (case4, ())))) = true then r3.2 else (if (!r5.1) = true then r5.2 else r6.2)); (if ((!((m__law_savings_hold (case4, ())))) || ((!r5.1) || (!r6.1))) = true then (Out.rt false) else (Out.nx t7)))))
def kg1_law (q2 : E1_law) : Prop :=
  (let r3 := m__law_case ((), q2.1); ((True ∧ (g__law_case ((), q2.1))) ∧ (let case4 : (Int × Int) × (Int × Int × Int) × (List Int) × (Int × Int) := r3.1; (let r5 := m__law_parts_hold ((case4, ()), r3.2); let r6 := m__law_debts_hold ((case4.2.2.2, ()), r5.2); let t7 := (if (!((m__law_savings_hold (case4, ())))) = true then r3.2 else (if (!r5.1) = true then r5.2 else r6.2)); ((((True ∧ True) ∧ (g__law_savings_hold (case4, ()))) ∧ ((!((m__law_savings_hold (case4, ())))) = false → (((True ∧ True) ∧ (g__law_parts_hold ((case4, ()), r3.2))) ∧ ((!r5.1) = false → ((True ∧ True) ∧ (g__law_debts_hold ((case4.2.2.2, ()), r5.2))))))) ∧ (((!((m__law_savings_hold (case4, ())))) || ((!r5.1) || (!r6.1))) = true → True) ∧ (((!((m__law_savings_hold (case4, ())))) || ((!r5.1) || (!r6.1))) = false → True))))))
def o_law (a : St4) : Out Empty Bool Empty :=
  ((forO k1_law a (rng 0 ((4 : Int)))).bind (fun l8 : E0_law => (Out.rt true)))
def g_law (a : St4) : Prop :=
  ((((True ∧ True) ∧ (CRg 0 ((4 : Int)))) ∧ (forG kg1_law k1_law a (rng 0 ((4 : Int))))) ∧ (∀ l8 : E0_law, (forO k1_law a (rng 0 ((4 : Int)))) = Out.nx (S := Empty) l8 → True))
theorem sc_law : FnScope ["script", "state", "turn", "case"] ["script"] (defScope (topS 56)) := ⟨rfl, rfl, rfl, by decide +kernel, rfl, by decide +kernel, by decide +kernel⟩
theorem f_law {P : Program} {w : World} {K : Y.Frag} {mg : Str → Option Value} {base : Heap} {ad : Nat → Addr} {fd : Nat → FuncData} (T : Tx K mg ad fd) (ok : ∀ t, Wf t → g_law t ∧ o_law t = .rt true) : FnG P w K mg base 8 (ad 56) (fd 56) ["script"] (spLaw K) :=
  fn_law T.F56 2 rfl sc_law rfl ((f__law_start T).mono (by decide : 1 ≤ 7)) T.M43 T.F43.kp (b__law_start T) (owS := []) (ow' := []) (ΓS := fun _ : Empty => []) (Γ' := fun _ : Empty => []) (G := g_law) (d := o_law) (fun cdv A outer s H E hr hg => by
    have hu : (A.deeper (envOfC _ (defScope (topS 56)) s.heap.objs.size _ cdv)).units + 64 < cLine := Nat.lt_of_le_of_lt (Nat.add_le_add_left (by decide) _) (room_un hr)
    refine ⟨⟨_, ps_set (i := 1) sc_law.nd rfl (by first | exact .inl rfl | exact .inr rfl) (pe_callG ((f__law_start T).mono (by decide : 1 ≤ 7)) hr hg T.M43 T.F43.kp (b__law_start T) (pa_cons (pv 0) pa_nil)), fun a D σ H e h => by subst e; exact ⟨.ref a, rfl, h⟩⟩, ?_⟩
    have key : Dss (XF P w K mg base ["script", "state", "turn", "case"] "law" (topS 56) (ad 56) cdv A outer s H E) ⟨[], [], none⟩ [1] (fun t : St4 => none :: some (.list (cSt t)) :: List.replicate 2 none) cB (fun _ => []) [] (fun _ : Empty => []) ((defBody (topS 56)).drop 1) _ _ [] (fun _ : Empty => []) := (s_consK (s_forP (ΓL := (fun (e1 : St4) (m : E0_law) => [none, some (.list (cSt m)), none, none])) (fun q : St4 => q) (i_rng1 (a_cons d_int a_nil) T.z_range) (fun _ _ _ _ r => r) (pg_name (i := 2) sc_law.nd rfl (by first | exact .inl rfl | exact .inr rfl)) (tg_name 2) (fun e1 : St4 => (s_cons (s_asg 3 (d_callS 1 (fun q : E1_law => q.1) (fun (q : E1_law) t => (t, q.2)) (fun _ => rfl) (fun _ _ => rfl) ((f__law_case T).mono (by decide)) hr hg T.M51 T.F51.kp (b__law_case T) a_nil) (hN := sc_law.nd)) (s_ifR (Dw.dt (w_orS (fun (q : E2_law) t => ((t, q.1.2), q.2)) (t_not (t_val (d_call ((f__law_savings_hold T).mono (by decide)) hr hg T.M52 T.F52.kp (b__law_savings_hold T) (a_cons (d_var 3 (fun q : E2_law => q.2) (c4 (c2 cI cI) (c3 cI cI cI) (cT cI) (c2 cI cI)) (fun _ => rfl)) a_nil)))) (w_orS (fun (q : E2_law) t => ((t, q.1.2), q.2)) (t_not (t_val (d_callS 1 (fun q : E2_law => q.1.1) (fun (q : E2_law) t => ((t, q.1.2), q.2)) (fun _ => rfl) (fun _ _ => rfl) ((f__law_parts_hold T).mono (by decide)) hr hg T.M53 T.F53.kp (b__law_parts_hold T) (a_cons (d_var 3 (fun q : E2_law => q.2) (c4 (c2 cI cI) (c3 cI cI cI) (cT cI) (c2 cI cI)) (fun _ => rfl)) a_nil)))) (w_or1 (t_not (t_val (d_callS 1 (fun q : E2_law => q.1.1) (fun (q : E2_law) t => ((t, q.1.2), q.2)) (fun _ => rfl) (fun _ _ => rfl) ((f__law_debts_hold T).mono (by decide)) hr hg T.M55 T.F55.kp (b__law_debts_hold T) (a_cons (d_prj 3 (fun x : (Int × Int) × (Int × Int × Int) × (List Int) × (Int × Int) => x.2.2.2) (cb := (c2 cI cI)) (fun _ => ⟨_, rfl, rfl⟩) (d_var 3 (fun q : E2_law => q.2) (c4 (c2 cI cI) (c3 cI cI cI) (cT cI) (c2 cI cI)) (fun _ => rfl)) d_int) a_nil))))) (fun _ => rfl) (fun _ => rfl)) (fun _ => rfl) (fun _ => rfl))) (s_one (s_ret (r := fun v (_ : E2_law) => v) (fun _ _ => rfl) rfl d_bl)) (by intro ε n; (repeat' (first | (intro h; nomatch h) | split))) (s_end (ow2 := [1]) (Γ2 := (fun m : E0_law => [none, some (.list (cSt m)), none, none])) (fun q : E2_law => q.1.1) (fun _ _ _ _ r => r.wk (.k (.k (.f (.f .nil))))))))) PassesOwn.never) (s_one (s_ret (r := fun v (_ : E3_law) => v) (fun _ _ => rfl) rfl d_bl)))
    exact dss_eq key (by kernel_rfl) (by kernel_rfl)) (fun t h => (ok t h).1) (fun t h => (ok t h).2)
end Z
namespace Y
open PySem PySem.Spec PyProof.Rows L2

/-! ### quotients as pairs -/
def qp (r : Rat) : Int × Int := (r.num, (r.den : Int))
theorem qp_inj {a b : Rat} : qp a = qp b ↔ a = b := by
  constructor
  · intro h
    have h1 : a.num = b.num := congrArg Prod.fst h
    have h2 : (a.den : Int) = (b.den : Int) := congrArg Prod.snd h
    exact Rat.ext h1 (by omega)
  · rintro rfl; rfl
theorem qp_int (n : Int) : (n, (1 : Int)) = qp (n : Rat) := rfl
theorem qp_zero : ((0 : Int), (1 : Int)) = qp 0 := rfl
theorem qp_one : ((1 : Int), (1 : Int)) = qp 1 := rfl
theorem qp_neg (a : Rat) : (0 - a.num, (a.den : Int)) = qp (-a) := by
  unfold qp
  rw [Rat.neg_num, Rat.neg_den, Int.zero_sub]
theorem qp_neg' (a : Rat) : (-a.num, (a.den : Int)) = qp (-a) := by
  unfold qp
  rw [Rat.neg_num, Rat.neg_den]
theorem qp_div {a b : Int} (h : 0 < b) : (a / (Int.gcd a b : Int), b / (Int.gcd a b : Int)) = qp (Rat.divInt a b) := by
  unfold qp
  have e1 := Rat.num_divInt a b
  have e2 := Rat.den_divInt a b
  rw [Int.sign_eq_one_of_pos h, Int.one_mul, Int.gcd_comm] at e1
  rw [if_neg (by omega), Int.gcd_comm] at e2
  refine Prod.ext e1.symm ?_
  show b / (Int.gcd a b : Int) = ((Rat.divInt a b).den : Int)
  rw [e2, Int.natCast_ediv]
  congr 1
  omega
theorem qp_inv {n : Int} (h : 0 < n) : ((1 : Int), n) = qp ((n : Rat)⁻¹) := by
  unfold qp
  rw [Rat.num_inv, Rat.den_inv]
  have e1 : (n : Rat).num = n := rfl
  have e2 : (n : Rat).den = 1 := rfl
  rw [e1, e2, Int.sign_eq_one_of_pos h, if_neg (by omega)]
  refine Prod.ext rfl ?_
  show n = (n.natAbs : Int)
  omega
theorem den_pos (a : Rat) : 0 < (a.den : Int) := by
  have := a.den_nz
  omega
theorem div_add (a b : Rat) : Rat.divInt (a.num * b.den + b.num * a.den) ((a.den : Int) * b.den) = a + b := by
  have h := Rat.divInt_add_divInt a.num b.num (d₁ := a.den) (d₂ := b.den) (by have := den_pos a; omega) (by have := den_pos b; omega)
  rw [Rat.num_divInt_den, Rat.num_divInt_den] at h
  exact h.symm
theorem div_sub (a b : Rat) : Rat.divInt (a.num * b.den - b.num * a.den) ((a.den : Int) * b.den) = a - b := by
  have h := Rat.divInt_sub_divInt a.num b.num (d₁ := a.den) (d₂ := b.den) (by have := den_pos a; omega) (by have := den_pos b; omega)
  rw [Rat.num_divInt_den, Rat.num_divInt_den] at h
  exact h.symm
theorem div_mul (a b : Rat) : Rat.divInt (a.num * b.num) ((a.den : Int) * b.den) = a * b := by
  have h := Rat.divInt_mul_divInt a.num b.num (d₁ := a.den) (d₂ := b.den)
  rw [Rat.num_divInt_den, Rat.num_divInt_den] at h
  exact h.symm
theorem div_div (a b : Rat) : Rat.divInt (a.num * b.den) ((a.den : Int) * b.num) = a / b := by
  have h := Rat.divInt_mul_divInt a.num b.den (d₁ := a.den) (d₂ := b.num)
  rw [Rat.num_divInt_den, ← Rat.inv_def] at h
  exact h.symm
/-! ### sizes -/
def Sz (k : Nat) (r : Rat) : Prop := r.num.natAbs < 2 ^ k ∧ r.den < 2 ^ k
theorem natAbs_div_le (a : Int) (n : Nat) : (a / (n : Int)).natAbs ≤ a.natAbs := Int.natAbs_ediv_le_natAbs a n
theorem Sz.mk {k : Nat} {a b : Int} (h1 : a.natAbs < 2 ^ k) (h2 : b.natAbs < 2 ^ k) (hb : b ≠ 0) : Sz k (Rat.divInt a b) := by
  constructor
  · rw [Rat.num_divInt]
    refine Nat.lt_of_le_of_lt (natAbs_div_le _ _) ?_
    rw [Int.natAbs_mul, Int.natAbs_sign_of_ne_zero hb, Nat.one_mul]
    exact h1
  · rw [Rat.den_divInt, if_neg hb]
    exact Nat.lt_of_le_of_lt (Nat.div_le_self _ _) h2
theorem Sz.mono {k l : Nat} {a : Rat} (h : Sz k a) (hl : k ≤ l) : Sz l a := ⟨Nat.lt_of_lt_of_le h.1 (Nat.pow_le_pow_right (by decide) hl), Nat.lt_of_lt_of_le h.2 (Nat.pow_le_pow_right (by decide) hl)⟩
theorem lt_pow_mul {a b k l : Nat} (h1 : a < 2 ^ k) (h2 : b < 2 ^ l) : a * b < 2 ^ (k + l) := by
  rw [Nat.pow_add]
  exact Nat.mul_lt_mul'' h1 h2
theorem Sz.d {k : Nat} {a : Rat} (h : Sz k a) : ((a.den : Int)).natAbs < 2 ^ k := by have := h.2; omega
theorem mul_abs {a b : Int} {k l : Nat} (h1 : a.natAbs < 2 ^ k) (h2 : b.natAbs < 2 ^ l) : (a * b).natAbs < 2 ^ (k + l) := by
  rw [Int.natAbs_mul]; exact lt_pow_mul h1 h2
theorem add_abs {a b : Int} {k : Nat} (h1 : a.natAbs < 2 ^ k) (h2 : b.natAbs < 2 ^ k) : (a + b).natAbs < 2 ^ (k + 1) := by
  have := Int.natAbs_add_le a b
  rw [Nat.pow_succ]; omega
theorem sub_abs {a b : Int} {k : Nat} (h1 : a.natAbs < 2 ^ k) (h2 : b.natAbs < 2 ^ k) : (a - b).natAbs < 2 ^ (k + 1) := by
  have := Int.natAbs_sub_le a b
  rw [Nat.pow_succ]; omega
theorem abs_mono {a : Int} {k l : Nat} (h : a.natAbs < 2 ^ k) (hl : k ≤ l) : a.natAbs < 2 ^ l := Nat.lt_of_lt_of_le h (Nat.pow_le_pow_right (by decide) hl)
theorem Sz.upAdd {k l : Nat} {a b : Rat} (h1 : Sz k a) (h2 : Sz l b) : (a.num * b.den + b.num * a.den).natAbs < 2 ^ (k + l + 1) := add_abs (mul_abs h1.1 h2.d) (by rw [Nat.add_comm k l]; exact mul_abs h2.1 h1.d)
theorem Sz.upSub {k l : Nat} {a b : Rat} (h1 : Sz k a) (h2 : Sz l b) : (a.num * b.den - b.num * a.den).natAbs < 2 ^ (k + l + 1) := sub_abs (mul_abs h1.1 h2.d) (by rw [Nat.add_comm k l]; exact mul_abs h2.1 h1.d)
theorem Sz.dens {k l : Nat} {a b : Rat} (h1 : Sz k a) (h2 : Sz l b) : ((a.den : Int) * b.den).natAbs < 2 ^ (k + l) := mul_abs h1.d h2.d
theorem dens_ne (a b : Rat) : (a.den : Int) * b.den ≠ 0 := by
  have h1 := den_pos a
  have h2 := den_pos b
  have := Int.mul_pos h1 h2
  omega
theorem Sz.add {k l : Nat} {a b : Rat} (h1 : Sz k a) (h2 : Sz l b) : Sz (k + l + 1) (a + b) := by
  rw [← div_add]
  exact .mk (h1.upAdd h2) (abs_mono (h1.dens h2) (by omega)) (dens_ne a b)
theorem Sz.sub {k l : Nat} {a b : Rat} (h1 : Sz k a) (h2 : Sz l b) : Sz (k + l + 1) (a - b) := by
  rw [← div_sub]
  exact .mk (h1.upSub h2) (abs_mono (h1.dens h2) (by omega)) (dens_ne a b)
theorem Sz.mul {k l : Nat} {a b : Rat} (h1 : Sz k a) (h2 : Sz l b) : Sz (k + l) (a * b) := by
  rw [← div_mul]
  exact .mk (mul_abs h1.1 h2.1) (h1.dens h2) (dens_ne a b)
theorem Sz.neg {k : Nat} {a : Rat} (h : Sz k a) : Sz k (-a) := ⟨by rw [Rat.neg_num, Int.natAbs_neg]; exact h.1, by rw [Rat.neg_den]; exact h.2⟩
theorem Sz.div {k l : Nat} {a b : Rat} (h1 : Sz k a) (h2 : Sz l b) (hb : b ≠ 0) : Sz (k + l) (a / b) := by
  rw [← div_div]
  refine .mk (mul_abs h1.1 h2.d) (mul_abs h1.d h2.1) ?_
  have h3 := den_pos a
  have h4 : b.num ≠ 0 := fun e => hb (Rat.num_eq_zero.mp e)
  exact Int.mul_ne_zero (by omega) h4
theorem Sz.int {k : Nat} {n : Int} (h : n.natAbs < 2 ^ k) (hk : 0 < k) : Sz k (n : Rat) := ⟨h, Nat.one_lt_two_pow (by omega)⟩
theorem Sz.inv {k : Nat} {a : Rat} (h : Sz k a) (ha : a ≠ 0) : Sz (1 + k) a⁻¹ := by
  have := Sz.div (k := 1) (a := 1) ⟨by decide, by decide⟩ h ha
  rwa [Rat.div_def, Rat.one_mul] at this
theorem Sz.zero : Sz 1 0 := ⟨by decide, by decide⟩
theorem Sz.one : Sz 1 1 := ⟨by decide, by decide⟩
theorem cmw {a b : Int} {k l : Nat} (h1 : a.natAbs < 2 ^ k) (h2 : b.natAbs < 2 ^ l) (h : k + l ≤ 100000) : CMulW a b := by
  have e1 : a.natAbs.log2 ≤ k := by
    by_cases h0 : a.natAbs = 0
    · rw [h0, Nat.log2_zero]; omega
    · exact Nat.le_of_lt ((Nat.log2_lt h0).mpr h1)
  have e2 : b.natAbs.log2 ≤ l := by
    by_cases h0 : b.natAbs = 0
    · rw [h0, Nat.log2_zero]; omega
    · exact Nat.le_of_lt ((Nat.log2_lt h0).mpr h2)
  show a.natAbs.log2 + b.natAbs.log2 < 1000000
  omega
/-! ### the greatest divisor by a loop -/
theorem gcd_step {a b : Int} (ha : 0 ≤ a) (hb : 0 < b) : Int.gcd b (a % b) = Int.gcd a b := by
  obtain ⟨m, rfl⟩ := Int.eq_ofNat_of_zero_le ha
  obtain ⟨n, rfl⟩ := Int.eq_ofNat_of_zero_le (show 0 ≤ b by omega)
  rw [← Int.natCast_emod, Int.gcd_natCast_natCast, Int.gcd_natCast_natCast, Nat.gcd_comm m n, Nat.gcd_rec n m, Nat.gcd_comm]
theorem gcd_loop {R S : Type} {c : Int × Int → Bool} {f : Int × Int → Out (Int × Int) R (Int × Int)} {gc gb : Int × Int → Prop} (hc : ∀ a b : Int, 0 ≤ b → c (a, b) = decide (0 < b)) (hf : ∀ a b : Int, f (a, b) = .nx (b, a % b)) (hgc : ∀ a b : Int, 0 ≤ b → gc (a, b)) (hgb : ∀ a b : Int, 0 < b → gb (a, b)) :
    ∀ (n : Nat) (a b : Int), 0 ≤ a → 0 ≤ b → b.toNat < n → whO (S := S) c f n (a, b) = .nx ((Int.gcd a b : Int), 0) ∧ whG gc c gb f n (a, b)
  | 0, a, b, _, _, h => absurd h (by omega)
  | n + 1, a, b, ha, hb, h => by
    by_cases h0 : 0 < b
    · have e : c (a, b) = true := by rw [hc a b hb]; exact decide_eq_true h0
      obtain ⟨i1, i2⟩ := gcd_loop (S := S) hc hf hgc hgb n b (a % b) hb (Int.emod_nonneg _ (by omega)) (by
        have := Int.emod_lt_of_pos a h0
        omega)
      refine ⟨?_, hgc a b hb, fun _ => ⟨hgb a b h0, ?_⟩⟩
      · rw [whO, if_pos e, hf]
        show whO c f n (b, a % b) = _
        rw [i1, gcd_step ha h0]
      · rw [hf]; exact i2
    · have e : c (a, b) = false := by rw [hc a b hb]; exact decide_eq_false h0
      have : b = 0 := by omega
      subst this
      refine ⟨?_, hgc a 0 hb, fun z => by rw [e] at z; cases z⟩
      rw [whO, e, if_neg Bool.false_ne_true]
      congr 1
      refine Prod.ext ?_ rfl
      show a = (Int.gcd a 0 : Int)
      rw [Int.gcd_zero_right]
      omega
theorem gcd_bd {a b : Int} {k : Nat} (hb : 0 < b) (h : b.natAbs < 2 ^ k) (hk : k ≤ 8000) : CDivW a (Int.gcd a b : Int) := by
  have h1 : 0 < Int.gcd a b := Int.gcd_pos_of_ne_zero_right _ (by omega)
  have h2 : Int.gcd a b ≤ b.natAbs := Int.gcd_le_natAbs_right _ (by omega)
  refine ⟨by omega, ?_⟩
  have h3 : ((Int.gcd a b : Int)).natAbs < 2 ^ k := by omega
  have := (Nat.log2_lt (show ((Int.gcd a b : Int)).natAbs ≠ 0 by omega)).mpr h3
  omega
theorem gcd_abs (a b : Int) : Int.gcd (a.natAbs : Int) b = Int.gcd a b := by
  unfold Int.gcd
  rw [Int.natAbs_natCast]
theorem Sz.ge1 {k : Nat} {a : Rat} (h : Sz k a) : 1 ≤ k := by
  have h1 := h.2
  have h2 := a.den_nz
  rcases k with _ | k
  · simp at h1; omega
  · omega
theorem Sz.num12 {a : Rat} (h : Sz 39 a) : a.num.natAbs ≤ 1000000000000 ∧ (a.den : Int) ≤ 1000000000000 := by
  have h1 := h.1
  have h2 := h.2
  have : (2 : Nat) ^ 39 = 549755813888 := by decide
  omega
/-! ### sums -/
def rsum (xs : List Rat) : Rat := xs.foldl (· + ·) 0
theorem rsum_go : ∀ (xs : List Rat) (t : Rat), xs.foldl (· + ·) t = t + rsum xs
  | [], t => by show t = t + 0; rw [Rat.add_zero]
  | x :: xs, t => by
    show xs.foldl (· + ·) (t + x) = t + xs.foldl (· + ·) (0 + x)
    rw [rsum_go xs (t + x), rsum_go xs (0 + x), Rat.zero_add, Rat.add_assoc]
theorem rsum_nil : rsum [] = 0 := rfl
theorem rsum_cons (x : Rat) (xs : List Rat) : rsum (x :: xs) = x + rsum xs := by
  show xs.foldl (· + ·) (0 + x) = _
  rw [rsum_go, Rat.zero_add]
theorem rsum_append : ∀ (xs ys : List Rat), rsum (xs ++ ys) = rsum xs + rsum ys
  | [], ys => by rw [List.nil_append, rsum_nil, Rat.zero_add]
  | x :: xs, ys => by rw [List.cons_append, rsum_cons, rsum_cons, rsum_append xs ys, Rat.add_assoc]
theorem rsum_rev : ∀ xs : List Rat, rsum xs.reverse = rsum xs
  | [] => rfl
  | x :: xs => by rw [List.reverse_cons, rsum_append, rsum_rev xs, rsum_cons, rsum_cons, rsum_nil, Rat.add_zero, Rat.add_comm]
theorem rsum_map_add {α : Type} (f g : α → Rat) : ∀ xs : List α, rsum (xs.map fun x => f x + g x) = rsum (xs.map f) + rsum (xs.map g)
  | [] => by show (0 : Rat) = 0 + 0; rw [Rat.add_zero]
  | x :: xs => by
    simp only [List.map_cons, rsum_cons, rsum_map_add f g xs]
    grind
theorem rsum_map_mul {α : Type} (f : α → Rat) (c : Rat) : ∀ xs : List α, rsum (xs.map fun x => f x * c) = rsum (xs.map f) * c
  | [] => by show (0 : Rat) = 0 * c; rw [Rat.zero_mul]
  | x :: xs => by
    simp only [List.map_cons, rsum_cons, rsum_map_mul f c xs]
    grind
theorem rsum_map_neg {α : Type} (f : α → Rat) : ∀ xs : List α, rsum (xs.map fun x => -f x) = -rsum (xs.map f)
  | [] => rfl
  | x :: xs => by
    simp only [List.map_cons, rsum_cons, rsum_map_neg f xs]
    grind
theorem rsum_congr {α : Type} {f g : α → Rat} : ∀ (xs : List α), (∀ x ∈ xs, f x = g x) → rsum (xs.map f) = rsum (xs.map g)
  | [], _ => rfl
  | x :: xs, h => by
    simp only [List.map_cons, rsum_cons, rsum_congr xs fun y hy => h y (List.mem_cons_of_mem _ hy), h x List.mem_cons_self]
theorem rsum_nonneg : ∀ (xs : List Rat), (∀ x ∈ xs, 0 ≤ x) → 0 ≤ rsum xs
  | [], _ => Rat.le_refl
  | x :: xs, h => by
    rw [rsum_cons]
    exact Rat.add_nonneg (h x List.mem_cons_self) (rsum_nonneg xs fun y hy => h y (List.mem_cons_of_mem _ hy))
theorem rsum_pos : ∀ (xs : List Rat), xs ≠ [] → (∀ x ∈ xs, 0 < x) → 0 < rsum xs
  | [], h, _ => absurd rfl h
  | x :: xs, _, h => by
    rw [rsum_cons]
    have h1 := h x List.mem_cons_self
    have h2 := rsum_nonneg xs fun y hy => Rat.le_of_lt (h y (List.mem_cons_of_mem _ hy))
    grind
theorem num_pos {a : Rat} (h : 0 < a) : 0 < a.num := by
  have := (Rat.lt_iff 0 a).mp h
  simpa using this
theorem num_nn {a : Rat} (h : 0 ≤ a) : 0 ≤ a.num := Rat.num_nonneg.mpr h
/-! ### shown -/
theorem sw_z {x : Int} (h : x.natAbs < 2 ^ 1800) : Sw 1901 0 (.int x) := by
  have h1 : x.natAbs.log2 < 1900 := Nat.lt_trans (log2_lt (k := 1799) h) (by decide)
  exact ⟨by simp only [PyData.showable, decide_eq_true_eq]; omega, by simp [PyData.hasDict], by simp [PyData.depth], by
    have e := int_text_length_le (k := 1900) (by decide) h1
    show (Str.ofString (toString x)).length ≤ 1901
    rw [PySem.ofString_length]; exact e⟩
theorem sw_qp {r : Rat} {k : Nat} (h : Sz k r) (hk : k ≤ 1800) : Sw 3809 1 (c2 cI cI (qp r)) := (sw_2 (sw_z (h.mono hk).1) (sw_z (h.mono hk).d)).mono (by decide) (by decide)
end Y
namespace Z
open PySem PySem.Spec PyProof.Rows L2 Y
/-! ### costs year by year -/
def wr (r : Rat) : Rat → List Int → Rat
  | _, [] => 0
  | w, x :: xs => (x : Rat) * w + wr r (w * r) xs
theorem wr_mul (r c : Rat) : ∀ (xs : List Int) (w : Rat), wr r (w * c) xs = wr r w xs * c
  | [], w => by show (0 : Rat) = 0 * c; rw [Rat.zero_mul]
  | x :: xs, w => by
    have := wr_mul r c xs (w * r)
    have e : w * c * r = w * r * c := by rw [Rat.mul_assoc, Rat.mul_comm c, ← Rat.mul_assoc]
    show (x : Rat) * (w * c) + wr r (w * c * r) xs = ((x : Rat) * w + wr r (w * r) xs) * c
    rw [e, this, Rat.add_mul, Rat.mul_assoc]
theorem wr_app (r : Rat) : ∀ (xs ys : List Int) (w : Rat), wr r w (xs ++ ys) = wr r w xs + wr r (w * r ^ xs.length) ys
  | [], ys, w => by
    rw [List.nil_append, List.length_nil, Rat.pow_zero, Rat.mul_one]
    show _ = 0 + _
    rw [Rat.zero_add]
  | x :: xs, ys, w => by
    have := wr_app r xs ys (w * r)
    show (x : Rat) * w + wr r (w * r) (xs ++ ys) = (x : Rat) * w + wr r (w * r) xs + _
    rw [this, List.length_cons, Rat.pow_succ, Rat.mul_assoc w r, Rat.mul_comm r, Rat.add_assoc]
theorem wr_snoc (r : Rat) (xs : List Int) (x : Int) : wr r 1 (xs ++ [x]) = wr r 1 xs + (x : Rat) * r ^ xs.length := by
  rw [wr_app, Rat.one_mul]
  show _ + ((x : Rat) * _ + 0) = _
  rw [Rat.add_zero]
theorem wr_scale (r : Rat) (m : Int) : ∀ (xs : List Int) (w : Rat), wr r w (xs.map (· * m)) = wr r w xs * (m : Rat)
  | [], w => by show (0 : Rat) = 0 * _; rw [Rat.zero_mul]
  | x :: xs, w => by
    have := wr_scale r m xs (w * r)
    rw [List.map_cons]
    show ((x * m : Int) : Rat) * w + wr r (w * r) (xs.map (· * m)) = ((x : Rat) * w + wr r (w * r) xs) * (m : Rat)
    rw [this, Rat.intCast_mul]
    grind
theorem wr_one : ∀ (xs : List Int), wr 1 1 xs = ((xs.sum : Int) : Rat)
  | [] => rfl
  | x :: xs => by
    have := wr_one xs
    show (x : Rat) * 1 + wr 1 (1 * 1) xs = _
    rw [Rat.mul_one, Rat.mul_one, this, List.sum_cons, Rat.intCast_add]
def addH (c : Int) : List Int → List Int
  | [] => []
  | x :: xs => (x + c) :: xs
theorem addH_len (c : Int) (xs : List Int) : (addH c xs).length = xs.length := by cases xs <;> rfl
theorem wr_addH (r w : Rat) (c : Int) {xs : List Int} (h : xs ≠ []) : wr r w (addH c xs) = wr r w xs + (c : Rat) * w := by
  cases xs with
  | nil => exact absurd rfl h
  | cons x xs =>
    show ((x + c : Int) : Rat) * w + wr r (w * r) xs = (x : Rat) * w + wr r (w * r) xs + (c : Rat) * w
    rw [Rat.intCast_add]
    grind
theorem sz_wr {r : Rat} {K : Nat} : ∀ (xs : List Int) (w : Rat), (∀ x ∈ xs, x.natAbs < 2 ^ 18) → (∀ j, j ≤ xs.length → Sz K (w * r ^ j)) → Sz (1 + (19 + K) * xs.length) (wr r w xs)
  | [], w, _, _ => Sz.zero
  | x :: xs, w, hx, hw => by
    have h1 := hw 0 (Nat.zero_le _)
    rw [Rat.pow_zero, Rat.mul_one] at h1
    have ih := sz_wr xs (w * r) (fun y hy => hx y (List.mem_cons_of_mem _ hy)) fun j hj => by
      have := hw (j + 1) (by rw [List.length_cons]; omega)
      rwa [Rat.pow_succ, Rat.mul_comm (r ^ j), ← Rat.mul_assoc] at this
    have t : Sz 18 (x : Rat) := .int (hx x List.mem_cons_self) (by decide)
    have := (t.mul h1).add ih
    rw [List.length_cons, Nat.mul_add]
    exact this.mono (by omega)
theorem sz_pow {r : Rat} {k : Nat} (h : Sz k r) : ∀ n : Nat, Sz (1 + k * n) (r ^ n)
  | 0 => by rw [Rat.pow_zero]; exact Sz.one
  | n + 1 => by
    rw [Rat.pow_succ, Nat.mul_add]
    exact ((sz_pow h n).mul h).mono (by omega)
abbrev Fr2 := Int × Int
abbrev Br3 := Int × Int × Int
def fcs (f : Fr2) (T : List Int) : List Int := T.map fun x => f.1 + x * f.2
def bcs (b : Br3) (T : List Int) : List Int := T.map fun x => b.2.1 + x * b.2.2
def swi (f : Fr2) (b : Br3) (T : List Int) : Option Int → List Int
  | none => fcs f T
  | some y => (fcs f T).take y.toNat ++ addH b.1 ((bcs b T).drop y.toNat)
def yrs (n : Nat) (k : Nat) : Option Int := if k < n then some (k : Int) else none
/-- a year later -/
theorem later (f : Fr2) (b : Br3) (T : List Int) (r : Rat) {k : Nat} (hk : k < T.length) : wr r 1 (swi f b T (yrs T.length k)) = wr r 1 (swi f b T (yrs T.length (k + 1))) + (((b.1 + (b.2.1 + T[k] * b.2.2) - (f.1 + T[k] * f.2) : Int) : Rat) - (if k + 1 < T.length then (b.1 : Rat) * r else 0)) * r ^ k := by
  have lf : (fcs f T).length = T.length := List.length_map ..
  have lb : (bcs b T).length = T.length := List.length_map ..
  have hf : k < (fcs f T).length := by omega
  have hb : k < (bcs b T).length := by omega
  have ef : (fcs f T)[k] = f.1 + T[k] * f.2 := List.getElem_map ..
  have eb : (bcs b T)[k] = b.2.1 + T[k] * b.2.2 := List.getElem_map ..
  have lt : ((fcs f T).take k).length = k := by rw [List.length_take]; omega
  have e0 : wr r 1 (swi f b T (yrs T.length k)) = wr r 1 ((fcs f T).take k) + ((b.2.1 + T[k] * b.2.2 : Int) : Rat) * r ^ k + wr r (r ^ k * r) ((bcs b T).drop (k + 1)) + (b.1 : Rat) * r ^ k := by
    have : yrs T.length k = some (k : Int) := if_pos hk
    rw [this]
    show wr r 1 ((fcs f T).take (k : Int).toNat ++ addH b.1 ((bcs b T).drop (k : Int).toNat)) = _
    rw [Int.toNat_natCast, wr_app, lt, Rat.one_mul, wr_addH _ _ _ (fun e => by have := congrArg List.length e; rw [List.length_drop, List.length_nil] at this; omega), ← List.getElem_cons_drop hb, eb]
    show _ + (((_ : Int) : Rat) * r ^ k + wr r (r ^ k * r) _ + _) = _
    grind
  by_cases c : k + 1 < T.length
  · have hb1 : k + 1 < (bcs b T).length := by omega
    have lt1 : ((fcs f T).take (k + 1)).length = k + 1 := by rw [List.length_take]; omega
    have e1 : wr r 1 (swi f b T (yrs T.length (k + 1))) = wr r 1 ((fcs f T).take k) + ((f.1 + T[k] * f.2 : Int) : Rat) * r ^ k + wr r (r ^ k * r) ((bcs b T).drop (k + 1)) + (b.1 : Rat) * (r ^ k * r) := by
      have : yrs T.length (k + 1) = some ((k + 1 : Nat) : Int) := if_pos c
      rw [this]
      show wr r 1 ((fcs f T).take ((k + 1 : Nat) : Int).toNat ++ addH b.1 ((bcs b T).drop ((k + 1 : Nat) : Int).toNat)) = _
      rw [Int.toNat_natCast, wr_app, lt1, Rat.one_mul, wr_addH _ _ _ (fun e => by have := congrArg List.length e; rw [List.length_drop, List.length_nil] at this; omega), List.take_succ_eq_append_getElem hf, wr_snoc, lt, ef, Rat.pow_succ]
      grind
    rw [e0, e1, if_pos c]
    simp only [Rat.intCast_add, Rat.intCast_sub]
    grind
  · have hk1 : k + 1 = T.length := by omega
    have e1 : wr r 1 (swi f b T (yrs T.length (k + 1))) = wr r 1 ((fcs f T).take k) + ((f.1 + T[k] * f.2 : Int) : Rat) * r ^ k := by
      have : yrs T.length (k + 1) = none := if_neg c
      rw [this]
      show wr r 1 (fcs f T) = _
      have : fcs f T = (fcs f T).take k ++ [(fcs f T)[k]] := by
        rw [← List.take_succ_eq_append_getElem hf, List.take_of_length_le (by omega)]
      rw [congrArg (wr r 1) this, wr_snoc, lt, ef]
    have e2 : (bcs b T).drop (k + 1) = [] := List.drop_of_length_le (by omega)
    rw [e0, e1, if_neg c, e2]
    simp only [Rat.intCast_add, Rat.intCast_sub]
    show _ + _ + (0 : Rat) + _ = _
    grind
/-! the least of costs -/
def bstep {β : Type} (C : β → Rat) (m : Option (Rat × β)) (y : β) : Option (Rat × β) := match m with
  | none => some (C y, y)
  | some p => if C y < p.1 then some (C y, y) else some p
theorem bmin_go {β : Type} (C : β → Rat) : ∀ (xs : List β) (p : Rat × β), ∃ q : Rat × β, xs.foldl (bstep C) (some p) = some q ∧ (q = p ∨ ∃ y ∈ xs, q = (C y, y)) ∧ q.1 ≤ p.1 ∧ ∀ x ∈ xs, q.1 ≤ C x
  | [], p => ⟨p, rfl, .inl rfl, Rat.le_refl, by simp⟩
  | x :: xs, p => by
    by_cases h : C x < p.1
    · obtain ⟨q, e, a, b, c⟩ := bmin_go C xs (C x, x)
      refine ⟨q, ?_, ?_, Rat.le_trans b (Rat.le_of_lt h), fun y hy => ?_⟩
      · rw [List.foldl_cons]
        show xs.foldl (bstep C) (if C x < p.1 then _ else _) = _
        rw [if_pos h]; exact e
      · rcases a with a | ⟨y, hy, a⟩
        · exact .inr ⟨x, List.mem_cons_self, a⟩
        · exact .inr ⟨y, List.mem_cons_of_mem _ hy, a⟩
      · rcases List.mem_cons.mp hy with rfl | hy
        · exact b
        · exact c y hy
    · obtain ⟨q, e, a, b, c⟩ := bmin_go C xs p
      refine ⟨q, ?_, ?_, b, fun y hy => ?_⟩
      · rw [List.foldl_cons]
        show xs.foldl (bstep C) (if C x < p.1 then _ else _) = _
        rw [if_neg h]; exact e
      · rcases a with a | ⟨y, hy, a⟩
        · exact .inl a
        · exact .inr ⟨y, List.mem_cons_of_mem _ hy, a⟩
      · rcases List.mem_cons.mp hy with rfl | hy
        · exact Rat.le_trans b (Rat.not_lt.mp h)
        · exact c y hy
theorem bmin_is {β : Type} (C : β → Rat) {xs : List β} (h : xs ≠ []) : ∃ y ∈ xs, xs.foldl (bstep C) none = some (C y, y) ∧ ∀ x ∈ xs, C y ≤ C x := by
  cases xs with
  | nil => exact absurd rfl h
  | cons x xs =>
    obtain ⟨q, e, a, b, c⟩ := bmin_go C xs (C x, x)
    rcases a with rfl | ⟨y, hy, rfl⟩
    · refine ⟨x, List.mem_cons_self, e, fun y hy => ?_⟩
      rcases List.mem_cons.mp hy with rfl | hy
      · exact Rat.le_refl
      · exact c y hy
    · refine ⟨y, List.mem_cons_of_mem _ hy, e, fun z hz => ?_⟩
      rcases List.mem_cons.mp hz with rfl | hz
      · exact b
      · exact c z hz
theorem bmin_scale {β : Type} {C C' : β → Rat} {m : Rat} (hm : 0 < m) : ∀ (xs : List β) (o : Option (Rat × β)), (∀ x ∈ xs, C' x = C x * m) → xs.foldl (bstep C') (o.map fun p => (p.1 * m, p.2)) = (xs.foldl (bstep C) o).map fun p => (p.1 * m, p.2)
  | [], o, _ => rfl
  | x :: xs, o, h => by
    have h1 := h x List.mem_cons_self
    have e : bstep C' (o.map fun p => (p.1 * m, p.2)) x = (bstep C o x).map fun p => (p.1 * m, p.2) := by
      cases o with
      | none => show some (C' x, x) = some (C x * m, x); rw [h1]
      | some p =>
        show (if C' x < p.1 * m then some (C' x, x) else some (p.1 * m, p.2)) = (if C x < p.1 then some (C x, x) else some p).map _
        rw [h1]
        by_cases c : C x < p.1
        · rw [if_pos c, if_pos ((Rat.mul_lt_mul_right hm).mpr c)]; rfl
        · rw [if_neg c, if_neg fun q => c ((Rat.mul_lt_mul_right hm).mp q)]; rfl
    rw [List.foldl_cons, List.foldl_cons, e]
    exact bmin_scale hm xs _ fun y hy => h y (List.mem_cons_of_mem _ hy)
/-! debts -/
def cur (r s : Rat) (ps : List Rat) : Rat := ps.foldl (fun d p => (d - p) / r) s
theorem cur_snoc (r s : Rat) (ps : List Rat) (p : Rat) : cur r s (ps ++ [p]) = (cur r s ps - p) / r := by
  unfold cur
  rw [List.foldl_append, List.foldl_cons, List.foldl_nil]
theorem cur_add (r : Rat) : ∀ (l : List (Rat × Rat)) (s t : Rat), cur r (s + t) (l.map fun q => q.1 + q.2) = cur r s (l.map fun q => q.1) + cur r t (l.map fun q => q.2)
  | [], s, t => rfl
  | q :: l, s, t => by
    have := cur_add r l ((s - q.1) / r) ((t - q.2) / r)
    have e : (s + t - (q.1 + q.2)) / r = (s - q.1) / r + (t - q.2) / r := by grind
    show cur r ((s + t - (q.1 + q.2)) / r) _ = _
    rw [e, this]
    rfl
/-- how much is owed behind k payments of n -/
def owe (r s : Rat) (ps : List Rat) (k : Nat) : Rat := if k < ps.length ∨ k = 0 then cur r s (ps.take k) else cur r s (ps.take (k - 1)) - (ps[k - 1]?).getD 0
theorem owe_add (r s t : Rat) (l : List (Rat × Rat)) (k : Nat) : owe r (s + t) (l.map fun q => q.1 + q.2) k = owe r s (l.map fun q => q.1) k + owe r t (l.map fun q => q.2) k := by
  unfold owe
  simp only [List.length_map, ← List.map_take]
  by_cases c : k < l.length ∨ k = 0
  · rw [if_pos c, if_pos c, if_pos c, cur_add]
  · rw [if_neg c, if_neg c, if_neg c, cur_add]
    simp only [List.getElem?_map]
    cases l[k - 1]? with
    | none => simp only [Option.map_none, Option.getD_none]; grind
    | some q => simp only [Option.map_some, Option.getD_some]; grind
def psum (r : Rat) (n : Nat) : Rat := rsum ((List.range n).map fun k => r ^ k)
theorem psum_succ (r : Rat) (n : Nat) : psum r (n + 1) = psum r n + r ^ n := by
  unfold psum
  rw [List.range_succ, List.map_append, rsum_append, List.map_singleton, rsum_cons, rsum_nil, Rat.add_zero]
theorem cur_rep (r s p : Rat) (hr : r ≠ 0) : ∀ n : Nat, cur r s (List.replicate n p) * r ^ n = s - p * psum r n
  | 0 => by
    show s * r ^ 0 = s - p * 0
    rw [Rat.pow_zero, Rat.mul_one]
    grind
  | n + 1 => by
    have ih := cur_rep r s p hr n
    rw [List.replicate_succ', cur_snoc, psum_succ, Rat.pow_succ]
    have : (cur r s (List.replicate n p) - p) / r * (r ^ n * r) = cur r s (List.replicate n p) * r ^ n - p * r ^ n := by
      generalize r ^ n = z
      grind
    rw [this, ih]
    grind
theorem psum_pos {r : Rat} (h : 0 < r) {n : Nat} (hn : 0 < n) : 0 < psum r n := rsum_pos _ (by
  intro e
  have := congrArg List.length e
  rw [List.length_map, List.length_range] at this
  simp at this; omega) fun x hx => by
    obtain ⟨k, _, rfl⟩ := List.mem_map.mp hx
    exact Rat.pow_pos h
theorem owe_even (r s : Rat) (h : 0 < r) {n : Nat} (hn : 0 < n) : owe r s (List.replicate n (s / psum r n)) n = 0 := by
  have hne := Rat.ne_of_gt h
  have pp := Rat.ne_of_gt (psum_pos h hn)
  obtain ⟨m, rfl⟩ : ∃ m, n = m + 1 := ⟨n - 1, by omega⟩
  unfold owe
  rw [if_neg (by simp), Nat.add_sub_cancel, List.take_replicate, Nat.min_eq_left (by omega), List.getElem?_replicate, if_pos (by omega), Option.getD_some]
  have e := cur_rep r s (s / psum r (m + 1)) hne m
  rw [psum_succ] at *
  have zp : r ^ m ≠ 0 := Rat.ne_of_gt (Rat.pow_pos h)
  generalize cur r s (List.replicate m (s / (psum r m + r ^ m))) = q at *
  generalize r ^ m = z at *
  generalize psum r m = y at *
  grind
/-! growth -/
def grw (a b : Int) (x : Int) : Nat → Int
  | 0 => x
  | n + 1 => grw a b x n * a / b
theorem grw_add (a b x : Int) (k : Nat) : ∀ n : Nat, grw a b (grw a b x k) n = grw a b x (k + n)
  | 0 => rfl
  | n + 1 => by
    show grw a b (grw a b x k) n * a / b = grw a b x (k + n) * a / b
    rw [grw_add a b x k n]
end Z
namespace Z
open PySem PySem.Spec PyProof.Rows L2 Y

theorem draw_ok {t : St4} {m : Int} (h : Wf t) (h0 : 0 < m) (h1 : m < 2 ^ 63) : g__law_draw ((m, ()), t) ∧ 0 ≤ (m__law_draw ((m, ()), t)).1 ∧ (m__law_draw ((m, ()), t)).1 < m ∧ Wf (m__law_draw ((m, ()), t)).2 := by
  obtain ⟨xs, a, i, z⟩ := t
  obtain ⟨w1, w2, w3, w4, w5, w6⟩ := h
  simp only at w1 w2 w3 w4 w5 w6
  have dm : ∀ x : Int, CDivW x m := fun x => ⟨h0, Nat.lt_trans (log2_lt (k := 62) (by omega)) (by decide)⟩
  have d13 : ∀ x : Int, CDivW x 13 := fun x => ⟨by decide, by decide⟩
  have em : ∀ x : Int, 0 ≤ x % m ∧ x % m < m := fun x => ⟨Int.emod_nonneg _ (by omega), Int.emod_lt_of_pos _ h0⟩
  have ed : ∀ x : Int, 0 ≤ x → 0 ≤ x / m := fun x hx => Int.ediv_nonneg hx (by omega)
  have cm : CMul z 48271 := .inr ⟨by decide, by decide⟩
  unfold g__law_draw m__law_draw o__law_draw
  simp only [true_and, and_true, implies_true, dm, d13, cm, h0]
  by_cases c0 : a = 0
  · by_cases c1 : (xs.length : Int) ≤ i
    · have hc : (decide (a = 0) && decide ((xs.length : Int) ≤ i)) = true := by simp [c0, c1]
      have hz : 0 ≤ (z * 48271 + 69621) % 2147483629 ∧ (z * 48271 + 69621) % 2147483629 ≤ 2147483629 := by omega
      rw [hc]
      simp only [true_implies, Bool.true_eq_false, false_implies, and_true, if_true, ret_rt]
      exact ⟨by decide, (em _).1, (em _).2, w1, w2, w3, w4, hz⟩
    · have hc : (decide (a = 0) && decide ((xs.length : Int) ≤ i)) = false := by simp [c1]
      have hi : CIx xs i := cix_of w3 (by omega)
      have hk : decide (a = 0) = true := by simp [c0]
      have hi2 : 0 ≤ i + 1 ∧ i + 1 ≤ (xs.length : Int) := by omega
      rw [hc]
      simp only [hk, hi, true_implies, Bool.false_eq_true, Bool.true_eq_false, false_implies, and_true, true_and, if_true, if_false, ret_rt]
      exact ⟨(em _).1, (em _).2, w1, ed _ (by omega), hi2.1, hi2.2, w5, w6⟩
  · have hc : (decide (a = 0) && decide ((xs.length : Int) ≤ i)) = false := by simp [c0]
    have hk : decide (a = 0) = false := by simp [c0]
    rw [hc]
    simp only [hk, true_implies, Bool.false_eq_true, Bool.true_eq_false, false_implies, and_true, true_and, if_false, ret_rt]
    exact ⟨(em _).1, (em _).2, w1, ed _ w2, w3, w4, w5, w6⟩

theorem law_pick_LI_ok {t : St4} {xs : List Int} (h : Wf t) (h0 : xs ≠ []) (h1 : xs.length < 1000) : g__law_pick_LI ((xs, ()), t) ∧ (m__law_pick_LI ((xs, ()), t)).1 ∈ xs ∧ Wf (m__law_pick_LI ((xs, ()), t)).2 := by
  have hl : 0 < xs.length := List.length_pos_iff.mpr h0
  obtain ⟨d1, d2, d3, d4⟩ := draw_ok (m := (xs.length : Int)) h (by omega) (by omega)
  unfold g__law_pick_LI m__law_pick_LI o__law_pick_LI
  simp only [true_and, and_true, ret_rt]
  exact ⟨⟨d1, cix_of d2 d3⟩, ixD_mem d2 d3, d4⟩

theorem law_pick_Q_ok {t : St4} {xs : List (Int × Int)} (h : Wf t) (h0 : xs ≠ []) (h1 : xs.length < 1000) : g__law_pick_Q ((xs, ()), t) ∧ (m__law_pick_Q ((xs, ()), t)).1 ∈ xs ∧ Wf (m__law_pick_Q ((xs, ()), t)).2 := by
  have hl : 0 < xs.length := List.length_pos_iff.mpr h0
  obtain ⟨d1, d2, d3, d4⟩ := draw_ok (m := (xs.length : Int)) h (by omega) (by omega)
  unfold g__law_pick_Q m__law_pick_Q o__law_pick_Q
  simp only [true_and, and_true, ret_rt]
  exact ⟨⟨d1, cix_of d2 d3⟩, ixD_mem d2 d3, d4⟩

theorem law_same_Q_ok {x y : Int × Int} (h : x = y) (hs : Shw ((c2 cI cI) x)) : g__law_same_Q (x, y, ()) ∧ m__law_same_Q (x, y, ()) = true := by
  subst h
  unfold g__law_same_Q m__law_same_Q o__law_same_Q
  simp only [eqv_T (cq_2 cq_I cq_I), decide_true, Bool.and_self, ret_rt, hs, true_and, and_true, implies_true]

theorem law_same_LQ_ok {x y : List (Int × Int)} (h : x = y) (hs : Shw ((cL (c2 cI cI)) x)) : g__law_same_LQ (x, y, ()) ∧ m__law_same_LQ (x, y, ()) = true := by
  subst h
  unfold g__law_same_LQ m__law_same_LQ o__law_same_LQ
  simp only [eqv_T (cq_L (cq_2 cq_I cq_I)), decide_true, Bool.and_self, ret_rt, hs, true_and, and_true, implies_true]

theorem law_same_TQ_ok {x y : List (Int × Int)} (h : x = y) (hs : Shw ((cT (c2 cI cI)) x)) : g__law_same_TQ (x, y, ()) ∧ m__law_same_TQ (x, y, ()) = true := by
  subst h
  unfold g__law_same_TQ m__law_same_TQ o__law_same_TQ
  simp only [eqv_T (cq_T (cq_2 cq_I cq_I)), decide_true, Bool.and_self, ret_rt, hs, true_and, and_true, implies_true]

theorem law_same_TI_ok {x y : List Int} (h : x = y) (hs : Shw ((cT cI) x)) : g__law_same_TI (x, y, ()) ∧ m__law_same_TI (x, y, ()) = true := by
  subst h
  unfold g__law_same_TI m__law_same_TI o__law_same_TI
  simp only [eqv_T (cq_T cq_I), decide_true, Bool.and_self, ret_rt, hs, true_and, and_true, implies_true]

theorem law_same_X_ok {x y : List PyData} (h : x = y) (hc : SeqAt.shaped ((cL cD) x) = true) (hs : Shw ((cL cD) x)) : g__law_same_X (x, y, ()) ∧ m__law_same_X (x, y, ()) = true := by
  subst h
  unfold g__law_same_X m__law_same_X o__law_same_X
  have e : PyData.eqv ((cL cD) x) ((cL cD) x) = true := PySem.SeqAt.eqv_refl _ (shaped_lay hc)
  simp only [e, hc, decide_true, Bool.and_self, ret_rt, hs, true_and, and_true, implies_true]

theorem m_isint (x : Int) : m_is_integer (x, ()) = true := rfl
theorem g_isint (x : Int) : g_is_integer (x, ()) := by unfold g_is_integer; simp

theorem gd_ok {a b : Int} (ha : 0 ≤ a) (hb : 0 ≤ b) : g_greatest_divisor (a, b, ()) ∧ m_greatest_divisor (a, b, ()) = (Int.gcd a b : Int) := by
  obtain ⟨h1, h2⟩ := gcd_loop (S := Empty) (c := kt1_greatest_divisor) (f := k1_greatest_divisor) (gc := ktg1_greatest_divisor) (gb := kg1_greatest_divisor) (fun a b _ => rfl) (fun a b => rfl) (fun a b _ => ⟨trivial, trivial, trivial⟩) (fun a b h => by unfold kg1_greatest_divisor; simp [h]) (b.toNat + 1) a b ha hb (by omega)
  unfold g_greatest_divisor m_greatest_divisor o_greatest_divisor
  dsimp only
  rw [h1]
  exact ⟨⟨h2, fun _ _ => trivial⟩, rfl⟩

theorem quot_ok {a b : Int} {k : Nat} (hb : b ≠ 0) (h1 : a.natAbs < 2 ^ k) (h2 : b.natAbs < 2 ^ k) (hk : k ≤ 8000) : g_quotient (a, b, ()) ∧ m_quotient (a, b, ()) = qp (Rat.divInt a b) := by
  have key : ∀ a b : Int, 0 < b → b.natAbs < 2 ^ k → (g_greatest_divisor ((a.natAbs : Int), b, ()) ∧ CDivW a (m_greatest_divisor ((a.natAbs : Int), b, ())) ∧ CDivW b (m_greatest_divisor ((a.natAbs : Int), b, ()))) ∧ (a / m_greatest_divisor ((a.natAbs : Int), b, ()), b / m_greatest_divisor ((a.natAbs : Int), b, ())) = qp (Rat.divInt a b) := fun a b h h2 => by
    obtain ⟨d1, d2⟩ := gd_ok (a := (a.natAbs : Int)) (b := b) (by omega) (by omega)
    rw [d2, gcd_abs]
    exact ⟨⟨d1, gcd_bd h h2 hk, gcd_bd h h2 hk⟩, qp_div h⟩
  unfold g_quotient m_quotient o_quotient
  dsimp only
  by_cases c : b < 0
  · obtain ⟨⟨k1, k2, k3⟩, k4⟩ := key (-a) (-b) (by omega) (by rw [Int.natAbs_neg]; exact h2)
    rw [if_pos (decide_eq_true c)]
    rw [Rat.neg_divInt_neg] at k4
    simp only [k1, k2, k3, true_and, and_true, implies_true, ret_rt]
    exact k4
  · obtain ⟨⟨k1, k2, k3⟩, k4⟩ := key a b (by omega) h2
    rw [if_neg (by rw [decide_eq_false c]; exact Bool.false_ne_true)]
    simp only [k1, k2, k3, true_and, and_true, implies_true, ret_rt]
    exact k4

theorem plus_ok {a b : Rat} {k l : Nat} (h1 : Sz k a) (h2 : Sz l b) (hk : k + l + 1 ≤ 8000) : g_plus (qp a, qp b, ()) ∧ m_plus (qp a, qp b, ()) = qp (a + b) := by
  obtain ⟨q1, q2⟩ := quot_ok (dens_ne a b) (h1.upAdd h2) (abs_mono (h1.dens h2) (by omega)) hk
  rw [div_add] at q2
  have c1 := cmw h1.1 h2.d (by omega)
  have c2 := cmw h2.1 h1.d (by omega)
  have c3 := cmw h1.d h2.d (by omega)
  unfold g_plus m_plus o_plus qp
  unfold qp at q2
  simp only [c1, c2, c3, q1, true_and, and_true, ret_rt]
  exact q2

theorem minus_ok {a b : Rat} {k l : Nat} (h1 : Sz k a) (h2 : Sz l b) (hk : k + l + 1 ≤ 8000) : g_minus (qp a, qp b, ()) ∧ m_minus (qp a, qp b, ()) = qp (a - b) := by
  obtain ⟨q1, q2⟩ := quot_ok (dens_ne a b) (h1.upSub h2) (abs_mono (h1.dens h2) (by omega)) hk
  rw [div_sub] at q2
  have c1 := cmw h1.1 h2.d (by omega)
  have c2 := cmw h2.1 h1.d (by omega)
  have c3 := cmw h1.d h2.d (by omega)
  unfold g_minus m_minus o_minus qp
  unfold qp at q2
  simp only [c1, c2, c3, q1, true_and, and_true, ret_rt]
  exact q2

theorem times_ok {a b : Rat} {k l : Nat} (h1 : Sz k a) (h2 : Sz l b) (hk : k + l ≤ 8000) : g_times (qp a, qp b, ()) ∧ m_times (qp a, qp b, ()) = qp (a * b) := by
  obtain ⟨q1, q2⟩ := quot_ok (dens_ne a b) (mul_abs h1.1 h2.1) (h1.dens h2) hk
  rw [div_mul] at q2
  have c1 := cmw h1.1 h2.1 (by omega)
  have c3 := cmw h1.d h2.d (by omega)
  unfold g_times m_times o_times qp
  unfold qp at q2
  simp only [c1, c3, q1, true_and, and_true, ret_rt]
  exact q2

theorem over_ok {a b : Rat} {k l : Nat} (h1 : Sz k a) (h2 : Sz l b) (hb : b ≠ 0) (hk : k + l ≤ 8000) : g_over (qp a, qp b, ()) ∧ m_over (qp a, qp b, ()) = qp (a / b) := by
  have hn : (a.den : Int) * b.num ≠ 0 := by
    have h3 := den_pos a
    exact Int.mul_ne_zero (by omega) fun e => hb (Rat.num_eq_zero.mp e)
  obtain ⟨q1, q2⟩ := quot_ok hn (mul_abs h1.1 h2.d) (mul_abs h1.d h2.1) hk
  rw [div_div] at q2
  have c1 := cmw h1.1 h2.d (by omega)
  have c3 := cmw h1.d h2.1 (by omega)
  unfold g_over m_over o_over qp
  unfold qp at q2
  simp only [c1, c3, q1, true_and, and_true, ret_rt]
  exact q2

theorem less_ok {a b : Rat} {k l : Nat} (h1 : Sz k a) (h2 : Sz l b) (hk : k + l ≤ 8000) : g_is_less (qp a, qp b, ()) ∧ m_is_less (qp a, qp b, ()) = decide (a < b) := by
  have c1 := cmw h1.1 h2.d (by omega)
  have c3 := cmw h2.1 h1.d (by omega)
  unfold g_is_less m_is_less o_is_less qp
  simp only [c1, c3, true_and, and_true, ret_rt]
  exact decide_eq_decide.mpr (Rat.lt_iff a b).symm

theorem sum_go {k : Nat} : ∀ (xs : List Rat) (t : Rat) (n : Nat), Sz n t → (∀ x ∈ xs, Sz k x) → n + (k + 1) * xs.length ≤ 8000 → forN kg1_sum_of k1_sum_of (qp t) (xs.map qp) ∧ (xs.map qp).foldl (fun m x => k1_sum_of (m, x)) (qp t) = qp (xs.foldl (· + ·) t) ∧ Sz (n + (k + 1) * xs.length) (xs.foldl (· + ·) t)
  | [], t, n, h, _, _ => ⟨trivial, rfl, h⟩
  | x :: xs, t, n, h, hx, hn => by
    have h1 := hx x List.mem_cons_self
    rw [List.length_cons, Nat.mul_add] at hn
    obtain ⟨p1, p2⟩ := plus_ok h h1 (by omega)
    obtain ⟨i1, i2, i3⟩ := sum_go xs (t + x) (n + k + 1) (h.add h1) (fun y hy => hx y (List.mem_cons_of_mem _ hy)) (by omega)
    have e : k1_sum_of (qp t, qp x) = qp (t + x) := p2
    refine ⟨⟨?_, ?_⟩, ?_, ?_⟩
    · unfold kg1_sum_of
      simp only [p1, true_and, and_true]
    · show forN kg1_sum_of k1_sum_of (k1_sum_of (qp t, qp x)) (xs.map qp)
      rw [e]; exact i1
    · rw [List.map_cons, List.foldl_cons, e]
      exact i2
    · rw [List.foldl_cons, List.length_cons, Nat.mul_add]
      exact i3.mono (by omega)
theorem sum_ok {k : Nat} {xs : List Rat} (h : ∀ x ∈ xs, Sz k x) (hn : 1 + (k + 1) * xs.length ≤ 8000) : g_sum_of (xs.map qp, ()) ∧ m_sum_of (xs.map qp, ()) = qp (rsum xs) ∧ Sz (1 + (k + 1) * xs.length) (rsum xs) := by
  obtain ⟨i1, i2, i3⟩ := sum_go xs 0 1 Sz.zero h hn
  unfold g_sum_of m_sum_of o_sum_of
  simp only [true_and, and_true, ret_rt]
  exact ⟨i1, i2, i3⟩

theorem pow_go {k : Nat} {r : Rat} (hr : Sz k r) : ∀ (ys : List Int) (t : Rat) (n : Nat), Sz n t → n + k * ys.length ≤ 8000 → forN (kg1_power (qp r)) (k1_power (qp r)) (qp t) ys ∧ ys.foldl (fun m x => k1_power (qp r) (m, x)) (qp t) = qp (t * r ^ ys.length) ∧ Sz (n + k * ys.length) (t * r ^ ys.length)
  | [], t, n, h, _ => ⟨trivial, by rw [List.length_nil, Rat.pow_zero, Rat.mul_one]; rfl, by rw [List.length_nil, Rat.pow_zero, Rat.mul_one]; exact h⟩
  | y :: ys, t, n, h, hn => by
    rw [List.length_cons, Nat.mul_add] at hn
    obtain ⟨p1, p2⟩ := times_ok h hr (by omega)
    obtain ⟨i1, i2, i3⟩ := pow_go hr ys (t * r) (n + k) (h.mul hr) (by omega)
    have e : k1_power (qp r) (qp t, y) = qp (t * r) := p2
    have e2 : t * r * r ^ ys.length = t * r ^ (ys.length + 1) := by rw [Rat.pow_succ, Rat.mul_assoc, Rat.mul_comm r]
    rw [e2] at i2 i3
    refine ⟨⟨?_, ?_⟩, ?_, ?_⟩
    · unfold kg1_power
      simp only [p1, true_and, and_true]
    · show forN (kg1_power (qp r)) (k1_power (qp r)) (k1_power (qp r) (qp t, y)) ys
      rw [e]; exact i1
    · rw [List.foldl_cons, e]
      exact i2
    · rw [List.length_cons, Nat.mul_add]
      exact i3.mono (by omega)
theorem power_ok {k : Nat} {r : Rat} {n : Int} (hr : Sz k r) (h0 : 0 ≤ n) (hn : 1 + k * n.toNat ≤ 8000) (hn2 : n ≤ 8000) : g_power (qp r, n, ()) ∧ m_power (qp r, n, ()) = qp (r ^ n.toNat) ∧ Sz (1 + k * n.toNat) (r ^ n.toNat) := by
  have e : (rng 0 n).length = n.toNat := by rw [rng_length]; omega
  obtain ⟨i1, i2, i3⟩ := pow_go hr (rng 0 n) 1 1 Sz.one (by rw [e]; exact hn)
  rw [e, Rat.one_mul] at i2 i3
  have cr : CRg 0 n := by unfold CRg; omega
  unfold g_power m_power o_power
  simp only [cr, true_and, and_true, ret_rt]
  exact ⟨i1, i2, i3⟩

theorem isq_ok (a : Rat) : g_is_quotient (qp a, ()) ∧ m_is_quotient (qp a, ()) = true := by
  have hd := den_pos a
  obtain ⟨d1, d2⟩ := gd_ok (a := (a.num.natAbs : Int)) (b := (a.den : Int)) (by omega) (by omega)
  have e : Int.gcd (a.num.natAbs : Int) (a.den : Int) = 1 := by
    rw [gcd_abs]
    have := a.reduced
    unfold Nat.Coprime at this
    unfold Int.gcd
    rw [Int.natAbs_natCast]
    exact this
  have hd1 : decide ((1 : Int) ≤ (a.den : Int)) = true := decide_eq_true (by omega)
  unfold g_is_quotient m_is_quotient o_is_quotient qp
  simp only [d1, d2, e, hd1, g_isint, m_isint, List.map_cons, List.map_nil, List.all_cons, List.all_nil, List.length_cons, List.length_nil, id_eq, Bool.and_self, Bool.not_true, Bool.not_false, Bool.false_eq_true, Bool.true_eq_false, true_and, and_true, implies_true, false_implies, true_implies, if_false, if_true, ret_rt, Bool.false_or, Bool.or_false]
  simp

theorem isn_ok {a : Rat} (h1 : a.num.natAbs ≤ 1000000000000) (h2 : (a.den : Int) ≤ 1000000000000) : g_is_number (qp a, ()) ∧ m_is_number (qp a, ()) = true := by
  obtain ⟨q1, q2⟩ := isq_ok a
  have c1 : decide (((qp a).1.natAbs : Int) ≤ 1000000000000) = true := decide_eq_true (show ((a.num.natAbs : Nat) : Int) ≤ _ by omega)
  have c2 : decide ((qp a).2 ≤ 1000000000000) = true := decide_eq_true h2
  unfold g_is_number m_is_number o_is_number
  simp only [q1, q2, c1, c2, true_and, and_true, implies_true, ret_rt, Bool.and_self]

theorem low_ok {a b : Int} {k : Nat} (hb : 0 < b) (h2 : b.natAbs < 2 ^ k) (hk : k ≤ 8000) : g__law_low (a, b, ()) ∧ m__law_low (a, b, ()) = qp (Rat.divInt a b) := by
  obtain ⟨e1, e2⟩ := gcd_loop (S := Empty) (c := kt1__law_low) (f := k1__law_low) (gc := ktg1__law_low) (gb := kg1__law_low) (fun a b h => by
    show (!decide (b = 0)) = decide (0 < b)
    by_cases c : b = 0
    · subst c; rfl
    · rw [decide_eq_false c, decide_eq_true (by omega)]; rfl) (fun a b => rfl) (fun a b _ => ⟨trivial, trivial, trivial⟩) (fun a b h => by unfold kg1__law_low; simp [h]) (b.toNat + 1) (a.natAbs : Int) b (by omega) (by omega) (by omega)
  unfold g__law_low m__law_low o__law_low
  dsimp only
  rw [e1, gcd_abs]
  refine ⟨⟨⟨⟨⟨trivial, trivial⟩, trivial⟩, trivial, trivial⟩, e2, fun l e => ?_⟩, qp_div hb⟩
  have c1 := gcd_bd (a := a) hb h2 hk
  have c2 := gcd_bd (a := a) hb h2 hk
  injection e with e
  rw [← e]
  exact ⟨⟨trivial, trivial, c1⟩, ⟨trivial, trivial, c1.1, c1.2⟩, trivial⟩

theorem lplus_ok {a b : Rat} {k l : Nat} (h1 : Sz k a) (h2 : Sz l b) (hk : k + l + 1 ≤ 8000) : g__law_plus (qp a, qp b, ()) ∧ m__law_plus (qp a, qp b, ()) = qp (a + b) := by
  have hd : 0 < (a.den : Int) * b.den := Int.mul_pos (den_pos a) (den_pos b)
  obtain ⟨q1, q2⟩ := low_ok (a := a.num * b.den + b.num * a.den) hd (h1.dens h2) (by omega)
  rw [div_add] at q2
  have c1 := cmw h1.1 h2.d (by omega)
  have c2 := cmw h2.1 h1.d (by omega)
  have c3 := cmw h1.d h2.d (by omega)
  unfold g__law_plus m__law_plus o__law_plus qp
  unfold qp at q2
  simp only [c1, c2, c3, q1, true_and, and_true, ret_rt]
  exact q2

theorem lmul_ok {a b : Rat} {k l : Nat} (h1 : Sz k a) (h2 : Sz l b) (hk : k + l ≤ 8000) : g__law_mul (qp a, qp b, ()) ∧ m__law_mul (qp a, qp b, ()) = qp (a * b) := by
  have hd : 0 < (a.den : Int) * b.den := Int.mul_pos (den_pos a) (den_pos b)
  obtain ⟨q1, q2⟩ := low_ok (a := a.num * b.num) hd (h1.dens h2) (by omega)
  rw [div_mul] at q2
  have c1 := cmw h1.1 h2.1 (by omega)
  have c3 := cmw h1.d h2.d (by omega)
  unfold g__law_mul m__law_mul o__law_mul qp
  unfold qp at q2
  simp only [c1, c3, q1, true_and, and_true, ret_rt]
  exact q2

end Z
namespace Z
open PySem PySem.Spec PyProof.Rows L2 Y
structure Am (f : Fr2) (b : Br3) : Prop where
  f1 : 0 ≤ f.1 ∧ f.1 ≤ 4000
  f2 : 0 ≤ f.2 ∧ f.2 ≤ 4000
  b1 : 0 ≤ b.1 ∧ b.1 ≤ 4000
  b2 : 0 ≤ b.2.1 ∧ b.2.1 ≤ 4000
  b3 : 0 ≤ b.2.2 ∧ b.2.2 ≤ 4000
structure Tr (T : List Int) : Prop where
  l0 : 1 ≤ T.length
  l1 : T.length ≤ 9
  t : ∀ x ∈ T, 0 ≤ x ∧ x ≤ 59
structure Ra (r : Rat) : Prop where
  p : 0 < r
  o : r ≤ 1
  z : Sz 5 r
theorem plan_ok {xs : List Int} {n : Int} (h : (xs.length : Int) = n) (hx : ∀ x ∈ xs, 0 ≤ x ∧ x ≤ 1000000000000) : g_is_plan_T (xs, n, ()) ∧ m_is_plan_T (xs, n, ()) = true := by
  have e : (xs.map fun x1 => ((m_is_integer (x1, ())) && ((decide ((0 : Int) ≤ x1)) && (decide (x1 ≤ (1000000000000 : Int)))))).all id = true := by
    rw [List.all_eq_true]
    intro y hy
    obtain ⟨x, hx', rfl⟩ := List.mem_map.mp hy
    obtain ⟨a, b⟩ := hx x hx'
    simp [m_isint, a, b]
  unfold g_is_plan_T m_is_plan_T o_is_plan_T
  simp only [e, h, g_isint, decide_true, true_and, and_true, implies_true, Bool.not_true, Bool.or_self, Bool.false_eq_true, if_false, ret_rt]
theorem g_plans {f : Fr2} {b : Br3} (h : Am f b) : g_check_plans (f, b, ()) := by
  obtain ⟨a1, a2, a3, a4, a5⟩ := h
  have p1 := plan_ok (xs := [f.1, f.2]) (n := 2) rfl (by simp; omega)
  have p2 := plan_ok (xs := [b.1, b.2.1, b.2.2]) (n := 3) rfl (by simp; omega)
  unfold g_check_plans
  simp only [p1.1, p1.2, p2.1, p2.2, true_and, and_true, implies_true, Bool.not_true]
theorem g_traf {T : List Int} (h : Tr T) : g_check_traffic (T, ()) := by
  have p := plan_ok (xs := T) (n := (T.length : Int)) rfl fun x hx => by have := h.t x hx; omega
  have l0 := h.l0
  have l1 := h.l1
  have e1 : decide ((1 : Int) ≤ (T.length : Int)) = true := by simp; omega
  have e2 : decide ((T.length : Int) ≤ 40) = true := by simp; omega
  unfold g_check_traffic
  simp only [p.1, p.2, e1, e2, true_and, and_true, implies_true, Bool.not_true, Bool.and_self, Bool.or_self]
theorem g_rate {r : Rat} (h : Ra r) : g_check_rate (qp r, ()) := by
  have n := isn_ok (h.z.mono (by decide) : Sz 39 _).num12.1 (h.z.mono (by decide) : Sz 39 _).num12.2
  have p := num_pos h.p
  have o := (Rat.le_iff r 1).mp h.o
  have c1 : decide ((qp r).1 ≤ 0) = false := decide_eq_false (show ¬ r.num ≤ 0 by omega)
  have c2 : decide ((qp r).2 < (qp r).1) = false := decide_eq_false (show ¬ (r.den : Int) < r.num by
    have e1 : (1 : Rat).den = 1 := rfl
    have e2 : (1 : Rat).num = 1 := rfl
    rw [e1, e2] at o
    omega)
  unfold g_check_rate
  simp only [n.1, n.2, c1, c2, true_and, and_true, implies_true, Bool.not_true, Bool.or_self]
theorem g_case {f : Fr2} {b : Br3} {T : List Int} {r : Rat} (h1 : Am f b) (h2 : Tr T) (h3 : Ra r) : g_check_case (f, b, T, qp r, ()) := by
  unfold g_check_case
  simp only [g_plans h1, g_traf h2, g_rate h3, true_and, and_true]
theorem cmsm {x : Int} (y : Int) (h0 : -100000 ≤ x) (h1 : x ≤ 100000) : CMul x y := .inl ⟨by omega, by omega⟩
theorem fcosts {f : Fr2} {T : List Int} (h : ∀ x ∈ T, 0 ≤ x ∧ x ≤ 59) : g_ferry_costs (f, T, ()) ∧ m_ferry_costs (f, T, ()) = fcs f T := by
  unfold g_ferry_costs
  refine ⟨?_, rfl⟩
  simp only [true_and, and_true]
  exact fun x hx => cmsm _ (by have := h x hx; omega) (by have := h x hx; omega)
theorem bcosts {b : Br3} {T : List Int} (h : ∀ x ∈ T, 0 ≤ x ∧ x ≤ 59) : g_bridge_costs (b, T, ()) ∧ m_bridge_costs (b, T, ()) = bcs b T := by
  unfold g_bridge_costs
  refine ⟨?_, rfl⟩
  simp only [true_and, and_true]
  exact fun x hx => cmsm _ (by have := h x hx; omega) (by have := h x hx; omega)
/-- years that can be asked -/
def YOk (T : List Int) (y : Option Int) : Prop := ∀ k, y = some k → 0 ≤ k ∧ k < T.length
theorem setI_mid (as bs : List Int) (x c : Int) : setI (as ++ x :: bs) (as.length : Int) (ixD (as ++ x :: bs) (as.length : Int) + c) = as ++ (x + c) :: bs := by
  have hl : as.length < (as ++ x :: bs).length := by simp
  have e : ixD (as ++ x :: bs) (as.length : Int) = x := by
    refine ixD_of ?_
    rw [List.getElem?_append_right (Nat.le_refl _), Nat.sub_self]
    rfl
  rw [e, setI_nat (by omega) (by omega), Int.toNat_natCast]
  simp
theorem switch_ok {f : Fr2} {b : Br3} {T : List Int} {y : Option Int} (h2 : Tr T) (hy : YOk T y) : g_switch_costs (f, b, T, y, ()) ∧ m_switch_costs (f, b, T, y, ()) = swi f b T y := by
  have hl := h2.l1
  obtain ⟨f1, f2⟩ := fcosts (f := f) h2.t
  obtain ⟨b1, b2⟩ := bcosts (b := b) h2.t
  have lf : (fcs f T).length = T.length := List.length_map ..
  have lb : (bcs b T).length = T.length := List.length_map ..
  unfold g_switch_costs m_switch_costs o_switch_costs
  cases y with
  | none =>
    simp only [f1, f2, Option.isNone_none, true_and, and_true, if_true, true_implies, Bool.true_eq_false, false_implies, ret_rt]
    rfl
  | some k =>
    obtain ⟨k0, k1⟩ := hy k rfl
    obtain ⟨k, rfl⟩ := Int.eq_ofNat_of_zero_le k0
    have hk : k < (bcs b T).length := by omega
    have ec1 : cut (fcs f T) none (some (k : Int)) = (fcs f T).take k := by rw [cut_take (by omega)]; rfl
    have ec2 : cut (bcs b T) (some (k : Int)) none = (bcs b T)[k] :: (bcs b T).drop (k + 1) := by rw [cut_drop (by omega), Int.toNat_natCast]; exact (List.getElem_cons_drop hk).symm
    have lt : ((fcs f T).take k).length = k := by rw [List.length_take]; omega
    have es := setI_mid ((fcs f T).take k) ((bcs b T).drop (k + 1)) (bcs b T)[k] b.1
    rw [lt] at es
    have eo : cO cI (some (k : Int)) = cI ((some (k : Int)).getD default) := rfl
    have ci : CIx ((fcs f T).take k ++ (bcs b T)[k] :: (bcs b T).drop (k + 1)) (k : Int) := cix_of (by omega) (by rw [List.length_append, lt, List.length_cons]; omega)
    have ll : ((fcs f T).take k).length + ((bcs b T)[k] :: (bcs b T).drop (k + 1)).length ≤ 16777216 := by rw [lt, List.length_cons, List.length_drop]; omega
    simp only [f1, f2, b1, b2, Option.isNone_some, Option.getD_some, ec1, ec2, es, eo, ci, ll, true_and, and_true, Bool.false_eq_true, if_false, true_implies, false_implies, ret_rt]
    show (fcs f T).take k ++ ((bcs b T)[k] + b.1) :: (bcs b T).drop (k + 1) = (fcs f T).take (k : Int).toNat ++ addH b.1 ((bcs b T).drop (k : Int).toNat)
    rw [Int.toNat_natCast, ← List.getElem_cons_drop hk]
    rfl
theorem cost_bd {x y z : Int} (hx : 0 ≤ x ∧ x ≤ 59) (hy : 0 ≤ y ∧ y ≤ 4000) (hz : 0 ≤ z ∧ z ≤ 4000) : 0 ≤ y + x * z ∧ y + x * z ≤ 240000 := by
  have h1 : 0 ≤ x * z := Int.mul_nonneg hx.1 hz.1
  have h2 : x * z ≤ 59 * 4000 := Int.mul_le_mul hx.2 hz.2 hz.1 (by decide)
  omega
theorem fcs_bd {f : Fr2} {b : Br3} {T : List Int} (h1 : Am f b) (h2 : ∀ x ∈ T, 0 ≤ x ∧ x ≤ 59) : ∀ v ∈ fcs f T, 0 ≤ v ∧ v ≤ 240000 := fun v hv => by
  obtain ⟨x, hx, rfl⟩ := List.mem_map.mp hv
  exact cost_bd (h2 x hx) h1.f1 h1.f2
theorem bcs_bd {f : Fr2} {b : Br3} {T : List Int} (h1 : Am f b) (h2 : ∀ x ∈ T, 0 ≤ x ∧ x ≤ 59) : ∀ v ∈ bcs b T, 0 ≤ v ∧ v ≤ 240000 := fun v hv => by
  obtain ⟨x, hx, rfl⟩ := List.mem_map.mp hv
  exact cost_bd (h2 x hx) h1.b2 h1.b3
theorem swi_bd {f : Fr2} {b : Br3} {T : List Int} (h1 : Am f b) (h2 : ∀ x ∈ T, 0 ≤ x ∧ x ≤ 59) (y : Option Int) : ∀ v ∈ swi f b T y, 0 ≤ v ∧ v ≤ 244000 := by
  have hf := fcs_bd h1 h2
  have hb := bcs_bd h1 h2
  have b1 := h1.b1
  cases y with
  | none => intro v hv; have := hf v hv; omega
  | some k =>
    intro v hv
    rcases List.mem_append.mp hv with hv | hv
    · have := hf v (List.mem_of_mem_take hv); omega
    · cases e : (bcs b T).drop k.toNat with
      | nil => rw [e] at hv; cases hv
      | cons x xs =>
        rw [e] at hv
        have hm : ∀ u ∈ x :: xs, 0 ≤ u ∧ u ≤ 240000 := fun u hu => hb u (List.mem_of_mem_drop (by rw [e]; exact hu))
        rcases List.mem_cons.mp hv with rfl | hv
        · have := hm x List.mem_cons_self; omega
        · have := hm v (List.mem_cons_of_mem _ hv); omega
theorem swi_len (f : Fr2) (b : Br3) (T : List Int) (y : Option Int) : (swi f b T y).length = T.length := by
  have lf : (fcs f T).length = T.length := List.length_map ..
  have lb : (bcs b T).length = T.length := List.length_map ..
  cases y with
  | none => exact lf
  | some k =>
    show ((fcs f T).take k.toNat ++ addH b.1 ((bcs b T).drop k.toNat)).length = _
    rw [List.length_append, addH_len, List.length_take, List.length_drop]
    omega
theorem worth_ok {r : Rat} {xs : List Int} (hr : Sz 5 r) (hl : xs.length ≤ 9) (hx : ∀ x ∈ xs, x.natAbs < 2 ^ 18) : g_worth_of (xs, qp r, ()) ∧ m_worth_of (xs, qp r, ()) = qp (wr r 1 xs) ∧ Sz 640 (wr r 1 xs) := by
  have zw : ∀ ys : List Int, ys.length ≤ 9 → (∀ x ∈ ys, x.natAbs < 2 ^ 18) → Sz 640 (wr r 1 ys) := fun ys hl hy => by
    have := sz_wr (K := 46) ys 1 (r := r) hy fun j hj => by
      rw [Rat.one_mul]
      exact (sz_pow hr j).mono (by omega)
    exact this.mono (by omega)
  have key := fold_pre (g := kg1_worth_of (qp r)) (f := k1_worth_of (qp r)) (fun l1 => ((qp (wr r 1 l1), qp (r ^ l1.length)) : (Int × Int) × (Int × Int))) xs fun l1 x l2 e => by
    have hl1 : l1.length ≤ 8 := by
      rw [e] at hl
      simp at hl; omega
    have zx : Sz 18 (x : Rat) := .int (hx x (by rw [e]; simp)) (by decide)
    have zp := (sz_pow hr l1.length).mono (show _ ≤ 41 by omega)
    have z1 := zw l1 (by omega) fun y hy => hx y (by rw [e]; simp [hy])
    have t1 := times_ok zx zp (by decide)
    have t2 := plus_ok z1 (zx.mul zp) (by decide)
    have t3 := times_ok zp hr (by decide)
    unfold kg1_worth_of k1_worth_of
    simp only [qp_int, t1.1, t1.2, t2.1, t2.2, t3.1, t3.2, true_and, and_true, wr_snoc, List.length_append, List.length_singleton, Rat.pow_succ]
  unfold g_worth_of m_worth_of o_worth_of
  simp only [true_and, and_true, ret_rt]
  have e0 : wr r 1 [] = 0 := rfl
  simp only [e0, List.length_nil, Rat.pow_zero] at key
  exact ⟨key.1, congrArg Prod.fst key.2, zw xs hl hx⟩
theorem abs18 {v : Int} (h : 0 ≤ v ∧ v ≤ 244000) : v.natAbs < 2 ^ 18 := by
  show v.natAbs < 262144
  omega
theorem g_year {T : List Int} {y : Option Int} (h2 : Tr T) (hy : YOk T y) : g_check_year (T, y, ()) := by
  unfold g_check_year
  cases y with
  | none => simp
  | some k =>
    obtain ⟨k0, k1⟩ := hy k rfl
    have e : cO cI (some k) = cI k := rfl
    simp [g_isint, m_isint, k0, k1, e]
theorem whole_ok {f : Fr2} {b : Br3} {T : List Int} {r : Rat} {y : Option Int} (h1 : Am f b) (h2 : Tr T) (h3 : Ra r) (hy : YOk T y) : g_whole_cost (f, b, T, qp r, y, ()) ∧ m_whole_cost (f, b, T, qp r, y, ()) = qp (wr r 1 (swi f b T y)) ∧ Sz 640 (wr r 1 (swi f b T y)) := by
  obtain ⟨s1, s2⟩ := switch_ok (f := f) (b := b) h2 hy
  obtain ⟨w1, w2, w3⟩ := worth_ok (xs := swi f b T y) h3.z (by rw [swi_len]; exact h2.l1) fun v hv => abs18 (swi_bd h1 h2.t y v hv)
  unfold g_whole_cost m_whole_cost o_whole_cost
  simp only [g_case h1 h2 h3, g_year h2 hy, s1, s2, w1, w2, true_and, and_true, ret_rt]
  exact w3
theorem yearly_ok {f : Fr2} {b : Br3} {T : List Int} {y : Option Int} (h1 : Am f b) (h2 : Tr T) (hy : YOk T y) : g_yearly_costs (f, b, T, y, ()) ∧ m_yearly_costs (f, b, T, y, ()) = swi f b T y := by
  obtain ⟨s1, s2⟩ := switch_ok (f := f) (b := b) h2 hy
  unfold g_yearly_costs m_yearly_costs o_yearly_costs
  simp only [g_plans h1, g_traf h2, g_year h2 hy, s1, s2, true_and, and_true, ret_rt]

/-! worth, year by year -/
def dfs (f : Fr2) (b : Br3) (T : List Int) : List Int := (List.range T.length).map fun (k : Nat) => ixD (swi f b T (some 0)) (k : Int) - ixD (fcs f T) (k : Int)
def jw (f : Fr2) (b : Br3) (T : List Int) (r : Rat) : PySem.Str × D := match (List.range T.length).find? (fun k => decide (wr r 1 ((dfs f b T).take (k + 1)) ≤ 0)) with
  | some k => (PySem.Str.ofString "bridge", cI (k : Int))
  | none => (PySem.Str.ofString "ferry", c2 cI cI (qp (wr r 1 (dfs f b T))))
theorem num_le {a : Rat} : a.num ≤ 0 ↔ a ≤ 0 := by
  constructor
  · intro h
    exact Rat.not_lt.mp fun q => by have := num_pos q; omega
  · intro h
    refine Int.not_lt.mp fun q => Rat.not_lt.mpr h ?_
    rw [Rat.lt_iff]
    simpa using q
theorem dfs_bd {f : Fr2} {b : Br3} {T : List Int} (h1 : Am f b) (h2 : Tr T) : ∀ v ∈ dfs f b T, v.natAbs < 2 ^ 18 := fun v hv => by
  obtain ⟨k, hk, rfl⟩ := List.mem_map.mp hv
  rw [List.mem_range] at hk
  have lf : (fcs f T).length = T.length := List.length_map ..
  have a := fcs_bd h1 h2.t _ (ixD_mem (xs := fcs f T) (i := (k : Int)) (by omega) (by omega))
  have c := swi_bd h1 h2.t (some 0) _ (ixD_mem (xs := swi f b T (some 0)) (i := (k : Int)) (by omega) (by rw [swi_len]; omega))
  show (_ - _ : Int).natAbs < 262144
  omega
theorem zwr {r : Rat} (hr : Sz 5 r) {ys : List Int} (hl : ys.length ≤ 9) (hy : ∀ x ∈ ys, x.natAbs < 2 ^ 18) : Sz 640 (wr r 1 ys) := by
  have := sz_wr (K := 46) ys 1 (r := r) hy fun j hj => by
    rw [Rat.one_mul]
    exact (sz_pow hr j).mono (by omega)
  exact this.mono (by omega)
theorem judge_ok {f : Fr2} {b : Br3} {T : List Int} {r : Rat} (h1 : Am f b) (h2 : Tr T) (h3 : Ra r) : g_judge_worth (f, b, T, qp r, ()) ∧ m_judge_worth (f, b, T, qp r, ()) = jw f b T r := by
  have hl := h2.l1
  have hl0 := h2.l0
  obtain ⟨f1, f2⟩ := fcosts (f := f) h2.t
  obtain ⟨s1, s2⟩ := switch_ok (f := f) (b := b) (y := some 0) h2 (fun k e => by injection e with e; omega)
  have lf : (fcs f T).length = T.length := List.length_map ..
  have ld : (dfs f b T).length = T.length := by unfold dfs; rw [List.length_map, List.length_range]
  have hd := dfs_bd h1 h2
  have key := forO_rng (S := Empty) (g := kg1_judge_worth (qp r) (fcs f T) (swi f b T (some 0))) (f := k1_judge_worth b (qp r) (fcs f T) (swi f b T (some 0))) (fun k => (qp (wr r 1 ((dfs f b T).take k)), qp (r ^ k))) (fun k => decide (wr r 1 ((dfs f b T).take (k + 1)) ≤ 0)) (fun k => (PySem.Str.ofString "bridge", cI (k : Int))) T.length fun k hk => by
    have hkd : k < (dfs f b T).length := by omega
    have ci1 : CIx (fcs f T) (k : Int) := cix_of (by omega) (by omega)
    have ci2 : CIx (swi f b T (some 0)) (k : Int) := cix_of (by omega) (by rw [swi_len]; omega)
    have ev : (dfs f b T)[k] = ixD (swi f b T (some 0)) (k : Int) - ixD (fcs f T) (k : Int) := by
      have e : (dfs f b T)[k]? = some (ixD (swi f b T (some 0)) (k : Int) - ixD (fcs f T) (k : Int)) := by unfold dfs; rw [List.getElem?_map, List.getElem?_range hk]; rfl
      rw [List.getElem?_eq_getElem hkd] at e
      exact Option.some.inj e
    have hv := hd _ (List.getElem_mem hkd)
    rw [ev] at hv
    have lt : ((dfs f b T).take k).length = k := by rw [List.length_take]; omega
    have et : wr r 1 ((dfs f b T).take (k + 1)) = wr r 1 ((dfs f b T).take k) + ((ixD (swi f b T (some 0)) (k : Int) - ixD (fcs f T) (k : Int) : Int) : Rat) * r ^ k := by
      rw [List.take_succ_eq_append_getElem hkd, wr_snoc, lt, ev]
    have zx : Sz 18 ((ixD (swi f b T (some 0)) (k : Int) - ixD (fcs f T) (k : Int) : Int) : Rat) := .int hv (by decide)
    have zp := (sz_pow h3.z k).mono (show _ ≤ 41 by omega)
    have z1 := zwr h3.z (ys := (dfs f b T).take k) (by omega) fun y hy => hd y (List.mem_of_mem_take hy)
    have t1 := times_ok zx zp (by decide)
    have t2 := plus_ok z1 (zx.mul zp) (by decide)
    have t3 := times_ok zp h3.z (by decide)
    rw [← et] at t2
    unfold kg1_judge_worth k1_judge_worth
    simp only [qp_int, ci1, ci2, t1.1, t1.2, t2.1, t2.2, t3.1, t3.2, true_and, and_true, implies_true]
    have en : decide ((qp (wr r 1 ((dfs f b T).take (k + 1)))).1 ≤ 0) = decide (wr r 1 ((dfs f b T).take (k + 1)) ≤ 0) := decide_eq_decide.mpr num_le
    rw [en, Rat.pow_succ]
  have e0 : wr r 1 [] = 0 := rfl
  simp only [List.take_zero, e0, Rat.pow_zero] at key
  have cr : CRg 0 (T.length : Int) := by unfold CRg; omega
  have ct : (dfs f b T).take T.length = dfs f b T := List.take_of_length_le (by omega)
  unfold g_judge_worth m_judge_worth o_judge_worth jw
  simp only [g_case h1 h2 h3, f1, f2, s1, s2, cr, qp_zero, qp_one, key.1, key.2, true_and, and_true, implies_true]
  cases (List.range T.length).find? (fun k => decide (wr r 1 ((dfs f b T).take (k + 1)) ≤ 0)) with
  | some k => rfl
  | none =>
    show (PySem.Str.ofString "ferry", c2 cI cI (qp (wr r 1 ((dfs f b T).take T.length)))) = _
    rw [ct]
/-! the best year -/
def yl (T : List Int) : List (Option Int) := (rng 0 (T.length : Int)).map some ++ [none]
theorem yl_ok {T : List Int} : ∀ y ∈ yl T, YOk T y := fun y hy k e => by
  subst e
  rcases List.mem_append.mp hy with hy | hy
  · obtain ⟨x, hx, e⟩ := List.mem_map.mp hy
    injection e with e
    rw [mem_rng] at hx
    omega
  · simp at hy
theorem yl_ne (T : List Int) : yl T ≠ [] := by unfold yl; simp
theorem yl_get {T : List Int} {k : Nat} (h : k ≤ T.length) : (yl T)[k]? = some (yrs T.length k) := by
  unfold yl yrs
  have lr : ((rng 0 (T.length : Int)).map some).length = T.length := by rw [List.length_map, rng_length]; omega
  by_cases c : k < T.length
  · rw [List.getElem?_append_left (by omega), List.getElem?_map, rng_get 0 _ k (by omega), if_pos c]
    show some (some (0 + (k : Int))) = _
    rw [Int.zero_add]
  · have : k = T.length := by omega
    rw [List.getElem?_append_right (by omega), lr, if_neg c, this, Nat.sub_self]
    rfl
theorem yl_len (T : List Int) : (yl T).length = T.length + 1 := by unfold yl; rw [List.length_append, List.length_map, rng_length, List.length_singleton]; omega
def C (f : Fr2) (b : Br3) (T : List Int) (r : Rat) (y : Option Int) : Rat := wr r 1 (swi f b T y)
def q2 (p : Rat × Option Int) : (Int × Int) × Option Int := (qp p.1, p.2)
theorem best_ok {f : Fr2} {b : Br3} {T : List Int} {r : Rat} (h1 : Am f b) (h2 : Tr T) (h3 : Ra r) : g_best_year (f, b, T, qp r, ()) ∧ m_best_year (f, b, T, qp r, ()) = q2 (((yl T).foldl (bstep (C f b T r)) none).getD (0, none)) := by
  have hl := h2.l1
  have key := fold_pre (g := kg1_best_year f b T (qp r)) (f := k1_best_year f b T (qp r)) (fun l1 => ((l1.foldl (bstep (C f b T r)) none).map q2 : Option ((Int × Int) × Option Int))) (yl T) fun l1 y l2 e => by
    have hy : YOk T y := yl_ok y (by rw [e]; simp)
    obtain ⟨s1, s2⟩ := switch_ok (f := f) (b := b) h2 hy
    obtain ⟨w1, w2, w3⟩ := worth_ok (xs := swi f b T y) h3.z (by rw [swi_len]; exact hl) fun v hv => abs18 (swi_bd h1 h2.t y v hv)
    have zl : ∀ p, l1.foldl (bstep (C f b T r)) none = some p → Sz 640 p.1 := fun p hp => by
      have ne : l1 ≠ [] := fun e => by rw [e] at hp; cases hp
      obtain ⟨z, hz, ez, _⟩ := bmin_is (C f b T r) ne
      rw [ez] at hp
      injection hp with hp
      rw [← hp]
      exact zwr h3.z (by rw [swi_len]; exact hl) fun v hv => abs18 (swi_bd h1 h2.t z v hv)
    unfold kg1_best_year k1_best_year
    simp only [s1, s2, w1, w2, true_and, and_true, implies_true]
    rw [List.foldl_append, List.foldl_cons, List.foldl_nil]
    cases eo : l1.foldl (bstep (C f b T r)) none with
    | none =>
      simp only [Option.map_none, Option.isNone_none, Bool.true_or, if_true, Bool.true_eq_false, false_implies, true_and, and_true]
      rfl
    | some p =>
      have ls := less_ok w3 (zl p eo) (by decide)
      have eq1 : ((some (q2 p)).getD default).1 = qp p.1 := rfl
      have eq2 : cO (c2 (c2 cI cI) (cO cI)) (some (q2 p)) = c2 (c2 cI cI) (cO cI) ((some (q2 p)).getD default) := rfl
      simp only [Option.map_some, Option.isNone_some, Bool.false_or, eq1, eq2, ls.1, ls.2, true_and, and_true, implies_true]
      show (if decide (wr r 1 (swi f b T y) < p.1) = true then some (qp (wr r 1 (swi f b T y)), y) else some (q2 p)) = (if wr r 1 (swi f b T y) < p.1 then some (wr r 1 (swi f b T y), y) else some p).map q2
      by_cases c : wr r 1 (swi f b T y) < p.1
      · rw [if_pos (decide_eq_true c), if_pos c]; rfl
      · rw [if_neg (by rw [decide_eq_false c]; exact Bool.false_ne_true), if_neg c]; rfl
  have eyl : ((rng 0 (T.length : Int)).map (fun x : Int => some x)) ++ ([()].map (fun x : Unit => (none : Option Int))) = yl T := rfl
  have cr : CRg 0 (T.length : Int) := by unfold CRg; omega
  obtain ⟨z, hz, ez, _⟩ := bmin_is (C f b T r) (yl_ne T)
  have l16 : ((rng 0 (T.length : Int)).map (fun x : Int => some x)).length + ([()].map (fun x : Unit => (none : Option Int))).length ≤ 16777216 := by
    rw [List.length_map, rng_length]; simp; omega
  unfold g_best_year m_best_year o_best_year
  simp only [eyl, g_case h1 h2 h3, cr, l16, true_and, and_true, ret_rt]
  have k1 := key.1
  have k2 := key.2
  rw [List.foldl_nil, Option.map_none] at k1 k2
  rw [k2, ez]
  refine ⟨⟨k1, ?_⟩, rfl⟩
  rfl
theorem idx_ok {α : Type} {T : List Int} {y : Option Int} (hy : y ∈ yl T) (hl : T.length ≤ 9) : IdxOk (cO cI) (yl T) y ∧ ∃ k : Nat, k ≤ T.length ∧ idxD (cO cI) (yl T) y = (k : Int) ∧ yrs T.length k = y := by
  have refl : ∀ z : Option Int, PyData.eqv (cO cI z) (cO cI z) = true := fun z => eqv_T (cq_O cq_I) z
  refine ⟨⟨(cq_L (cq_O cq_I)).shaped (by decide) _, (cq_O cq_I).shaped (by decide) _, y, hy, refl y⟩, (yl T).findIdx fun x => PyData.eqv (cO cI x) (cO cI y), ?_, rfl, ?_⟩
  · have := List.findIdx_lt_length_of_exists (xs := yl T) (p := fun x => PyData.eqv (cO cI x) (cO cI y)) ⟨y, hy, refl y⟩
    rw [yl_len] at this
    omega
  · have hlt := List.findIdx_lt_length_of_exists (xs := yl T) (p := fun x => PyData.eqv (cO cI x) (cO cI y)) ⟨y, hy, refl y⟩
    have e := List.findIdx_getElem (w := hlt)
    have e2 := yl_get (T := T) (k := (yl T).findIdx fun x => PyData.eqv (cO cI x) (cO cI y)) (by rw [yl_len] at hlt; omega)
    rw [List.getElem?_eq_getElem hlt] at e2
    injection e2 with e2
    rw [e2] at e
    generalize yrs T.length _ = z at e
    cases z with
    | none =>
      cases y with
      | none => rfl
      | some k => simp [cO, PyData.eqv] at e
    | some j =>
      cases y with
      | none => simp [cO, PyData.eqv] at e
      | some k =>
        have : PyData.eqv (.int j) (.int k) = true := e
        rw [eqv_int] at this
        rw [of_decide_eq_true this]

/-! savings -/
def sv (f : Fr2) (b : Br3) (T : List Int) (r : Rat) (k : Nat) : Rat := ((b.1 + ixD (bcs b T) (k : Int) - ixD (fcs f T) (k : Int) : Int) : Rat) - (if k + 1 < T.length then (b.1 : Rat) * r else 0)
theorem ix_fcs {f : Fr2} {T : List Int} {k : Nat} (hk : k < T.length) : ixD (fcs f T) (k : Int) = f.1 + T[k] * f.2 := by
  refine ixD_of ?_
  unfold fcs
  rw [List.getElem?_map, List.getElem?_eq_getElem hk]
  rfl
theorem ix_bcs {b : Br3} {T : List Int} {k : Nat} (hk : k < T.length) : ixD (bcs b T) (k : Int) = b.2.1 + T[k] * b.2.2 := by
  refine ixD_of ?_
  unfold bcs
  rw [List.getElem?_map, List.getElem?_eq_getElem hk]
  rfl
theorem later' {f : Fr2} {b : Br3} {T : List Int} {r : Rat} {k : Nat} (hk : k < T.length) : C f b T r (yrs T.length k) = C f b T r (yrs T.length (k + 1)) + sv f b T r k * r ^ k := by
  have := later f b T r hk
  unfold C sv
  rw [ix_fcs hk, ix_bcs hk]
  exact this
theorem sv_sz {f : Fr2} {b : Br3} {T : List Int} {r : Rat} (h1 : Am f b) (h2 : Tr T) (h3 : Ra r) {k : Nat} (hk : k < T.length) : Sz 18 ((b.1 + ixD (bcs b T) (k : Int) - ixD (fcs f T) (k : Int) : Int) : Rat) ∧ Sz 17 ((b.1 : Rat) * r) ∧ Sz 36 (sv f b T r k) := by
  have lf : (fcs f T).length = T.length := List.length_map ..
  have lb : (bcs b T).length = T.length := List.length_map ..
  have a := fcs_bd h1 h2.t _ (ixD_mem (xs := fcs f T) (i := (k : Int)) (by omega) (by omega))
  have c := bcs_bd h1 h2.t _ (ixD_mem (xs := bcs b T) (i := (k : Int)) (by omega) (by omega))
  have b1 := h1.b1
  have z1 : Sz 18 ((b.1 + ixD (bcs b T) (k : Int) - ixD (fcs f T) (k : Int) : Int) : Rat) := .int (by show (_ : Int).natAbs < 262144; omega) (by decide)
  have z2 : Sz 12 (b.1 : Rat) := .int (by show b.1.natAbs < 4096; omega) (by decide)
  refine ⟨z1, z2.mul h3.z, ?_⟩
  unfold sv
  split
  · exact (z1.sub (z2.mul h3.z)).mono (by decide)
  · exact (z1.sub Sz.zero).mono (by decide)
theorem savings_fn {f : Fr2} {b : Br3} {T : List Int} {r : Rat} (h1 : Am f b) (h2 : Tr T) (h3 : Ra r) : g_later_savings (f, b, T, qp r, ()) ∧ m_later_savings (f, b, T, qp r, ()) = (List.range T.length).map fun k => qp (sv f b T r k) := by
  have hl := h2.l1
  obtain ⟨f1, f2⟩ := fcosts (f := f) h2.t
  obtain ⟨b1, b2⟩ := bcosts (b := b) h2.t
  have lf : (fcs f T).length = T.length := List.length_map ..
  have lb : (bcs b T).length = T.length := List.length_map ..
  have key := fold_rng (g := kg1_later_savings b T (qp r) (fcs f T) (bcs b T)) (f := k1_later_savings b T (qp r) (fcs f T) (bcs b T)) (fun k => (List.range k).map fun k => qp (sv f b T r k)) T.length fun k hk => by
    obtain ⟨z1, z2, z3⟩ := sv_sz h1 h2 h3 hk
    have ci1 : CIx (fcs f T) (k : Int) := cix_of (by omega) (by omega)
    have ci2 : CIx (bcs b T) (k : Int) := cix_of (by omega) (by omega)
    have zb : Sz 12 (b.1 : Rat) := .int (by have := h1.b1; show b.1.natAbs < 4096; omega) (by decide)
    have t1 := times_ok zb h3.z (by decide)
    have ll : ((List.range k).map fun k => qp (sv f b T r k)).length < 16777216 := by rw [List.length_map, List.length_range]; omega
    unfold kg1_later_savings k1_later_savings
    by_cases c : k + 1 < T.length
    · have ec : decide ((k : Int) + 1 < (T.length : Int)) = true := decide_eq_true (by omega)
      have t2 := minus_ok z1 z2 (by decide)
      have es : ((b.1 + ixD (bcs b T) (k : Int) - ixD (fcs f T) (k : Int) : Int) : Rat) - (b.1 : Rat) * r = sv f b T r k := by unfold sv; rw [if_pos c]
      rw [es] at t2
      simp only [ec, qp_int, t1.1, t1.2, t2.1, t2.2, ci1, ci2, ll, if_true, true_and, and_true, implies_true]
      rw [List.range_succ, List.map_append]
      rfl
    · have ec : decide ((k : Int) + 1 < (T.length : Int)) = false := decide_eq_false (by omega)
      have t2 := minus_ok z1 Sz.zero (by decide)
      have es : ((b.1 + ixD (bcs b T) (k : Int) - ixD (fcs f T) (k : Int) : Int) : Rat) - 0 = sv f b T r k := by unfold sv; rw [if_neg c]
      rw [es] at t2
      simp only [ec, qp_int, t1.1, t1.2, ci1, ci2, ll, Bool.false_eq_true, if_false, true_and, and_true, implies_true, false_implies]
      have e0 : ((0 : Int), (1 : Int)) = qp 0 := rfl
      have e1 : qp ((0 : Int) : Rat) = qp 0 := rfl
      simp only [e1, t2.1, t2.2]
      refine ⟨trivial, ?_⟩
      rw [List.range_succ, List.map_append]
      rfl
  have cr : CRg 0 (T.length : Int) := by unfold CRg; omega
  unfold g_later_savings m_later_savings o_later_savings
  simp only [g_case h1 h2 h3, f1, f2, b1, b2, cr, true_and, and_true, ret_rt]
  exact ⟨key.1, key.2⟩
theorem lpow_ok {r : Rat} {k : Nat} (hr : Sz 5 r) (hk : k ≤ 9) : g__law_power (qp r, (k : Int), ()) ∧ m__law_power (qp r, (k : Int), ()) = qp (r ^ k) := by
  have key := fold_rng (g := kg1__law_power (qp r)) (f := k1__law_power (qp r)) (fun k => qp (r ^ k)) k fun j hj => by
    have zp := (sz_pow hr j).mono (show _ ≤ 46 by omega)
    have t := lmul_ok zp hr (by decide)
    unfold kg1__law_power k1__law_power
    simp only [t.1, t.2, true_and, and_true, Rat.pow_succ]
  have cr : CRg 0 (k : Int) := by unfold CRg; omega
  have e1 : qp (r ^ 0) = (1, 1) := by rw [Rat.pow_zero]; rfl
  rw [e1] at key
  unfold g__law_power m__law_power o__law_power
  simp only [cr, true_and, and_true, ret_rt]
  exact key
theorem accept_ok {f : Fr2} {b : Br3} {T : List Int} {r : Rat} (h1 : Am f b) (h2 : Tr T) (h3 : Ra r) {y : Option Int} (hy : y ∈ yl T) (hm : ∀ x ∈ yl T, C f b T r y ≤ C f b T r x) : g_accept_year (f, b, T, qp r, y, (yl T).map fun x => qp (C f b T r x), ()) := by
  have hl := h2.l1
  have zC : ∀ y, Sz 640 (C f b T r y) := fun y => zwr h3.z (by rw [swi_len]; exact hl) fun v hv => abs18 (swi_bd h1 h2.t y v hv)
  have e1 : decide ((((yl T).map fun x => qp (C f b T r x)).length : Int) = (T.length : Int) + 1) = true := by rw [List.length_map, yl_len]; simp
  have e2 : (((yl T).map fun x => qp (C f b T r x)).map fun x1 => m_is_quotient (x1, ())).all id = true := by
    rw [List.all_eq_true]
    intro z hz
    obtain ⟨x, hx, rfl⟩ := List.mem_map.mp hz
    obtain ⟨u, _, rfl⟩ := List.mem_map.mp hx
    exact (isq_ok _).2
  have e3 : ∀ x1 ∈ (yl T).map fun x => qp (C f b T r x), g_is_quotient (x1, ()) := fun x hx => by
    obtain ⟨u, _, rfl⟩ := List.mem_map.mp hx
    exact (isq_ok _).1
  have yo := yl_ok y hy
  obtain ⟨k, k0, k1⟩ : ∃ k : Nat, k ≤ T.length ∧ yrs T.length k = y := by
    obtain ⟨k, hk, e⟩ := List.mem_iff_getElem.mp hy
    refine ⟨k, by rw [yl_len] at hk; omega, ?_⟩
    have := yl_get (T := T) (k := k) (by rw [yl_len] at hk; omega)
    rw [List.getElem?_eq_getElem hk, e] at this
    exact (Option.some.inj this).symm
  have kk : ((if y.isNone = true then some (T.length : Int) else y).getD default) = (k : Int) ∧ cO cI (if y.isNone = true then some (T.length : Int) else y) = cI (k : Int) := by
    unfold yrs at k1
    by_cases c : k < T.length
    · rw [if_pos c] at k1
      subst k1
      exact ⟨rfl, rfl⟩
    · rw [if_neg c] at k1
      subst k1
      have : k = T.length := by omega
      subst this
      exact ⟨rfl, rfl⟩
  have tk : ixD ((yl T).map fun x => qp (C f b T r x)) (k : Int) = qp (C f b T r y) ∧ CIx ((yl T).map fun x => qp (C f b T r x)) (k : Int) := by
    refine ⟨ixD_of ?_, cix_of (by omega) (by rw [List.length_map, yl_len]; omega)⟩
    rw [List.getElem?_map, yl_get k0, k1]
    rfl
  have e4 : (((yl T).map fun x => qp (C f b T r x)).filter fun x => m_is_less (x, qp (C f b T r y), ())).map (fun x => x) = [] := by
    rw [List.map_eq_nil_iff, List.filter_eq_nil_iff]
    intro x hx
    obtain ⟨u, hu, rfl⟩ := List.mem_map.mp hx
    rw [(less_ok (zC u) (zC y) (by decide)).2]
    simp only [decide_eq_true_eq]
    exact Rat.not_lt.mpr (hm u hu)
  have e5 : ∀ x ∈ (yl T).map fun x => qp (C f b T r x), g_is_less (x, qp (C f b T r y), ()) := fun x hx => by
    obtain ⟨u, hu, rfl⟩ := List.mem_map.mp hx
    exact (less_ok (zC u) (zC y) (by decide)).1
  unfold g_accept_year
  have e6 : (y.isNone = false → cO cI y = cI (y.getD default)) := fun h => by
    cases y with
    | none => cases h
    | some k => rfl
  have e7 : ((!y.isNone) && (!m_is_integer (y.getD default, ()) || !(decide (0 ≤ y.getD default) && decide (y.getD default < (T.length : Int))))) = false := by
    cases y with
    | none => rfl
    | some k =>
      obtain ⟨a, c⟩ := yo k rfl
      simp [m_isint, a, c]
  have e8 : (!y.isNone) = true → cO cI y = cI (y.getD default) := fun h => e6 (by cases y <;> simp_all)
  simp only [g_case h1 h2 h3, e1, e2, e4, e7, kk.1, kk.2, tk.1, tk.2, g_isint, true_and, and_true, implies_true, true_implies, Bool.not_true, Bool.or_self, Bool.not_false, Bool.false_eq_true, List.isEmpty_nil]
  refine ⟨fun x hx => e3 x hx, fun h => ⟨e8 h, fun _ => e8 h⟩, ?_, fun x hx => e5 x hx⟩
  refine forN_all _ _ fun _ p hp => ?_
  obtain ⟨j, hj, rfl⟩ := mem_enum hp
  have hj' : j ≤ T.length := by rw [List.length_map, yl_len] at hj; omega
  have er : ((yl T).map fun x => qp (C f b T r x))[j]? = some (qp (C f b T r (yrs T.length j))) := by
    rw [List.getElem?_map, yl_get hj']; rfl
  have er2 : ((yl T).map fun x => qp (C f b T r x))[j] = qp (C f b T r (yrs T.length j)) := by
    rw [List.getElem?_eq_getElem hj] at er
    exact Option.some.inj er
  have ey : (if decide ((j : Int) = (T.length : Int)) = true then (none : Option Int) else some (j : Int)) = yrs T.length j := by
    unfold yrs
    by_cases c : j < T.length
    · rw [if_pos c, if_neg (by simp; omega)]
    · have : j = T.length := by omega
      subst this
      rw [if_neg c, if_pos (by simp)]
  have yj : YOk T (yrs T.length j) := yl_ok _ (List.mem_iff_getElem?.mpr ⟨j, yl_get hj'⟩)
  obtain ⟨s1, s2⟩ := switch_ok (f := f) (b := b) h2 yj
  obtain ⟨w1, w2, w3⟩ := worth_ok (xs := swi f b T (yrs T.length j)) h3.z (by rw [swi_len]; exact hl) fun v hv => abs18 (swi_bd h1 h2.t _ v hv)
  have eq : PyData.eqv (c2 cI cI (qp (C f b T r (yrs T.length j)))) (c2 cI cI (qp (wr r 1 (swi f b T (yrs T.length j))))) = true := eqv_T (cq_2 cq_I cq_I) _
  unfold kg1_accept_year
  simp only [ey, er2, s1, s2, w1, w2, eq, true_and, and_true, implies_true, Bool.not_true]
/-! from which on -/
theorem evens_ok {f : Fr2} {b : Br3} (h : Am f b) : g_from_zero (f, b, ()) ∧ g_break_even (f, b, ()) := by
  obtain ⟨a1, a2, a3, a4, a5⟩ := id h
  have cd : ∀ x y : Int, y ≠ 0 → -4000 ≤ y → y ≤ 4000 → CDivN x y := fun x y h1 h2 h3 => ⟨h1, by omega⟩
  constructor
  · unfold g_from_zero
    simp only [g_plans h, true_and, and_true, implies_true, decide_eq_true_eq, decide_eq_false_iff_not]
    exact ⟨fun _ hl => cd _ _ (by omega) (by omega) (by omega), fun _ hl => cd _ _ (by omega) (by omega) (by omega)⟩
  · unfold g_break_even
    simp only [g_plans h, true_and, and_true, implies_true, decide_eq_true_eq, decide_eq_false_iff_not]
    exact fun _ hl => cd _ _ (by omega) (by omega) (by omega)
theorem from_scale {f : Fr2} {b : Br3} {m : Int} (hm : 0 < m) : m_from_zero ((f.1 * m, f.2 * m), (b.1 * m, b.2.1 * m, b.2.2 * m), ()) = m_from_zero (f, b, ()) ∧ m_break_even ((f.1 * m, f.2 * m), (b.1 * m, b.2.1 * m, b.2.2 * m), ()) = m_break_even (f, b, ()) := by
  have e1 : b.2.1 * m - f.1 * m = (b.2.1 - f.1) * m := (Int.sub_mul ..).symm
  have e2 : f.2 * m - b.2.2 * m = (f.2 - b.2.2) * m := (Int.sub_mul ..).symm
  have fd : ∀ x y : Int, Int.fdiv (x * m) (y * m) = Int.fdiv x y := fun x y => by
    rw [Int.mul_comm x, Int.mul_comm y]
    exact Int.mul_fdiv_mul_of_pos x y hm
  have c1 : ∀ x : Int, decide (x * m ≤ 0) = decide (x ≤ 0) := fun x => decide_eq_decide.mpr (by
    have := Int.mul_le_mul_right (b := x) (c := 0) hm
    rwa [Int.zero_mul] at this)
  have c2 : ∀ x : Int, decide (x * m < 0) = decide (x < 0) := fun x => decide_eq_decide.mpr (by
    have := Int.mul_lt_mul_right (b := x) (c := 0) hm
    rwa [Int.zero_mul] at this)
  have c3 : ∀ x : Int, decide (0 < x * m) = decide (0 < x) := fun x => decide_eq_decide.mpr (by
    have := Int.mul_lt_mul_right (b := 0) (c := x) hm
    rwa [Int.zero_mul] at this)
  have en : ∀ x : Int, -(x * m) = -x * m := fun x => (Int.neg_mul ..).symm
  unfold m_from_zero o_from_zero m_break_even o_break_even
  simp only [e1, e2, en, fd, c1, c2, c3, and_self]
theorem within_ok {f : Fr2} {b : Br3} (n : Int) (hn : 0 ≤ n) : g__law_within (n, m_from_zero (f, b, ()), ()) ∧ m__law_within (n, m_from_zero (f, b, ()), ()) = decide (b.2.1 + n * b.2.2 ≤ f.1 + n * f.2) := by
  have e : (b.2.1 + n * b.2.2 ≤ f.1 + n * f.2) ↔ b.2.1 - f.1 ≤ n * (f.2 - b.2.2) := by rw [Int.mul_sub]; omega
  have key : ∀ x y : Int, decide (b.2.1 + n * b.2.2 ≤ f.1 + n * f.2) = decide (b.2.1 - f.1 ≤ n * (f.2 - b.2.2)) := fun _ _ => decide_eq_decide.mpr e
  rw [key 0 0]
  unfold m_from_zero o_from_zero
  dsimp only
  generalize b.2.1 - f.1 = more
  generalize f.2 - b.2.2 = less
  by_cases c1 : more ≤ 0
  · rw [if_pos (decide_eq_true c1)]
    by_cases c2 : less < 0
    · rw [if_pos (decide_eq_true c2)]
      simp only [ret_rt]
      unfold g__law_within m__law_within o__law_within
      have e0 : cO cI (some (0 : Int)) = cI ((some (0 : Int)).getD default) := rfl
      have e1 : cO cI (some (Int.fdiv more less)) = cI ((some (Int.fdiv more less)).getD default) := rfl
      have e2 : decide ((0 : Int) ≤ n) = true := decide_eq_true hn
      simp only [e0, e1, e2, Option.isNone_some, Option.getD_some, Bool.not_false, Bool.true_and, Bool.false_or, true_and, and_true, implies_true, ret_rt]
      refine decide_eq_decide.mpr ?_
      have h1 : Int.fdiv more less = (-more) / (-less) := by
        have := Int.neg_fdiv_neg more less
        rw [← this, Int.fdiv_eq_ediv_of_nonneg _ (by omega)]
      rw [h1, Int.le_ediv_iff_mul_le (by omega), Int.mul_neg]
      omega
    · rw [if_neg (by simp; omega)]
      simp only [ret_rt]
      unfold g__law_within m__law_within o__law_within
      have e0 : cO cI (some (0 : Int)) = cI ((some (0 : Int)).getD default) := rfl
      have e2 : decide ((0 : Int) ≤ n) = true := decide_eq_true hn
      simp only [e0, e2, Option.isNone_some, Option.isNone_none, Option.getD_some, Bool.not_false, Bool.true_and, Bool.true_or, true_and, and_true, implies_true, Bool.true_eq_false, false_implies, ret_rt]
      have := Int.mul_nonneg hn (show 0 ≤ less by omega)
      rw [decide_eq_true (show more ≤ n * less by omega)]
  · rw [if_neg (by simp; omega)]
    by_cases c2 : 0 < less
    · rw [if_pos (decide_eq_true c2)]
      simp only [ret_rt]
      unfold g__law_within m__law_within o__law_within
      have e1 : cO cI (some (-(Int.fdiv (-more) less))) = cI ((some (-(Int.fdiv (-more) less))).getD default) := rfl
      simp only [e1, Option.isNone_some, Option.isNone_none, Option.getD_some, Bool.not_false, Bool.true_and, Bool.true_or, Bool.and_true, true_and, and_true, implies_true, Bool.true_eq_false, false_implies, ret_rt]
      refine decide_eq_decide.mpr ?_
      rw [Int.fdiv_eq_ediv_of_nonneg _ (by omega)]
      have h1 : -n ≤ -more / less ↔ -n * less ≤ -more := Int.le_ediv_iff_mul_le c2
      rw [Int.neg_mul] at h1
      omega
    · rw [if_neg (by simp; omega)]
      simp only [ret_rt]
      unfold g__law_within m__law_within o__law_within
      simp only [Option.isNone_none, Bool.not_true, Bool.false_and, true_and, and_true, implies_true, Bool.false_eq_true, false_implies, ret_rt]
      have := Int.mul_nonneg hn (show 0 ≤ -less by omega)
      rw [Int.mul_neg] at this
      rw [decide_eq_false (show ¬ more ≤ n * less by omega)]

/-! growth -/
structure Gr (q : Int × Int) : Prop where
  m : q ∈ [((11 : Int), (10 : Int)), (9, 10), (3, 2), (1, 1), (2, 1), (1, 2), (7, 5)]
theorem Gr.bd {q : Int × Int} (h : Gr q) : 1 ≤ q.1 ∧ q.1 ≤ 11 ∧ 1 ≤ q.2 ∧ q.2 ≤ 10 ∧ q.1 ≤ 2 * q.2 := by
  have : ∀ q ∈ [((11 : Int), (10 : Int)), (9, 10), (3, 2), (1, 1), (2, 1), (1, 2), (7, 5)], 1 ≤ q.1 ∧ q.1 ≤ 11 ∧ 1 ≤ q.2 ∧ q.2 ≤ 10 ∧ q.1 ≤ 2 * q.2 := by decide
  exact this q h.m
theorem Gr.num {q : Int × Int} (h : Gr q) : m_is_number (q, ()) = true := by
  have : ∀ q ∈ [((11 : Int), (10 : Int)), (9, 10), (3, 2), (1, 1), (2, 1), (1, 2), (7, 5)], m_is_number (q, ()) = true := by decide +kernel
  exact this q h.m
theorem Gr.gnum {q : Int × Int} (h : Gr q) : g_is_number (q, ()) := by
  have : ∀ q ∈ [((11 : Int), (10 : Int)), (9, 10), (3, 2), (1, 1), (2, 1), (1, 2), (7, 5)], ∃ r : Rat, q = qp r ∧ Sz 5 r := by
    intro q hq
    simp only [List.mem_cons, List.not_mem_nil, or_false] at hq
    rcases hq with rfl | rfl | rfl | rfl | rfl | rfl | rfl
    · exact ⟨⟨11, 10, by decide, by decide⟩, rfl, by decide, by decide⟩
    · exact ⟨⟨9, 10, by decide, by decide⟩, rfl, by decide, by decide⟩
    · exact ⟨⟨3, 2, by decide, by decide⟩, rfl, by decide, by decide⟩
    · exact ⟨⟨1, 1, by decide, by decide⟩, rfl, by decide, by decide⟩
    · exact ⟨⟨2, 1, by decide, by decide⟩, rfl, by decide, by decide⟩
    · exact ⟨⟨1, 2, by decide, by decide⟩, rfl, by decide, by decide⟩
    · exact ⟨⟨7, 5, by decide, by decide⟩, rfl, by decide, by decide⟩
  obtain ⟨r, rfl, z⟩ := this q h.m
  exact (isn_ok (z.mono (by decide) : Sz 39 _).num12.1 (z.mono (by decide) : Sz 39 _).num12.2).1
theorem grw_bd {q : Int × Int} (h : Gr q) {x : Int} (h0 : 0 ≤ x) : ∀ n : Nat, 0 ≤ grw q.1 q.2 x n ∧ grw q.1 q.2 x n ≤ x * 2 ^ n
  | 0 => ⟨h0, by show x ≤ x * 1; omega⟩
  | n + 1 => by
    obtain ⟨i1, i2⟩ := grw_bd h h0 n
    obtain ⟨b1, b2, b3, b4, b5⟩ := h.bd
    show 0 ≤ grw q.1 q.2 x n * q.1 / q.2 ∧ grw q.1 q.2 x n * q.1 / q.2 ≤ _
    refine ⟨Int.ediv_nonneg (Int.mul_nonneg i1 (by omega)) (by omega), ?_⟩
    refine Int.ediv_le_of_le_mul (by omega) ?_
    have h1 : grw q.1 q.2 x n * q.1 ≤ (x * 2 ^ n) * (2 * q.2) := Int.mul_le_mul i2 b5 (by omega) (Int.mul_nonneg h0 (Int.pow_nonneg (by decide)))
    have e : x * 2 ^ (n + 1) * q.2 = (x * 2 ^ n) * (2 * q.2) := by rw [Int.pow_succ]; grind
    omega
theorem grown_ok {q : Int × Int} (h : Gr q) {x : Int} {n : Nat} (h0 : 0 ≤ x) (h1 : x ≤ 200000) (n0 : 1 ≤ n) (n1 : n ≤ 9) : g_grown_traffic (x, q, (n : Int), ()) ∧ m_grown_traffic (x, q, (n : Int), ()) = (List.range n).map fun k => grw q.1 q.2 x k := by
  obtain ⟨b1, b2, b3, b4, b5⟩ := h.bd
  have key := fold_rng (g := kg1_grown_traffic q) (f := k1_grown_traffic q) (fun k => ((List.range k).map (fun k => grw q.1 q.2 x k), grw q.1 q.2 x k)) n fun k hk => by
    have cm : CMul (grw q.1 q.2 x k) q.1 := .inr ⟨by omega, by omega⟩
    have cd : CDivW (grw q.1 q.2 x k * q.1) q.2 := ⟨by omega, Nat.lt_trans (log2_lt (k := 62) (by omega)) (by decide)⟩
    have ll : ((List.range k).map (fun k => grw q.1 q.2 x k)).length < 16777216 := by rw [List.length_map, List.length_range]; omega
    unfold kg1_grown_traffic k1_grown_traffic
    simp only [cm, cd, ll, true_and, and_true]
    rw [List.range_succ, List.map_append]
    rfl
  have cr : CRg 0 (n : Int) := by unfold CRg; omega
  have e1 : (decide ((0 : Int) ≤ x) && decide (x ≤ 1000000000000)) = true := by simp; omega
  have e2 : (decide ((1 : Int) ≤ (n : Int)) && decide ((n : Int) ≤ 40)) = true := by simp; omega
  have e3 : decide (q.1 ≤ 0) = false := by simp; omega
  unfold g_grown_traffic m_grown_traffic o_grown_traffic
  simp only [g_isint, m_isint, h.num, h.gnum, e1, e2, e3, cr, true_and, and_true, implies_true, Bool.not_true, Bool.or_self, ret_rt]
  exact ⟨key.1, congrArg Prod.fst key.2⟩
/-! debts -/
theorem even_ok {s : Int} {r : Rat} {n : Nat} (h0 : 0 ≤ s) (h1 : s ≤ 1000) (h3 : Ra r) (n0 : 1 ≤ n) (n1 : n ≤ 8) : g_even_payment (s, qp r, (n : Int), ()) ∧ m_even_payment (s, qp r, (n : Int), ()) = qp ((s : Rat) / psum r n) ∧ Sz 400 ((s : Rat) / psum r n) := by
  have pp := psum_pos h3.p (show 0 < n by omega)
  have er : (rng 0 (n : Int)).map (fun x1 => m_power (qp r, x1, ())) = ((List.range n).map fun k => r ^ k).map qp := by
    rw [rng_eq, List.map_map, List.map_map]
    refine List.map_congr_left fun k hk => ?_
    rw [List.mem_range] at hk
    have := (power_ok (n := (k : Int)) h3.z (by omega) (by omega) (by omega)).2.1
    simpa using this
  have zs : Sz 12 (s : Rat) := .int (by show s.natAbs < 4096; omega) (by decide)
  obtain ⟨s1, s2, s3⟩ := sum_ok (k := 41) (xs := (List.range n).map fun k => r ^ k) (fun x hx => by
    obtain ⟨k, hk, rfl⟩ := List.mem_map.mp hx
    rw [List.mem_range] at hk
    exact (sz_pow h3.z k).mono (by omega)) (by rw [List.length_map, List.length_range]; omega)
  rw [List.length_map, List.length_range] at s3
  have s3' : Sz 380 (psum r n) := s3.mono (by omega)
  have o := over_ok zs s3' (Rat.ne_of_gt pp) (by decide)
  have cr : CRg 0 (n : Int) := by unfold CRg; omega
  have e1 : (decide ((0 : Int) ≤ s) && decide (s ≤ 1000000000000)) = true := by simp; omega
  have e2 : (decide ((1 : Int) ≤ (n : Int)) && decide ((n : Int) ≤ 40)) = true := by simp; omega
  unfold g_even_payment m_even_payment o_even_payment
  simp only [g_isint, m_isint, g_rate h3, e1, e2, cr, er, qp_int, s1, s2, true_and, and_true, implies_true, Bool.not_true, Bool.or_self, ret_rt]
  change ((∀ x1 ∈ rng 0 (n : Int), g_power (qp r, x1, ())) ∧ g_over (qp (s : Rat), qp (psum r n), ())) ∧ m_over (qp (s : Rat), qp (psum r n), ()) = _ ∧ _
  refine ⟨⟨fun x hx => ?_, o.1⟩, o.2, (zs.div s3' (Rat.ne_of_gt pp)).mono (by decide)⟩
  rw [mem_rng] at hx
  exact (power_ok h3.z hx.1 (by omega) (by omega)).1
def owes (r s : Rat) (ps : List Rat) (k : Nat) : List (Int × Int) := (List.range (k + 1)).map fun j => qp (owe r s ps j)
theorem sz_cur {r : Rat} (hr : Sz 5 r) (h0 : 0 < r) {K : Nat} : ∀ (ps : List Rat) (s : Rat) (n : Nat), Sz n s → (∀ p ∈ ps, Sz K p) → Sz (n + (K + 6) * ps.length) (cur r s ps)
  | [], s, n, h, _ => h
  | p :: ps, s, n, h, hp => by
    have := sz_cur hr h0 ps ((s - p) / r) (n + K + 1 + 5) ((h.sub (hp p List.mem_cons_self)).div hr (Rat.ne_of_gt h0)) fun q hq => hp q (List.mem_cons_of_mem _ hq)
    rw [List.length_cons, Nat.mul_add]
    exact this.mono (by omega)
theorem debts_ok {s : Int} {r : Rat} {ps : List Rat} {K : Nat} (h0 : 0 ≤ s) (h1 : s ≤ 1000) (h3 : Ra r) (n0 : 1 ≤ ps.length) (n1 : ps.length ≤ 8) (hp : ∀ p ∈ ps, Sz K p) (hK : K ≤ 400) : g_debts (s, qp r, ps.map qp, ()) ∧ m_debts (s, qp r, ps.map qp, ()) = owes r s ps ps.length ∧ ∀ j, j ≤ ps.length → Sz (13 + (K + 6) * 9) (owe r s ps j) := by
  have zs : Sz 12 (s : Rat) := .int (by show s.natAbs < 4096; omega) (by decide)
  have zc : ∀ j, j ≤ ps.length → Sz (12 + (K + 6) * j) (cur r s (ps.take j)) := fun j hj => by
    have := sz_cur h3.z h3.p (ps.take j) s 12 zs fun p hp' => hp p (List.mem_of_mem_take hp')
    rw [List.length_take, Nat.min_eq_left hj] at this
    exact this
  have hm : ∀ j, j ≤ 8 → (K + 6) * j ≤ (K + 6) * 8 := fun j hj => Nat.mul_le_mul_left _ hj
  have zo : ∀ j, j ≤ ps.length → Sz (13 + (K + 6) * 9) (owe r s ps j) := fun j hj => by
    unfold owe
    have := hm j (by omega)
    have := hm (j - 1) (by omega)
    split
    · exact (zc j hj).mono (by omega)
    · have hp' : Sz (K + 1) ((ps[j - 1]?).getD 0) := by
        cases e : ps[j - 1]? with
        | none => exact Sz.zero.mono (by omega)
        | some p => exact (hp p (List.mem_of_getElem? e)).mono (by omega)
      exact ((zc (j - 1) (by omega)).sub hp').mono (by omega)
  have key := fold_pre (g := fun q : List (Int × Int) × (Int × (Int × Int)) => kg1_debts (qp r) (ps.map qp) q) (f := k1_debts (qp r) (ps.map qp)) (fun l1 => owes r s ps l1.length) (enum (ps.map qp)) fun l1 x l2 e => by
    have hl1 : l1.length < ps.length := by
      have := congrArg List.length e
      rw [enum_length, List.length_map, List.length_append, List.length_cons] at this
      omega
    have ex : x = ((l1.length : Int), qp ps[l1.length]) := by
      have : (enum (ps.map qp))[l1.length]? = (l1 ++ x :: l2)[l1.length]? := by rw [e]
      rw [enum_get, List.getElem?_map, List.getElem?_eq_getElem hl1, List.getElem?_append_right (Nat.le_refl _), Nat.sub_self] at this
      exact (Option.some.inj this).symm
    subst ex
    have el : ixD (owes r s ps l1.length) (-1) = qp (cur r s (ps.take l1.length)) := by
      refine ixD_getLast ?_
      unfold owes
      rw [List.range_succ, List.map_append, List.map_singleton, List.getLast?_append]
      show some (qp (owe r s ps l1.length)) = _
      unfold owe
      rw [if_pos (.inl hl1)]
    have ci : CIx (owes r s ps l1.length) (-1) := by
      unfold CIx owes
      rw [List.length_map, List.length_range]
      omega
    have z1 := zc l1.length (by omega)
    have := hm l1.length (by omega)
    have z2 := hp ps[l1.length] (List.getElem_mem hl1)
    have t1 := minus_ok z1 z2 (by omega)
    have zd := z1.sub z2
    have t2 := over_ok zd h3.z (Rat.ne_of_gt h3.p) (by omega)
    have ll : (owes r s ps l1.length).length < 16777216 := by unfold owes; rw [List.length_map, List.length_range]; omega
    have lm : ((ps.map qp).length : Int) = (ps.length : Int) := by rw [List.length_map]
    have es : owes r s ps (l1 ++ [((l1.length : Int), qp ps[l1.length])]).length = owes r s ps l1.length ++ [qp (owe r s ps (l1.length + 1))] := by
      rw [List.length_append, List.length_singleton]
      unfold owes
      rw [List.range_succ (n := l1.length + 1), List.map_append]
      rfl
    rw [es]
    unfold kg1_debts k1_debts
    by_cases c : l1.length + 1 < ps.length
    · have ec : decide ((l1.length : Int) + 1 < (ps.length : Int)) = true := decide_eq_true (by omega)
      have eo : owe r s ps (l1.length + 1) = (cur r s (ps.take l1.length) - ps[l1.length]) / r := by
        unfold owe
        rw [if_pos (.inl c), List.take_succ_eq_append_getElem hl1, cur_snoc]
      simp only [el, ci, t1.1, t1.2, t2.1, t2.2, lm, ec, ll, eo, if_true, true_and, and_true, implies_true]
    · have ec : decide ((l1.length : Int) + 1 < (ps.length : Int)) = false := decide_eq_false (by omega)
      have eo : owe r s ps (l1.length + 1) = cur r s (ps.take l1.length) - ps[l1.length] := by
        unfold owe
        rw [if_neg (by omega), Nat.add_sub_cancel, List.getElem?_eq_getElem hl1]
        rfl
      simp only [el, ci, t1.1, t1.2, lm, ec, ll, eo, Bool.false_eq_true, if_false, false_implies, true_and, and_true, implies_true]
  have e1 : (decide ((0 : Int) ≤ s) && decide (s ≤ 1000000000000)) = true := by simp; omega
  have e2 : (decide ((1 : Int) ≤ ((ps.map qp).length : Int)) && decide (((ps.map qp).length : Int) ≤ 40)) = true := by rw [List.length_map]; simp; omega
  have e3 : ((ps.map qp).map fun x1 => m_is_quotient (x1, ())).all id = true := by
    rw [List.all_eq_true]
    intro z hz
    obtain ⟨x, hx, rfl⟩ := List.mem_map.mp hz
    obtain ⟨u, _, rfl⟩ := List.mem_map.mp hx
    exact (isq_ok _).2
  have e4 : ∀ x1 ∈ ps.map qp, g_is_quotient (x1, ()) := fun x hx => by
    obtain ⟨u, _, rfl⟩ := List.mem_map.mp hx
    exact (isq_ok _).1
  have e5 : owes r s ps 0 = [(s, 1)] := by
    have : owe r s ps 0 = (s : Rat) := by
      unfold owe
      rw [if_pos (.inr rfl)]
      rfl
    show [qp (owe r s ps 0)] = _
    rw [this]
    rfl
  have k1 := key.1
  have k2 := key.2
  simp only [List.length_nil, e5] at k1 k2
  rw [enum_length, List.length_map] at k2
  unfold g_debts m_debts o_debts
  simp only [g_isint, m_isint, g_rate h3, e1, e2, e3, true_and, and_true, implies_true, Bool.not_true, Bool.or_self, ret_rt]
  exact ⟨⟨fun x hx => e4 x hx, k1⟩, k2, zo⟩

/-! the law's parts -/
abbrev Ca := Fr2 × Br3 × List Int × (Int × Int)
theorem cost_ge {f : Fr2} {b : Br3} {T : List Int} {r : Rat} (h2 : Tr T) {k : Nat} (hk : k ≤ T.length) : ixD ((yl T).map fun x => qp (C f b T r x)) (k : Int) = qp (C f b T r (yrs T.length k)) ∧ CIx ((yl T).map fun x => qp (C f b T r x)) (k : Int) := by
  refine ⟨ixD_of ?_, cix_of (by omega) (by rw [List.length_map, yl_len]; omega)⟩
  rw [List.getElem?_map, yl_get hk]
  rfl
theorem savings_ok {f : Fr2} {b : Br3} {T : List Int} {r : Rat} (h1 : Am f b) (h2 : Tr T) (h3 : Ra r) : g__law_savings_hold ((f, b, T, qp r), ()) ∧ m__law_savings_hold ((f, b, T, qp r), ()) = true := by
  have hl := h2.l1
  have hl0 := h2.l0
  have zC : ∀ y, Sz 640 (C f b T r y) := fun y => zwr h3.z (by rw [swi_len]; exact hl) fun v hv => abs18 (swi_bd h1 h2.t y v hv)
  have eyl : ((rng 0 (T.length : Int)).map (fun x : Int => some x)) ++ ([()].map (fun x : Unit => (none : Option Int))) = yl T := rfl
  have eco : (yl T).map (fun x3 => m_whole_cost (f, b, T, qp r, x3, ())) = (yl T).map fun x => qp (C f b T r x) := List.map_congr_left fun y hy => (whole_ok h1 h2 h3 (yl_ok y hy)).2.1
  have gco : ∀ x3 ∈ yl T, g_whole_cost (f, b, T, qp r, x3, ()) := fun y hy => (whole_ok h1 h2 h3 (yl_ok y hy)).1
  obtain ⟨sf1, sf2⟩ := savings_fn h1 h2 h3
  have cr : CRg 0 (T.length : Int) := by unfold CRg; omega
  have l16 : ((rng 0 (T.length : Int)).map (fun x : Int => some x)).length + ([()].map (fun x : Unit => (none : Option Int))).length ≤ 16777216 := by
    rw [List.length_map, rng_length]; simp; omega
  have lsv : decide ((((List.range T.length).map fun k => qp (sv f b T r k)).length : Int) = (T.length : Int)) = true := by rw [List.length_map, List.length_range]; simp
  have sq : ∀ {k : Nat} z, Sz k z → k ≤ 1800 → Sw 3809 1 (c2 cI cI (qp z)) := fun r z hk => sw_qp z hk
  have zS : ∀ k, k ≤ T.length → Sz 641 (C f b T r (yrs T.length 0) - C f b T r (yrs T.length k)) → True := fun _ _ _ => trivial
  have zW : ∀ k, Sz 1281 (C f b T r (yrs T.length 0) - C f b T r (yrs T.length k)) := fun k => (zC _).sub (zC _)
  have key := forO_rng (S := Empty) (g := kg1__law_savings_hold (f, b, T, qp r) ((yl T).map fun x => qp (C f b T r x)) ((List.range T.length).map fun k => qp (sv f b T r k))) (f := k1__law_savings_hold (f, b, T, qp r) ((yl T).map fun x => qp (C f b T r x)) ((List.range T.length).map fun k => qp (sv f b T r k))) (fun k => qp (C f b T r (yrs T.length 0) - C f b T r (yrs T.length k))) (fun _ => false) (fun _ => false) T.length fun k hk => by
    obtain ⟨p1, p2⟩ := lpow_ok (k := k) h3.z (by omega)
    obtain ⟨z1, z2, z3⟩ := sv_sz h1 h2 h3 hk
    have zp := (sz_pow h3.z k).mono (show _ ≤ 46 by omega)
    have esv : ixD ((List.range T.length).map fun k => qp (sv f b T r k)) (k : Int) = qp (sv f b T r k) := ixD_of (by rw [List.getElem?_map, List.getElem?_range hk]; rfl)
    have csv : CIx ((List.range T.length).map fun k => qp (sv f b T r k)) (k : Int) := cix_of (by omega) (by rw [List.length_map, List.length_range]; omega)
    obtain ⟨d1, d2⟩ := cost_ge (f := f) (b := b) (r := r) h2 (k := k) (by omega)
    obtain ⟨d3, d4⟩ := cost_ge (f := f) (b := b) (r := r) h2 (k := k + 1) (by omega)
    have e1 : ((k + 1 : Nat) : Int) = (k : Int) + 1 := by omega
    rw [e1] at d3 d4
    have q1 := lmul_ok z3 zp (by decide)
    have q2 := lplus_ok (zW k) (z3.mul zp) (by decide)
    have q3 := lplus_ok (zC (yrs T.length (k + 1))) (z3.mul zp) (by decide)
    have el := later' (f := f) (b := b) (r := r) hk
    rw [← el] at q3
    have ew : C f b T r (yrs T.length 0) - C f b T r (yrs T.length k) + sv f b T r k * r ^ k = C f b T r (yrs T.length 0) - C f b T r (yrs T.length (k + 1)) := by rw [el]; grind
    rw [ew] at q2
    have S1 := law_same_Q_ok (x := qp (C f b T r (yrs T.length k))) rfl ((sq _ (zC _) (by decide)).shw (by decide) (by decide))
    unfold kg1__law_savings_hold k1__law_savings_hold
    simp only [p1, p2, esv, csv, d1, d2, d3, d4, q1.1, q1.2, q2.1, q2.2, q3.1, q3.2, S1.1, S1.2, Bool.not_true, Bool.false_eq_true, if_false, true_and, and_true, implies_true]
  have e00 : C f b T r (yrs T.length 0) - C f b T r (yrs T.length 0) = 0 := by grind
  have ef : (List.range T.length).find? (fun _ => false) = none := by rw [List.find?_eq_none]; simp
  rw [ef, e00] at key
  obtain ⟨key1, key2⟩ := key
  have ey0 : yrs T.length T.length = none := if_neg (by omega)
  rw [ey0] at key2
  have zN := (zC (yrs T.length 0)).sub (zC none)
  obtain ⟨dl1, dl2⟩ := cost_ge (f := f) (b := b) (r := r) h2 (k := 0) (by omega)
  have elast : ixD ((yl T).map fun x => qp (C f b T r x)) (-1) = qp (C f b T r none) ∧ CIx ((yl T).map fun x => qp (C f b T r x)) (-1) := by
    refine ⟨ixD_getLast ?_, by unfold CIx; rw [List.length_map, yl_len]; omega⟩
    unfold yl
    rw [List.map_append, List.map_singleton, List.getLast?_append]
    rfl
  have q4 := lplus_ok (zC none) zN (by decide)
  have e4 : C f b T r none + (C f b T r (yrs T.length 0) - C f b T r none) = C f b T r (yrs T.length 0) := by grind
  rw [e4] at q4
  have S2 := law_same_Q_ok (x := qp (C f b T r (yrs T.length 0))) rfl ((sq _ (zC _) (by decide)).shw (by decide) (by decide))
  -- money that keeps its worth
  have S3 : PyData.eqv (c2 cI cI (qp r)) (c2 cI cI ((1 : Int), (1 : Int))) = true → g__law_same_LQ ((yl T).map (fun x => qp (C f b T r x)), (yl T).map (fun x12 => ((m_yearly_costs (f, b, T, x12, ())).sum, (1 : Int))), ()) ∧ m__law_same_LQ ((yl T).map (fun x => qp (C f b T r x)), (yl T).map (fun x12 => ((m_yearly_costs (f, b, T, x12, ())).sum, (1 : Int))), ()) = true := fun he => by
    have hr : r = 1 := by
      have : PyData.eqv (.tuple [.int r.num, .int (r.den : Int)]) (.tuple [.int 1, .int 1]) = true := he
      simp only [PyData.eqv, PyData.eqvAll, Bool.and_true, Bool.and_eq_true, beq_iff_eq] at this
      exact Rat.ext this.1 (by show r.den = 1; omega)
    have e : (yl T).map (fun x => qp (C f b T r x)) = (yl T).map (fun x12 => ((m_yearly_costs (f, b, T, x12, ())).sum, (1 : Int))) := List.map_congr_left fun y hy => by
      rw [(yearly_ok h1 h2 (yl_ok y hy)).2]
      unfold C
      rw [hr, wr_one]
      rfl
    exact law_same_LQ_ok e ((sw_L (n := 3809) (k := 1) 10 (by rw [List.length_map, yl_len]; omega) fun x hx => by
      obtain ⟨y, hy, rfl⟩ := List.mem_map.mp hx
      exact sq _ (zC y) (by decide)).shw (by decide) (by decide))
  have gy : ∀ x12 ∈ yl T, g_yearly_costs (f, b, T, x12, ()) := fun y hy => (yearly_ok h1 h2 (yl_ok y hy)).1
  -- the best year
  obtain ⟨by1, by2⟩ := best_ok h1 h2 h3
  obtain ⟨y, hy, ey, my⟩ := bmin_is (C f b T r) (yl_ne T)
  rw [ey] at by2
  have by3 : m_best_year (f, b, T, qp r, ()) = (qp (C f b T r y), y) := by2
  obtain ⟨ix1, k, kl, ix2, ix3⟩ := idx_ok (α := Unit) hy hl
  obtain ⟨dk1, dk2⟩ := cost_ge (f := f) (b := b) (r := r) h2 (k := k) kl
  rw [ix3] at dk1
  have S4 := law_same_Q_ok (x := qp (C f b T r y)) rfl ((sq _ (zC _) (by decide)).shw (by decide) (by decide))
  have ac := accept_ok h1 h2 h3 hy my
  unfold g__law_savings_hold m__law_savings_hold o__law_savings_hold
  dsimp only
  simp only [eyl, eco, sf1, sf2, cr, l16, lsv, true_and, and_true, implies_true, Bool.not_true, Bool.false_eq_true, if_false, false_implies, true_implies]
  have eq0 : ((0 : Int), (1 : Int)) = qp 0 := rfl
  have dl3 : ixD ((yl T).map fun x => qp (C f b T r x)) 0 = qp (C f b T r (yrs T.length 0)) := dl1
  have dl4 : CIx ((yl T).map fun x => qp (C f b T r x)) 0 := dl2
  rw [eq0, key2, nx_bind]
  simp only [nx_all, key1, elast.1, elast.2, dl3, dl4, q4.1, q4.2, S2.1, S2.2, by1, by3, ix1, ix2, dk1, dk2, S4.1, S4.2, ac, true_and, and_true, implies_true, Bool.not_true, Bool.false_eq_true, if_false, false_implies, true_implies, Bool.and_self]
  refine ⟨⟨gco, fun he => ⟨gy, (S3 he).1⟩⟩, ?_⟩
  cases he : PyData.eqv (c2 cI cI (qp r)) (c2 cI cI ((1 : Int), (1 : Int))) with
  | false => rfl
  | true =>
    have := (S3 he).2
    simp only [this, Bool.not_true, Bool.and_false, Bool.false_eq_true, if_false, ret_rt]

/-! amounts times a number -/
def fm (f : Fr2) (m : Int) : Fr2 := (f.1 * m, f.2 * m)
def bm (b : Br3) (m : Int) : Br3 := (b.1 * m, b.2.1 * m, b.2.2 * m)
theorem fcs_m (f : Fr2) (T : List Int) (m : Int) : fcs (fm f m) T = (fcs f T).map (· * m) := by
  unfold fcs fm
  rw [List.map_map]
  refine List.map_congr_left fun x _ => ?_
  simp only [Function.comp]
  rw [Int.add_mul, Int.mul_assoc]
theorem bcs_m (b : Br3) (T : List Int) (m : Int) : bcs (bm b m) T = (bcs b T).map (· * m) := by
  unfold bcs bm
  rw [List.map_map]
  refine List.map_congr_left fun x _ => ?_
  simp only [Function.comp]
  rw [Int.add_mul, Int.mul_assoc]
theorem addH_m (c m : Int) (xs : List Int) : addH (c * m) (xs.map (· * m)) = (addH c xs).map (· * m) := by
  cases xs with
  | nil => rfl
  | cons x xs => show (x * m + c * m) :: _ = ((x + c) * m) :: _; rw [Int.add_mul]
theorem swi_m (f : Fr2) (b : Br3) (T : List Int) (m : Int) (y : Option Int) : swi (fm f m) (bm b m) T y = (swi f b T y).map (· * m) := by
  cases y with
  | none => exact fcs_m f T m
  | some k =>
    show (fcs (fm f m) T).take k.toNat ++ addH (b.1 * m) ((bcs (bm b m) T).drop k.toNat) = ((fcs f T).take k.toNat ++ addH b.1 ((bcs b T).drop k.toNat)).map (· * m)
    rw [fcs_m, bcs_m, List.map_append, ← List.map_drop, addH_m, ← List.map_take]
theorem C_m (f : Fr2) (b : Br3) (T : List Int) (r : Rat) (m : Int) (y : Option Int) : C (fm f m) (bm b m) T r y = C f b T r y * (m : Rat) := by
  unfold C
  rw [swi_m, wr_scale]
theorem ixD_mapI {xs : List Int} {m : Int} {k : Nat} (h : k < xs.length) : ixD (xs.map (· * m)) (k : Int) = ixD xs (k : Int) * m := by
  rw [ixD_get h]
  refine ixD_of ?_
  rw [List.getElem?_map, List.getElem?_eq_getElem h]
  rfl
theorem dfs_m (f : Fr2) (b : Br3) (T : List Int) (m : Int) : dfs (fm f m) (bm b m) T = (dfs f b T).map (· * m) := by
  unfold dfs
  rw [List.map_map, swi_m, fcs_m]
  refine List.map_congr_left fun k hk => ?_
  rw [List.mem_range] at hk
  simp only [Function.comp]
  rw [ixD_mapI (by rw [swi_len]; exact hk), ixD_mapI (by unfold fcs; rw [List.length_map]; exact hk), Int.sub_mul]
theorem mul_le0 {a m : Rat} (hm : 0 < m) : a * m ≤ 0 ↔ a ≤ 0 := by
  constructor
  · intro h
    exact Rat.not_lt.mp fun q => Rat.not_lt.mpr h (Rat.mul_pos q hm)
  · intro h
    have := Rat.mul_le_mul_of_nonneg_right h (Rat.le_of_lt hm)
    rwa [Rat.zero_mul] at this
theorem jw_m (f : Fr2) (b : Br3) (T : List Int) (r : Rat) {m : Int} (hm : 0 < m) : jw (fm f m) (bm b m) T r = match (List.range T.length).find? (fun k => decide (wr r 1 ((dfs f b T).take (k + 1)) ≤ 0)) with
    | some k => (PySem.Str.ofString "bridge", cI (k : Int))
    | none => (PySem.Str.ofString "ferry", c2 cI cI (qp (wr r 1 (dfs f b T) * (m : Rat)))) := by
  unfold jw
  have hm' : (0 : Rat) < (m : Rat) := Rat.intCast_pos.mpr hm
  have e : (fun k => decide (wr r 1 ((dfs (fm f m) (bm b m) T).take (k + 1)) ≤ 0)) = fun k => decide (wr r 1 ((dfs f b T).take (k + 1)) ≤ 0) := by
    funext k
    rw [dfs_m, ← List.map_take, wr_scale]
    exact decide_eq_decide.mpr (mul_le0 hm')
  rw [e, dfs_m, wr_scale]
structure Am0 (f : Fr2) (b : Br3) : Prop where
  f1 : 0 ≤ f.1 ∧ f.1 ≤ 49
  f2 : 0 ≤ f.2 ∧ f.2 ≤ 8
  b1 : 0 ≤ b.1 ∧ b.1 ≤ 399
  b2 : 0 ≤ b.2.1 ∧ b.2.1 ≤ 39
  b3 : 0 ≤ b.2.2 ∧ b.2.2 ≤ 5
theorem Am0.ok {f : Fr2} {b : Br3} (h : Am0 f b) : Am f b := by
  obtain ⟨h1, h2, h3, h4, h5⟩ := h
  exact ⟨by omega, by omega, by omega, by omega, by omega⟩
theorem Am0.m {f : Fr2} {b : Br3} (h : Am0 f b) {m : Int} (h0 : 0 < m) (h1 : m ≤ 10) : Am (fm f m) (bm b m) := by
  obtain ⟨a1, a2, a3, a4, a5⟩ := h
  have pr : ∀ x c : Int, 0 ≤ x ∧ x ≤ c → c ≤ 400 → 0 ≤ x * m ∧ x * m ≤ 4000 := fun x c p q => by
    have h1' := Int.mul_nonneg p.1 (show 0 ≤ m by omega)
    have h2' : x * m ≤ 400 * 10 := Int.mul_le_mul (by omega) h1 (by omega) (by decide)
    omega
  exact ⟨pr _ 49 a1 (by decide), pr _ 8 a2 (by decide), pr _ 399 a3 (by decide), pr _ 39 a4 (by decide), pr _ 5 a5 (by decide)⟩
theorem Tr.sub {T T' : List Int} (h : Tr T) (h0 : 1 ≤ T'.length) (h1 : T'.length ≤ T.length) (h2 : ∀ x ∈ T', x ∈ T) : Tr T' := ⟨h0, by have := h.l1; omega, fun x hx => h.t x (h2 x hx)⟩
theorem spb : Y.Sp 0 (.str (PySem.Str.ofString "bridge")) := sp_str (by decide +kernel)
theorem spf : Y.Sp 0 (.str (PySem.Str.ofString "ferry")) := sp_str (by decide +kernel)
theorem swb : Sw 3809 1 (.str (PySem.Str.ofString "bridge")) := Sw.mono (n := 201) (k := 0) ⟨by decide +kernel, by decide +kernel, by decide +kernel, by decide +kernel⟩ (by decide) (by decide)
theorem swf : Sw 3809 1 (.str (PySem.Str.ofString "ferry")) := Sw.mono (n := 201) (k := 0) ⟨by decide +kernel, by decide +kernel, by decide +kernel, by decide +kernel⟩ (by decide) (by decide)
theorem sfb : decide (PySem.Str.ofString "ferry" = PySem.Str.ofString "bridge") = false := by decide +kernel
theorem parts_ok {f : Fr2} {b : Br3} {T : List Int} {r : Rat} {t : St4} (h0 : Am0 f b) (h2 : Tr T) (h3 : Ra r) (w : Wf t) : g__law_parts_hold (((f, b, T, qp r), ()), t) ∧ (m__law_parts_hold (((f, b, T, qp r), ()), t)).1 = true ∧ Wf (m__law_parts_hold (((f, b, T, qp r), ()), t)).2 := by
  have h1 := h0.ok
  have hl := h2.l1
  have hl0 := h2.l0
  have sq : ∀ {k : Nat} z, Sz k z → k ≤ 1800 → Sw 3809 1 (c2 cI cI (qp z)) := fun r z hk => sw_qp z hk
  obtain ⟨a1, a2, a3, a4⟩ := draw_ok (m := (T.length : Int)) w (by omega) (by omega)
  unfold g__law_parts_hold m__law_parts_hold o__law_parts_hold
  dsimp only
  generalize m__law_draw (((T.length : Int), ()), t) = r2 at a1 a2 a3 a4 ⊢
  obtain ⟨b1, b2, b3, b4⟩ := draw_ok (m := 9) a4 (by decide) (by decide)
  generalize m__law_draw ((9, ()), r2.2) = r16 at b1 b2 b3 b4 ⊢
  obtain ⟨n1, n2, n3⟩ := whole_ok h1 h2 h3 (y := none) (fun k e => by cases e)
  obtain ⟨k, hk⟩ := Int.eq_ofNat_of_zero_le a2
  rw [hk]
  have n4 : m_whole_cost (f, b, T, qp r, none, ()) = qp (C f b T r none) := n2
  -- years in two parts
  have cutp : decide ((0 : Int) < (k : Int)) = true → bgt1__law_parts_hold r2.2 f b T (qp r) (k : Int) (qp (C f b T r none)) ∧ bt1__law_parts_hold r2.2 f b T (qp r) (k : Int) (qp (C f b T r none)) = .nx () := fun hc => by
    have hc := of_decide_eq_true hc
    have t1 : Tr (T.drop k) := h2.sub (by rw [List.length_drop]; omega) (by rw [List.length_drop]; omega) fun x hx => List.mem_of_mem_drop hx
    have t2 : Tr (T.take k) := h2.sub (by rw [List.length_take]; omega) (by rw [List.length_take]; omega) fun x hx => List.mem_of_mem_take hx
    obtain ⟨p1, p2, p3⟩ := whole_ok h1 t1 h3 (y := none) (fun k e => by cases e)
    obtain ⟨q1, q2, q3⟩ := whole_ok h1 t2 h3 (y := none) (fun k e => by cases e)
    have e1 : cut T (some (k : Int)) none = T.drop k := cut_drop (by omega)
    have e2 : cut T none (some (k : Int)) = T.take k := cut_take (by omega)
    obtain ⟨l1, l2⟩ := lpow_ok (k := k) h3.z (by omega)
    have zp := (sz_pow h3.z k).mono (show _ ≤ 46 by omega)
    have m1 := lmul_ok p3 zp (by decide)
    have m2 := lplus_ok q3 (p3.mul zp) (by decide)
    have ec : wr r 1 (swi f b (T.take k) none) + wr r 1 (swi f b (T.drop k) none) * r ^ k = C f b T r none := by
      show wr r 1 (fcs f (T.take k)) + wr r 1 (fcs f (T.drop k)) * r ^ k = wr r 1 (fcs f T)
      have : fcs f T = fcs f (T.take k) ++ fcs f (T.drop k) := by
        unfold fcs
        rw [← List.map_append, List.take_append_drop]
      rw [this, wr_app, ← wr_mul, Rat.one_mul]
      have lt : (fcs f (T.take k)).length = k := by unfold fcs; rw [List.length_map, List.length_take]; omega
      rw [lt, Rat.one_mul]
    rw [ec] at m2
    have S1 := law_same_Q_ok (x := qp (C f b T r none)) rfl ((sq _ n3 (by decide)).shw (by decide) (by decide))
    unfold bgt1__law_parts_hold bt1__law_parts_hold
    simp only [e1, e2, p1, p2, q1, q2, l1, l2, m1.1, m1.2, m2.1, m2.2, S1.1, S1.2, Bool.not_true, Bool.false_eq_true, if_false, true_and, and_true, implies_true]
  have hb : (decide ((0 : Int) < (k : Int)) = true → bgt1__law_parts_hold r2.2 f b T (qp r) (k : Int) (qp (C f b T r none))) ∧ (if decide ((0 : Int) < (k : Int)) = true then bt1__law_parts_hold r2.2 f b T (qp r) (k : Int) (qp (C f b T r none)) else be1__law_parts_hold) = .nx () := by
    refine ⟨fun h => (cutp h).1, ?_⟩
    cases c : decide ((0 : Int) < (k : Int)) with
    | true => rw [if_pos rfl]; exact (cutp c).2
    | false => rw [if_neg Bool.false_ne_true]; rfl
  have hbe : bge1__law_parts_hold := by unfold bge1__law_parts_hold; trivial
  -- amounts times a number
  obtain ⟨m, em, m0, m1⟩ : ∃ m : Int, 2 + r16.1 = m ∧ 0 < m ∧ m ≤ 10 := ⟨_, rfl, by omega, by omega⟩
  rw [em]
  have mq : (0 : Rat) < (m : Rat) := Rat.intCast_pos.mpr m0
  have zm : Sz 4 (m : Rat) := .int (by show m.natAbs < 16; omega) (by decide)
  have hm := h0.m m0 m1
  have ef : fx2 ([f.1, f.2].map fun x18 => x18 * m) = fm f m := rfl
  have eb : fx3 ([b.1, b.2.1, b.2.2].map fun x19 => x19 * m) = bm b m := rfl
  have gf : cT cI ([f.1, f.2].map fun x18 => x18 * m) = c2 cI cI (fm f m) := rfl
  have gb : cT cI ([b.1, b.2.1, b.2.2].map fun x19 => x19 * m) = c3 cI cI cI (bm b m) := rfl
  have cmx : ∀ x : Int, CMul x m := fun x => .inr ⟨by omega, by omega⟩
  obtain ⟨j1, j2⟩ := judge_ok h1 h2 h3
  obtain ⟨j3, j4⟩ := judge_ok hm h2 h3
  rw [jw_m f b T r m0] at j4
  obtain ⟨y1, y2⟩ := best_ok h1 h2 h3
  obtain ⟨y3, y4⟩ := best_ok hm h2 h3
  obtain ⟨y, hy, ey, my⟩ := bmin_is (C f b T r) (yl_ne T)
  have es := bmin_scale (C := C f b T r) (C' := C (fm f m) (bm b m) T r) mq (yl T) none fun x _ => C_m f b T r m x
  rw [Option.map_none, ey] at es
  rw [ey] at y2
  rw [es] at y4
  have y5 : m_best_year (f, b, T, qp r, ()) = (qp (C f b T r y), y) := y2
  have y6 : m_best_year (fm f m, bm b m, T, qp r, ()) = (qp (C f b T r y * (m : Rat)), y) := y4
  have zC : Sz 640 (C f b T r y) := zwr h3.z (by rw [swi_len]; exact hl) fun v hv => abs18 (swi_bd h1 h2.t y v hv)
  have k1 := lmul_ok zC zm (by decide)
  have zD : Sz 640 (wr r 1 (dfs f b T)) := zwr h3.z (by unfold dfs; rw [List.length_map, List.length_range]; exact hl) (dfs_bd h1 h2)
  have k2 := lmul_ok zD zm (by decide)
  have yb : ∀ v, y = some v → -1000000000000000000 ≤ v ∧ v ≤ 1000000000000000000 := fun v e => by
    have := yl_ok y hy v e
    omega
  have swy : Sw (3809 + 4) 0 (cO cI y) := sw_O fun x e => (sw_I (yb x e)).mono (by decide) (by decide)
  have spY : Y.Sp 1 (cO cI y) := sp_O fun x e => (sp_int x).mono (by decide)
  have sw6 : Sw (2 * (3813 + 2) + 3) 2 (c2 (c2 cI cI) (cO cI) (qp (C f b T r y * (m : Rat)), y)) := sw_2 ((sq _ (zC.mul zm) (by decide)).mono (by decide) (by decide)) (swy.mono (by decide) (by decide))
  have sp6 : Y.Sp 2 (c2 (c2 cI cI) (cO cI) (qp (C f b T r y * (m : Rat)), y)) := sp_2 (sp_2 (sp_int _) (sp_int _)) spY
  obtain ⟨v1, v2⟩ := evens_ok h1
  obtain ⟨v3, v4⟩ := evens_ok hm
  obtain ⟨v5, v6⟩ := from_scale (f := f) (b := b) m0
  have v5' : m_from_zero (fm f m, bm b m, ()) = m_from_zero (f, b, ()) := v5
  have v6' : m_break_even (fm f m, bm b m, ()) = m_break_even (f, b, ()) := v6
  have hfz : ∀ v, ((m_from_zero (f, b, ())).1 = some v ∨ (m_from_zero (f, b, ())).2 = some v ∨ m_break_even (f, b, ()) = some v) → -1000000000000000000 ≤ v ∧ v ≤ 1000000000000000000 := by
    have fb : ∀ x y : Int, -4000 ≤ x → x ≤ 4000 → -4000 ≤ y → y ≤ 4000 → y ≠ 0 → -1000000 ≤ Int.fdiv x y ∧ Int.fdiv x y ≤ 1000000 := fun x y p1 p2 p3 p4 p5 => by
      have h1 := Int.mul_fdiv_add_fmod x y
      by_cases c : 0 < y
      · have h2 := Int.fmod_nonneg_of_pos x c
        have h3 := Int.fmod_lt_of_pos x c
        rw [Int.fdiv_eq_ediv_of_nonneg _ (by omega)]
        have h4 : x / y ≤ 4000 := by
          rcases Int.lt_or_le x 0 with q | q
          · have := Int.ediv_neg_of_neg_of_pos q c; omega
          · have := Int.ediv_le_self y q; omega
        have h5 : -4000 ≤ x / y := (Int.le_ediv_iff_mul_le c).mpr (by omega)
        omega
      · rw [← Int.neg_fdiv_neg, Int.fdiv_eq_ediv_of_nonneg _ (by omega)]
        have c' : 0 < -y := by omega
        have h4 : -x / -y ≤ 4000 := by
          rcases Int.lt_or_le (-x) 0 with q | q
          · have := Int.ediv_neg_of_neg_of_pos q c'; omega
          · have := Int.ediv_le_self (-y) q; omega
        have h5 : -4000 ≤ -x / -y := (Int.le_ediv_iff_mul_le c').mpr (by omega)
        omega
    obtain ⟨a1, a2, a3, a4, a5⟩ := h1
    intro v hv
    unfold m_from_zero o_from_zero m_break_even o_break_even at hv
    dsimp only at hv
    cases d1 : decide (b.2.1 - f.1 ≤ 0) with
    | true =>
      simp only [d1, if_true, ret_rt] at hv
      cases d2 : decide (f.2 - b.2.2 < 0) with
      | true =>
        have := fb (b.2.1 - f.1) (f.2 - b.2.2) (by omega) (by omega) (by omega) (by omega) (by have := of_decide_eq_true d2; omega)
        simp only [d2, if_true, Option.some.injEq] at hv
        omega
      | false =>
        simp only [d2, Bool.false_eq_true, if_false, Option.some.injEq, reduceCtorEq, false_or] at hv
        omega
    | false =>
      simp only [d1, Bool.false_eq_true, if_false, ret_rt] at hv
      cases d2 : decide (0 < f.2 - b.2.2) with
      | true =>
        have := fb (-(b.2.1 - f.1)) (f.2 - b.2.2) (by omega) (by omega) (by omega) (by omega) (by have := of_decide_eq_true d2; omega)
        simp only [d2, if_true, Option.some.injEq, reduceCtorEq, false_or] at hv
        omega
      | false =>
        simp only [d2, Bool.false_eq_true, if_false, reduceCtorEq, or_self] at hv
  have S9 := law_same_X_ok (x := [c2 (cO cI) (cO cI) (m_from_zero (f, b, ())), cO cI (m_break_even (f, b, ()))]) rfl (Sp.ok (k := 3) (sp_L fun x hx => by
    simp only [List.mem_cons, List.not_mem_nil, or_false] at hx
    rcases hx with rfl | rfl
    · exact (sp_2 (k := 0) (sp_O fun x _ => sp_int x) (sp_O fun x _ => sp_int x)).mono (by decide)
    · exact sp_O fun x _ => (sp_int x).mono (by decide))) ((sw_L (n := 2 * (205 + 2) + 3) (k := 1) 2 (by simp) fun x hx => by
    simp only [List.mem_cons, List.not_mem_nil, or_false] at hx
    rcases hx with rfl | rfl
    · exact sw_2 (sw_O fun x e => sw_I (hfz x (.inl e))) (sw_O fun x e => sw_I (hfz x (.inr (.inl e))))
    · exact (sw_O fun x e => sw_I (hfz x (.inr (.inr e)))).mono (by decide) (by decide)).shw (by decide) (by decide))
  have cr : CRg 0 70 := by unfold CRg; omega
  have emp : ((rng 0 70).filter fun x25 => !decide (decide (b.2.1 + x25 * b.2.2 ≤ f.1 + x25 * f.2) = m__law_within (x25, m_from_zero (f, b, ()), ()))).map (fun x25 => x25) = [] := by
    rw [List.map_eq_nil_iff, List.filter_eq_nil_iff]
    intro x hx
    rw [mem_rng] at hx
    rw [(within_ok x hx.1).2]
    simp
  have gwi : ∀ x ∈ rng 0 70, (CMul x f.2 ∧ CMul x b.2.2) ∧ g__law_within (x, m_from_zero (f, b, ()), ()) := fun x hx => by
    rw [mem_rng] at hx
    exact ⟨⟨cmsm _ (by omega) (by omega), cmsm _ (by omega) (by omega)⟩, (within_ok x hx.1).1⟩
  have jc : (∃ k : Nat, k < T.length ∧ jw f b T r = (PySem.Str.ofString "bridge", cI (k : Int)) ∧ m_judge_worth (fm f m, bm b m, T, qp r, ()) = (PySem.Str.ofString "bridge", cI (k : Int))) ∨ (jw f b T r = (PySem.Str.ofString "ferry", c2 cI cI (qp (wr r 1 (dfs f b T)))) ∧ m_judge_worth (fm f m, bm b m, T, qp r, ()) = (PySem.Str.ofString "ferry", c2 cI cI (qp (wr r 1 (dfs f b T) * (m : Rat))))) := by
    unfold jw
    cases e : (List.range T.length).find? (fun k => decide (wr r 1 ((dfs f b T).take (k + 1)) ≤ 0)) with
    | some k =>
      rw [e] at j4
      exact .inl ⟨k, List.mem_range.mp (List.mem_of_find?_eq_some e), rfl, j4⟩
    | none =>
      rw [e] at j4
      exact .inr ⟨rfl, j4⟩
  have L2 : [f.1, f.2].map (fun x18 => x18 * m) = [f.1 * m, f.2 * m] := rfl
  rcases jc with ⟨k, hk', J1, J2⟩ | ⟨J1, J2⟩
  · have S8 := law_same_X_ok (x := [c2 cS cD (PySem.Str.ofString "bridge", cI (k : Int)), c2 (c2 cI cI) (cO cI) (qp (C f b T r y * (m : Rat)), y)]) rfl (Sp.ok (k := 3) (sp_L fun x hx => by
      simp only [List.mem_cons, List.not_mem_nil, or_false] at hx
      rcases hx with rfl | rfl
      · exact (sp_2 spb (sp_int _)).mono (by decide)
      · exact sp6)) ((sw_L (n := 2 * (3813 + 2) + 3) (k := 2) 2 (by simp) fun x hx => by
      simp only [List.mem_cons, List.not_mem_nil, or_false] at hx
      rcases hx with rfl | rfl
      · exact (sw_2 swb ((sw_I (by omega)).mono (by decide) (by decide))).mono (by decide) (by decide)
      · exact sw6).shw (by decide) (by decide))
    simp only [nx_all, nx_bind, hb.1, hb.2, hbe, a1, b1, n1, n4, ef, eb, gf, gb, cmx, j1, j2, j3, J1, J2, y1, y3, y5, y6, qp_int, k1.1, k1.2, k2.1, k2.2, S8.1, S8.2, v1, v2, v3, v4, v5', v6', S9.1, S9.2, cr, emp, true_and, and_true, implies_true, true_implies, false_implies, if_true, if_false, decide_true, Bool.true_eq_false, Bool.false_eq_true, Bool.not_true, Bool.not_false, List.isEmpty_nil, ret_rt]
    exact ⟨⟨fun h => hb.1 h, fun _ => gwi⟩, b4⟩
  · have S8 := law_same_X_ok (x := [c2 cS cD (PySem.Str.ofString "ferry", c2 cI cI (qp (wr r 1 (dfs f b T) * (m : Rat)))), c2 (c2 cI cI) (cO cI) (qp (C f b T r y * (m : Rat)), y)]) rfl (Sp.ok (k := 3) (sp_L fun x hx => by
      simp only [List.mem_cons, List.not_mem_nil, or_false] at hx
      rcases hx with rfl | rfl
      · exact sp_2 (spf.mono (by decide)) (sp_2 (sp_int _) (sp_int _))
      · exact sp6)) ((sw_L (n := 2 * (3813 + 2) + 3) (k := 2) 2 (by simp) fun x hx => by
      simp only [List.mem_cons, List.not_mem_nil, or_false] at hx
      rcases hx with rfl | rfl
      · exact (sw_2 swf (sq _ (zD.mul zm) (by decide))).mono (by decide) (by decide)
      · exact sw6).shw (by decide) (by decide))
    have eas : as2 asI asI (c2 cI cI (qp (wr r 1 (dfs f b T)))) = qp (wr r 1 (dfs f b T)) := rfl
    simp only [nx_all, nx_bind, hb.1, hb.2, hbe, a1, b1, n1, n4, ef, eb, gf, gb, cmx, j1, j2, j3, J1, J2, y1, y3, y5, y6, qp_int, k1.1, k1.2, k2.1, k2.2, S8.1, S8.2, v1, v2, v3, v4, v5', v6', S9.1, S9.2, cr, emp, true_and, and_true, implies_true, true_implies, false_implies, if_true, if_false, decide_true, Bool.true_eq_false, Bool.false_eq_true, Bool.not_true, Bool.not_false, List.isEmpty_nil, ret_rt, eas, sfb]
    exact ⟨⟨fun h => hb.1 h, fun _ => gwi⟩, b4⟩

theorem exists_map {α β : Type} {f : β → α} {R : β → Prop} : ∀ xs : List α, (∀ y ∈ xs, ∃ b, y = f b ∧ R b) → ∃ bs : List β, xs = bs.map f ∧ ∀ b ∈ bs, R b
  | [], _ => ⟨[], rfl, by simp⟩
  | x :: xs, h => by
    obtain ⟨b, e, r⟩ := h x List.mem_cons_self
    obtain ⟨bs, e2, r2⟩ := exists_map xs fun y hy => h y (List.mem_cons_of_mem _ hy)
    exact ⟨b :: bs, by rw [List.map_cons, e, e2], fun c hc => by
      rcases List.mem_cons.mp hc with rfl | hc
      · exact r
      · exact r2 c hc⟩
def PQ (x : Int × Int) : Prop := ∃ z : Rat, x = qp z ∧ Sz 6 z
theorem pay_ok {t : St4} (w : Wf t) : cg2__law_debts_hold t 0 ∧ PQ (c2__law_debts_hold t 0).1 ∧ Wf (c2__law_debts_hold t 0).2 := by
  obtain ⟨a1, a2, a3, a4⟩ := draw_ok (m := 50) w (by decide) (by decide)
  unfold cg2__law_debts_hold c2__law_debts_hold
  dsimp only
  generalize m__law_draw ((50, ()), t) = d1 at a1 a2 a3 a4 ⊢
  obtain ⟨b1, b2, b3, b4⟩ := draw_ok (m := 3) a4 (by decide) (by decide)
  generalize m__law_draw ((3, ()), d1.2) = d2 at b1 b2 b3 b4 ⊢
  obtain ⟨e1, e2⟩ := low_ok (a := d1.1) (b := 1 + d2.1) (k := 2) (by omega) (by show (1 + d2.1).natAbs < 4; omega) (by decide)
  simp only [a1, b1, e1, true_and, and_true]
  exact ⟨⟨_, e2, .mk (by show d1.1.natAbs < 64; omega) (by show (1 + d2.1).natAbs < 64; omega) (by omega)⟩, b4⟩
theorem grows_at {q : Int × Int} {x : Int} {n k : Nat} (h : k < n) : ixD ((List.range n).map fun k => grw q.1 q.2 x k) (k : Int) = grw q.1 q.2 x k ∧ CIx ((List.range n).map fun k => grw q.1 q.2 x k) (k : Int) := ⟨ixD_of (by rw [List.getElem?_map, List.getElem?_range h]; rfl), cix_of (by omega) (by rw [List.length_map, List.length_range]; omega)⟩
theorem owes_at {r s : Rat} {ps : List Rat} {n k : Nat} (h : k ≤ n) : ixD (owes r s ps n) (k : Int) = qp (owe r s ps k) ∧ CIx (owes r s ps n) (k : Int) := ⟨ixD_of (by unfold owes; rw [List.getElem?_map, List.getElem?_range (by omega)]; rfl), cix_of (by omega) (by unfold owes; rw [List.length_map, List.length_range]; omega)⟩
theorem two_pow8 {k : Nat} (h : k ≤ 8) : ((2 : Int) ^ k) ≤ 2 ^ 8 := by
  have : k = 0 ∨ k = 1 ∨ k = 2 ∨ k = 3 ∨ k = 4 ∨ k = 5 ∨ k = 6 ∨ k = 7 ∨ k = 8 := by omega
  rcases this with rfl | rfl | rfl | rfl | rfl | rfl | rfl | rfl | rfl <;> decide
theorem debts_hold_ok {r : Rat} {t : St4} (h3 : Ra r) (w : Wf t) : g__law_debts_hold ((qp r, ()), t) ∧ (m__law_debts_hold ((qp r, ()), t)).1 = true ∧ Wf (m__law_debts_hold ((qp r, ()), t)).2 := by
  have sq : ∀ {k : Nat} z, Sz k z → k ≤ 1800 → Sw 3809 1 (c2 cI cI (qp z)) := fun r z hk => sw_qp z hk
  obtain ⟨a1, a2, a3, a4⟩ := draw_ok (m := 8) w (by decide) (by decide)
  unfold g__law_debts_hold m__law_debts_hold o__law_debts_hold
  dsimp only
  generalize m__law_draw ((8, ()), t) = r1 at a1 a2 a3 a4 ⊢
  obtain ⟨n, hn, n0, n1⟩ : ∃ n : Nat, 1 + r1.1 = (n : Int) ∧ 1 ≤ n ∧ n ≤ 8 := by
    obtain ⟨n, e⟩ := Int.eq_ofNat_of_zero_le (show 0 ≤ 1 + r1.1 by omega)
    exact ⟨n, e, by omega, by omega⟩
  rw [hn]
  have crn : CRg 0 (n : Int) := by unfold CRg; omega
  have cr2 : CRg 0 2 := by unfold CRg; omega
  have crn1 : CRg 0 ((n : Int) + 1) := by unfold CRg; omega
  -- rows of payments
  obtain ⟨d1, d2, d3, d4⟩ := lcS_inv (g := cg3__law_debts_hold (n : Int)) (f := c3__law_debts_hold (n : Int)) Wf (fun row => ∃ ps : List Rat, row = ps.map qp ∧ ps.length = n ∧ ∀ p ∈ ps, Sz 6 p) (rng 0 2) r1.2 a4 fun s x hs _ => by
    obtain ⟨e1, e2, e3, e4⟩ := lcS_inv (g := cg2__law_debts_hold) (f := c2__law_debts_hold) Wf PQ (rng 0 (n : Int)) s hs fun s x hs _ => pay_ok hs
    unfold cg3__law_debts_hold c3__law_debts_hold
    dsimp only
    simp only [e1, crn, true_and, and_true]
    obtain ⟨ps, f1, f2⟩ := exists_map (f := qp) (R := Sz 6) _ e2
    rw [rng_length, f1, List.length_map] at e4
    exact ⟨⟨ps, f1, by omega, f2⟩, e3⟩
  generalize lcS (c3__law_debts_hold (n : Int)) r1.2 (rng 0 2) = r19 at d2 d3 d4 ⊢
  have l2 : r19.1.length = 2 := d4
  obtain ⟨row0, row1, hr19⟩ : ∃ x y, r19.1 = [x, y] := by
    match h : r19.1, l2 with
    | [x, y], _ => exact ⟨x, y, rfl⟩
  rw [hr19] at d2
  obtain ⟨p0, rfl, lp0, zp0⟩ := d2 row0 (by simp)
  obtain ⟨p1, rfl, lp1, zp1⟩ := d2 row1 (by simp)
  rw [hr19]
  obtain ⟨b1, b2, b3, b4⟩ := draw_ok (m := 500) d3 (by decide) (by decide)
  generalize m__law_draw ((500, ()), r19.2) = r21 at b1 b2 b3 b4 ⊢
  obtain ⟨e1, e2, e3, e4⟩ := draw_ok (m := 500) b4 (by decide) (by decide)
  generalize m__law_draw ((500, ()), r21.2) = r22 at e1 e2 e3 e4 ⊢
  have i0 : ixD [p0.map qp, p1.map qp] 0 = p0.map qp := ixD_zero
  have i1 : ixD [p0.map qp, p1.map qp] 1 = p1.map qp := ixD_of (k := 1) rfl
  have j0 : ixD [r21.1, r22.1] 0 = r21.1 := ixD_zero
  have j1 : ixD [r21.1, r22.1] 1 = r22.1 := ixD_of (k := 1) rfl
  have ci0 : CIx [p0.map qp, p1.map qp] 0 := ⟨by simp, by simp⟩
  have ci1 : CIx [p0.map qp, p1.map qp] 1 := ⟨by simp, by simp⟩
  have cj0 : CIx [r21.1, r22.1] 0 := ⟨by simp, by simp⟩
  have cj1 : CIx [r21.1, r22.1] 1 := ⟨by simp, by simp⟩
  have esum : [r21.1, r22.1].sum = r21.1 + r22.1 := by simp
  -- the sum of both
  obtain ⟨l, el0, el1⟩ : ∃ l : List (Rat × Rat), l.map (fun q => q.1) = p0 ∧ l.map (fun q => q.2) = p1 := ⟨p0.zip p1, List.map_fst_zip (by omega), List.map_snd_zip (by omega)⟩
  have ll : l.length = n := by rw [← lp0, ← el0, List.length_map]
  have pg : ∀ {ps : List Rat} {k : Nat} (h : k < ps.length), ixD (ps.map qp) (k : Int) = qp ps[k] ∧ CIx (ps.map qp) (k : Int) := fun {ps k} h => ⟨ixD_of (by rw [List.getElem?_map, List.getElem?_eq_getElem h]; rfl), cix_of (by omega) (by rw [List.length_map]; omega)⟩
  have gl0 : ∀ x24 ∈ rng 0 (n : Int), (CIx (p0.map qp) x24 ∧ CIx (p1.map qp) x24) ∧ g__law_plus (ixD (p0.map qp) x24, ixD (p1.map qp) x24, ()) := fun x hx => by
    rw [mem_rng] at hx
    obtain ⟨k, rfl⟩ := Int.eq_ofNat_of_zero_le hx.1
    obtain ⟨u1, u2⟩ := pg (ps := p0) (k := k) (by omega)
    obtain ⟨u3, u4⟩ := pg (ps := p1) (k := k) (by omega)
    rw [u1, u3]
    exact ⟨⟨u2, u4⟩, (lplus_ok (zp0 _ (List.getElem_mem (by omega))) (zp1 _ (List.getElem_mem (by omega))) (by decide)).1⟩
  have ebo : (rng 0 (n : Int)).map (fun x24 => m__law_plus (ixD (p0.map qp) x24, ixD (p1.map qp) x24, ())) = (l.map fun q => q.1 + q.2).map qp := by
    rw [rng_eq, List.map_map]
    refine List.ext_getElem? fun k => ?_
    by_cases hk : k < n
    · rw [List.getElem?_map, List.getElem?_range hk, List.getElem?_map, List.getElem?_map, List.getElem?_eq_getElem (by omega)]
      obtain ⟨u1, u2⟩ := pg (ps := p0) (k := k) (by omega)
      obtain ⟨u3, u4⟩ := pg (ps := p1) (k := k) (by omega)
      show some (m__law_plus (ixD (p0.map qp) (k : Int), ixD (p1.map qp) (k : Int), ())) = some (qp (l[k].1 + l[k].2))
      rw [u1, u3, (lplus_ok (zp0 _ (List.getElem_mem (by omega))) (zp1 _ (List.getElem_mem (by omega))) (by decide)).2]
      have v1 : p0[k]'(by omega) = l[k].1 := by
        have : p0[k]? = (l.map (fun q => q.1))[k]? := by rw [el0]
        rw [List.getElem?_map, List.getElem?_eq_getElem (by omega), List.getElem?_eq_getElem (by omega)] at this
        exact Option.some.inj this
      have v2 : p1[k]'(by omega) = l[k].2 := by
        have : p1[k]? = (l.map (fun q => q.2))[k]? := by rw [el1]
        rw [List.getElem?_map, List.getElem?_eq_getElem (by omega), List.getElem?_eq_getElem (by omega)] at this
        exact Option.some.inj this
      rw [v1, v2]
    · rw [List.getElem?_eq_none (by rw [List.length_map, List.length_range]; omega), List.getElem?_eq_none (by rw [List.length_map, List.length_map]; omega)]
  have zl : ∀ p ∈ l.map (fun q => q.1 + q.2), Sz 13 p := fun p hp => by
    obtain ⟨q, hq, rfl⟩ := List.mem_map.mp hp
    have h1 : q.1 ∈ p0 := by rw [← el0]; exact List.mem_map_of_mem (f := fun q : Rat × Rat => q.1) hq
    have h2 : q.2 ∈ p1 := by rw [← el1]; exact List.mem_map_of_mem (f := fun q : Rat × Rat => q.2) hq
    exact (zp0 _ h1).add (zp1 _ h2)
  obtain ⟨x1, x2, x3⟩ := debts_ok (s := r21.1 + r22.1) (by omega) (by omega) h3 (by rw [List.length_map]; omega) (by rw [List.length_map]; omega) zl (by decide)
  obtain ⟨y1, y2, y3⟩ := debts_ok (s := r21.1) (ps := p0) b2 (by omega) h3 (by omega) (by omega) zp0 (by decide)
  obtain ⟨z1, z2, z3⟩ := debts_ok (s := r22.1) (ps := p1) e2 (by omega) h3 (by omega) (by omega) zp1 (by decide)
  rw [List.length_map, ll] at x2 x3
  rw [lp0] at y2 y3
  rw [lp1] at z2 z3
  have eoa : ∀ k, owe r ((r21.1 + r22.1 : Int) : Rat) (l.map fun q => q.1 + q.2) k = owe r (r21.1 : Rat) p0 k + owe r (r22.1 : Rat) p1 k := fun k => by
    rw [Rat.intCast_add, owe_add, el0, el1]
  have gl1 : ∀ x27 ∈ rng 0 ((n : Int) + 1), (CIx (owes r r21.1 p0 n) x27 ∧ CIx (owes r r22.1 p1 n) x27) ∧ g__law_plus (ixD (owes r r21.1 p0 n) x27, ixD (owes r r22.1 p1 n) x27, ()) := fun x hx => by
    rw [mem_rng] at hx
    obtain ⟨k, rfl⟩ := Int.eq_ofNat_of_zero_le hx.1
    obtain ⟨u1, u2⟩ := owes_at (r := r) (s := r21.1) (ps := p0) (n := n) (k := k) (by omega)
    obtain ⟨u3, u4⟩ := owes_at (r := r) (s := r22.1) (ps := p1) (n := n) (k := k) (by omega)
    rw [u1, u3]
    exact ⟨⟨u2, u4⟩, (lplus_ok (y3 k (by omega)) (z3 k (by omega)) (by decide)).1⟩
  have eso : (rng 0 ((n : Int) + 1)).map (fun x27 => m__law_plus (ixD (owes r r21.1 p0 n) x27, ixD (owes r r22.1 p1 n) x27, ())) = owes r ((r21.1 + r22.1 : Int) : Rat) (l.map fun q => q.1 + q.2) n := by
    have e1 : (n : Int) + 1 = ((n + 1 : Nat) : Int) := by omega
    rw [e1, rng_eq, List.map_map]
    unfold owes
    refine List.map_congr_left fun k hk => ?_
    rw [List.mem_range] at hk
    obtain ⟨u1, u2⟩ := owes_at (r := r) (s := r21.1) (ps := p0) (n := n) (k := k) (by omega)
    obtain ⟨u3, u4⟩ := owes_at (r := r) (s := r22.1) (ps := p1) (n := n) (k := k) (by omega)
    unfold owes at u1 u3
    show m__law_plus (ixD ((List.range (n + 1)).map fun j => qp (owe r r21.1 p0 j)) (k : Int), ixD ((List.range (n + 1)).map fun j => qp (owe r r22.1 p1 j)) (k : Int), ()) = qp (owe r ((r21.1 + r22.1 : Int) : Rat) (l.map fun q => q.1 + q.2) k)
    rw [u1, u3, (lplus_ok (y3 k (by omega)) (z3 k (by omega)) (by decide)).2, eoa]
  have S1 := law_same_TQ_ok (x := owes r ((r21.1 + r22.1 : Int) : Rat) (l.map fun q => q.1 + q.2) n) rfl ((sw_T (n := 3809) (k := 1) 9 (by unfold owes; rw [List.length_map, List.length_range]; omega) fun x hx => by
    obtain ⟨k, hk, rfl⟩ := List.mem_map.mp hx
    rw [List.mem_range] at hk
    exact sq _ (x3 k (by omega)) (by decide)).shw (by decide) (by decide))
  -- even payments
  obtain ⟨v1, v2, v3⟩ := even_ok (s := r21.1) b2 (by omega) h3 n0 n1
  have erp : repI [qp ((r21.1 : Rat) / psum r n)] (n : Int) = (List.replicate n ((r21.1 : Rat) / psum r n)).map qp := by
    unfold repI
    rw [Int.toNat_natCast, List.map_replicate]
    simp
  obtain ⟨w1, w2, w3⟩ := debts_ok (s := r21.1) (ps := List.replicate n ((r21.1 : Rat) / psum r n)) b2 (by omega) h3 (by rw [List.length_replicate]; omega) (by rw [List.length_replicate]; omega) (fun p hp => by rw [List.eq_of_mem_replicate hp]; exact v3) (by decide)
  rw [List.length_replicate] at w2
  have wl : ixD (owes r (r21.1 : Rat) (List.replicate n ((r21.1 : Rat) / psum r n)) n) (-1) = qp 0 := by
    refine ixD_getLast ?_
    unfold owes
    rw [List.range_succ, List.map_append, List.map_singleton, List.getLast?_append, owe_even r r21.1 h3.p (by omega)]
    rfl
  have wc' : CIx (owes r (r21.1 : Rat) (List.replicate n ((r21.1 : Rat) / psum r n)) n) (-1) := by
    unfold CIx owes
    rw [List.length_map, List.length_range]
    omega
  have eq0 : PyData.eqv (c2 cI cI (qp 0)) (c2 cI cI ((0 : Int), (1 : Int))) = true := eqv_T (cq_2 cq_I cq_I) _
  have rl : -1000000 ≤ (n : Int) ∧ (n : Int) ≤ 1000 ∧ 0 + 1 ≤ 1000 := by omega
  -- traffic that grows
  obtain ⟨o1, o2, o3⟩ := law_pick_Q_ok (xs := [((11 : Int), (10 : Int)), (9, 10), (3, 2), (1, 1), (2, 1), (1, 2), (7, 5)]) e4 (by simp) (by simp)
  generalize m__law_pick_Q (([((11 : Int), (10 : Int)), (9, 10), (3, 2), (1, 1), (2, 1), (1, 2), (7, 5)], ()), r22.2) = r29 at o1 o2 o3 ⊢
  have gr : Gr r29.1 := ⟨o2⟩
  obtain ⟨f1, f2, f3, f4⟩ := draw_ok (m := 500) o3 (by decide) (by decide)
  generalize m__law_draw ((500, ()), r29.2) = r30 at f1 f2 f3 f4 ⊢
  obtain ⟨h1, h2, h3', h4⟩ := draw_ok (m := (n : Int)) f4 (by omega) (by omega)
  generalize m__law_draw (((n : Int), ()), r30.2) = r33 at h1 h2 h3' h4 ⊢
  obtain ⟨k, hk⟩ := Int.eq_ofNat_of_zero_le h2
  rw [hk]
  obtain ⟨gg1, gg2⟩ := grown_ok (q := r29.1) (x := r30.1) (n := n) gr f2 (by omega) n0 (by omega)
  obtain ⟨ga1, ga2⟩ := grows_at (q := r29.1) (x := r30.1) (n := n) (k := 0) (by omega)
  obtain ⟨gk1, gk2⟩ := grows_at (q := r29.1) (x := r30.1) (n := n) (k := k) (by omega)
  have gb0 := grw_bd gr f2 k
  have pw : r30.1 * 2 ^ k ≤ 499 * 256 := by
    have hp : ((2 : Int) ^ k) ≤ 2 ^ 8 := two_pow8 (by omega)
    have hp0 : (0 : Int) ≤ 2 ^ k := Int.pow_nonneg (by decide)
    exact Int.mul_le_mul (by omega) hp hp0 (by decide)
  have ek : (n : Int) - (k : Int) = ((n - k : Nat) : Int) := by omega
  obtain ⟨gm1, gm2⟩ := grown_ok (q := r29.1) (x := grw r29.1.1 r29.1.2 r30.1 k) (n := n - k) gr gb0.1 (by omega) (by omega) (by omega)
  have ec : cut ((List.range n).map fun k => grw r29.1.1 r29.1.2 r30.1 k) (some (k : Int)) none = (List.range (n - k)).map fun j => grw r29.1.1 r29.1.2 (grw r29.1.1 r29.1.2 r30.1 k) j := by
    rw [cut_drop (by omega), Int.toNat_natCast]
    refine List.ext_getElem? fun j => ?_
    rw [List.getElem?_drop, List.getElem?_map, List.getElem?_map]
    by_cases hj : j < n - k
    · rw [List.getElem?_range (by omega), List.getElem?_range hj]
      show some (grw _ _ _ (k + j)) = some (grw _ _ (grw _ _ _ k) j)
      rw [grw_add]
    · rw [List.getElem?_eq_none (by rw [List.length_range]; omega), List.getElem?_eq_none (by rw [List.length_range]; omega)]
      rfl
  have S2 := law_same_TI_ok (x := (List.range (n - k)).map fun j => grw r29.1.1 r29.1.2 (grw r29.1.1 r29.1.2 r30.1 k) j) rfl ((sw_T (n := 201) (k := 0) 9 (by rw [List.length_map, List.length_range]; omega) fun x hx => by
    obtain ⟨j, hj, rfl⟩ := List.mem_map.mp hx
    rw [List.mem_range] at hj
    have b := grw_bd gr gb0.1 j
    have hp : ((2 : Int) ^ j) ≤ 2 ^ 8 := two_pow8 (by omega)
    have hp0 : (0 : Int) ≤ 2 ^ j := Int.pow_nonneg (by decide)
    have : grw r29.1.1 r29.1.2 r30.1 k * 2 ^ j ≤ (499 * 256) * 2 ^ 8 := Int.mul_le_mul (by omega) hp hp0 (by decide)
    exact sw_I (by omega)).shw (by decide) (by decide))
  have ga1' : ixD ((List.range n).map fun k => grw r29.1.1 r29.1.2 r30.1 k) 0 = r30.1 := ga1
  have ga2' : CIx ((List.range n).map fun k => grw r29.1.1 r29.1.2 r30.1 k) 0 := ga2
  simp only [a1, crn, cr2, crn1, d1, b1, e1, i0, i1, j0, j1, ci0, ci1, cj0, cj1, esum, ebo, x1, x2, y1, y2, z1, z2, eso, S1.1, S1.2, v1, v2, erp, w1, w2, wl, wc', eq0, o1, f1, gg1, gg2, h1, ga1', ga2', gk1, gk2, ek, gm1, gm2, ec, S2.1, S2.2, List.length_cons, List.length_nil, true_and, and_true, implies_true, true_implies, false_implies, if_true, if_false, decide_true, Bool.true_eq_false, Bool.false_eq_true, Bool.not_true, Bool.not_false, Bool.and_self, ret_rt]
  exact ⟨⟨gl0, gl1, rl⟩, h4⟩
theorem case_ok {t : St4} (w : Wf t) : g__law_case ((), t) ∧ (∃ f b T r, (m__law_case ((), t)).1 = (f, b, T, qp r) ∧ Am0 f b ∧ Tr T ∧ Ra r) ∧ Wf (m__law_case ((), t)).2 := by
  obtain ⟨a1, a2, a3, a4⟩ := draw_ok (m := 50) w (by decide) (by decide)
  unfold g__law_case m__law_case o__law_case
  dsimp only
  generalize m__law_draw ((50, ()), t) = r1 at a1 a2 a3 a4 ⊢
  obtain ⟨b1, b2, b3, b4⟩ := draw_ok (m := 9) a4 (by decide) (by decide)
  generalize m__law_draw ((9, ()), r1.2) = r2 at b1 b2 b3 b4 ⊢
  obtain ⟨d1, d2, d3⟩ := law_pick_LI_ok (xs := [(20 : Int), 400]) b4 (by simp) (by simp)
  generalize m__law_pick_LI (([(20 : Int), 400], ()), r2.2) = r4 at d1 d2 d3 ⊢
  have hp : r4.1 = 20 ∨ r4.1 = 400 := by simpa using d2
  obtain ⟨e1, e2, e3, e4⟩ := draw_ok (m := r4.1) d3 (by omega) (by omega)
  generalize m__law_draw ((r4.1, ()), r4.2) = r5 at e1 e2 e3 e4 ⊢
  obtain ⟨f1, f2, f3, f4⟩ := draw_ok (m := 40) e4 (by decide) (by decide)
  generalize m__law_draw ((40, ()), r5.2) = r6 at f1 f2 f3 f4 ⊢
  obtain ⟨g1, g2, g3, g4⟩ := draw_ok (m := 6) f4 (by decide) (by decide)
  generalize m__law_draw ((6, ()), r6.2) = r7 at g1 g2 g3 g4 ⊢
  have cr2 : CRg 0 2 := by unfold CRg; omega
  obtain ⟨h1, h2, h3, h4⟩ := lcS_inv (g := cg1__law_case) (f := c1__law_case) Wf (fun x => 0 ≤ x ∧ x ≤ 59) (rng 0 2) r7.2 g4 fun s x hs _ => by
    obtain ⟨p1, p2, p3, p4⟩ := draw_ok (m := 60) hs (by decide) (by decide)
    unfold cg1__law_case c1__law_case
    dsimp only
    simp only [p1, true_and, and_true]
    exact ⟨by omega, p4⟩
  generalize lcS c1__law_case r7.2 (rng 0 2) = r13 at h1 h2 h3 h4 ⊢
  have l2 : r13.1.length = 2 := h4
  have ne : r13.1 ≠ [] := fun e => by rw [e] at h4; cases h4
  obtain ⟨i1, i2, i3, i4⟩ := draw_ok (m := 9) h3 (by decide) (by decide)
  generalize m__law_draw ((9, ()), r13.2) = r15 at i1 i2 i3 i4 ⊢
  have cr : CRg 0 (1 + r15.1) := by unfold CRg; omega
  obtain ⟨j1, j2, j3, j4⟩ := lcS_inv (g := cg2__law_case r13.1) (f := c2__law_case r13.1) Wf (fun x => 0 ≤ x ∧ x ≤ 59) (rng 0 (1 + r15.1)) r15.2 i4 fun s x hs _ => by
    obtain ⟨q1, q2, q3, q4⟩ := draw_ok (m := 2) hs (by decide) (by decide)
    unfold cg2__law_case c2__law_case
    dsimp only
    generalize m__law_draw ((2, ()), s) = r18 at q1 q2 q3 q4 ⊢
    cases k : decide (r18.1 = (0 : Int)) with
    | true =>
      obtain ⟨p1, p2, p3⟩ := law_pick_LI_ok q4 ne (by omega)
      simp only [q1, p1, true_and, and_true, implies_true, true_implies, Bool.true_eq_false, false_implies, if_true]
      exact ⟨h2 _ p2, p3⟩
    | false =>
      obtain ⟨p1, p2, p3, p4⟩ := draw_ok (m := 60) q4 (by decide) (by decide)
      simp only [q1, p1, true_and, and_true, implies_true, true_implies, Bool.false_eq_true, false_implies, if_false]
      exact ⟨by omega, p4⟩
  generalize lcS (c2__law_case r13.1) r15.2 (rng 0 (1 + r15.1)) = r28 at j1 j2 j3 j4 ⊢
  rw [rng_length] at j4
  obtain ⟨k1, k2, k3⟩ := law_pick_Q_ok (xs := [((1 : Int), (1 : Int)), (1, 2), (9, 10), (1, 3), (19, 20)]) j3 (by simp) (by simp)
  generalize m__law_pick_Q (([((1 : Int), (1 : Int)), (1, 2), (9, 10), (1, 3), (19, 20)], ()), r28.2) = r30 at k1 k2 k3 ⊢
  obtain ⟨r, er, hr⟩ : ∃ r, r30.1 = qp r ∧ Ra r := by
    have mkR : ∀ r : Rat, 0 < r → r ≤ 1 → r.num.natAbs < 32 → r.den < 32 → Ra r := fun r p q a b => ⟨p, q, ⟨a, b⟩⟩
    simp only [List.mem_cons, List.not_mem_nil, or_false] at k2
    rcases k2 with h | h | h | h | h
    · exact ⟨1, h, mkR _ (by decide) (by decide) (by decide) (by decide)⟩
    · exact ⟨mkRat 1 2, h, mkR _ (by decide +kernel) (by decide +kernel) (by decide +kernel) (by decide +kernel)⟩
    · exact ⟨mkRat 9 10, h, mkR _ (by decide +kernel) (by decide +kernel) (by decide +kernel) (by decide +kernel)⟩
    · exact ⟨mkRat 1 3, h, mkR _ (by decide +kernel) (by decide +kernel) (by decide +kernel) (by decide +kernel)⟩
    · exact ⟨mkRat 19 20, h, mkR _ (by decide +kernel) (by decide +kernel) (by decide +kernel) (by decide +kernel)⟩
  simp only [a1, b1, d1, e1, f1, g1, h1, i1, j1, k1, cr, cr2, true_and, and_true, ret_rt]
  exact ⟨⟨(r1.1, r2.1), (r5.1, r6.1, r7.1), r28.1, r, by rw [er], ⟨⟨by show 0 ≤ r1.1; omega, by show r1.1 ≤ 49; omega⟩, ⟨by show 0 ≤ r2.1; omega, by show r2.1 ≤ 8; omega⟩, ⟨by show 0 ≤ r5.1; omega, by show r5.1 ≤ 399; omega⟩, ⟨by show 0 ≤ r6.1; omega, by show r6.1 ≤ 39; omega⟩, ⟨by show 0 ≤ r7.1; omega, by show r7.1 ≤ 5; omega⟩⟩, ⟨by omega, by omega, j2⟩, hr⟩, k3⟩
theorem turn_ok {t : St4} (w : Wf t) (x : Int) : kg1_law (t, x) ∧ ∃ t', k1_law (t, x) = .nx t' ∧ Wf t' := by
  obtain ⟨a1, ⟨f, b, T, r, a2, a3, a4, a5⟩, a6⟩ := case_ok w
  unfold kg1_law k1_law
  dsimp only
  generalize m__law_case ((), t) = r3 at a1 a2 a6 ⊢
  rw [a2]
  obtain ⟨b1, b2⟩ := savings_ok a3.ok a4 a5
  obtain ⟨d1, d2, d3⟩ := parts_ok a3 a4 a5 a6
  generalize m__law_parts_hold (((f, b, T, qp r), ()), r3.2) = r5 at d1 d2 d3 ⊢
  obtain ⟨e1, e2, e3⟩ := debts_hold_ok a5 d3
  generalize m__law_debts_hold ((qp r, ()), r5.2) = r6 at e1 e2 e3 ⊢
  simp only [a1, b1, b2, d1, d2, e1, e2, true_and, and_true, implies_true, true_implies, Bool.not_true, Bool.or_self, Bool.false_eq_true, if_false]
  exact ⟨_, rfl, e3⟩
theorem law_ok : ∀ t, Wf t → g_law t ∧ o_law t = .rt true := by
  intro t w
  have cr : CRg 0 4 := by unfold CRg; omega
  unfold g_law o_law
  simp only [cr, true_and, and_true, implies_true]
  exact ⟨forG_use Wf w fun t x ht _ => turn_ok ht x, forO_use Wf (Z := fun o : Out St4 Bool Empty => Out.bind o _ = Out.rt true) w (fun t x ht _ => (turn_ok ht x).2) fun t' _ => rfl⟩
end Z
namespace Z
open PySem PySem.Spec PyProof.Rows L2 Y
theorem all_mk {l : PySem.W.OpenLaw} {w : World} {K : Y.Frag} {h : Heap} {mg : Str → Option Value} {fa : Addr} (X : K.In h) (G : h.Ns mainGlobals mg) (hfa : mg "law" = some (.ref fa)) {f5 f9 f10 f11 f12 f13 f14 f15 f16 f17 f18 f19 f21 f22 f23 f24 f25 f26 f27 f28 f29 f30 f31 f32 f33 f34 f35 f36 f37 f38 f39 f40 f41 f43 f44 f45 f46 f47 f48 f49 f50 f51 f52 f53 f54 f55 f56 : Addr} {od5 an5 od9 an9 od10 an10 od11 an11 od12 an12 od13 an13 od14 an14 od15 an15 od16 an16 od17 an17 od18 an18 od19 an19 od21 an21 od22 an22 od23 an23 od24 an24 od25 an25 od26 an26 od27 an27 od28 an28 od29 an29 od30 an30 od31 an31 od32 an32 od33 an33 od34 an34 od35 an35 od36 an36 od37 an37 od38 an38 od39 an39 od40 an40 od41 an41 od43 an43 od44 an44 od45 an45 od46 an46 od47 an47 od48 an48 od49 an49 od50 an50 od51 an51 od52 an52 od53 an53 od54 an54 od55 an55 od56 an56 : Option Addr} {sl5 sl9 sl10 sl11 sl12 sl13 sl14 sl15 sl16 sl17 sl18 sl19 sl21 sl22 sl23 sl24 sl25 sl26 sl27 sl28 sl29 sl30 sl31 sl32 sl33 sl34 sl35 sl36 sl37 sl38 sl39 sl40 sl41 sl43 sl44 sl45 sl46 sl47 sl48 sl49 sl50 sl51 sl52 sl53 sl54 sl55 sl56 : Array (Option Value)} {oc5 kV5 dc5 pm5 cd5 ct5 oc9 kV9 dc9 pm9 cd9 ct9 oc10 kV10 dc10 pm10 cd10 ct10 oc11 kV11 dc11 pm11 cd11 ct11 oc12 kV12 dc12 pm12 cd12 ct12 oc13 kV13 dc13 pm13 cd13 ct13 oc14 kV14 dc14 pm14 cd14 ct14 oc15 kV15 dc15 pm15 cd15 ct15 oc16 kV16 dc16 pm16 cd16 ct16 oc17 kV17 dc17 pm17 cd17 ct17 oc18 kV18 dc18 pm18 cd18 ct18 oc19 kV19 dc19 pm19 cd19 ct19 oc21 kV21 dc21 pm21 cd21 ct21 oc22 kV22 dc22 pm22 cd22 ct22 oc23 kV23 dc23 pm23 cd23 ct23 oc24 kV24 dc24 pm24 cd24 ct24 oc25 kV25 dc25 pm25 cd25 ct25 oc26 kV26 dc26 pm26 cd26 ct26 oc27 kV27 dc27 pm27 cd27 ct27 oc28 kV28 dc28 pm28 cd28 ct28 oc29 kV29 dc29 pm29 cd29 ct29 oc30 kV30 dc30 pm30 cd30 ct30 oc31 kV31 dc31 pm31 cd31 ct31 oc32 kV32 dc32 pm32 cd32 ct32 oc33 kV33 dc33 pm33 cd33 ct33 oc34 kV34 dc34 pm34 cd34 ct34 oc35 kV35 dc35 pm35 cd35 ct35 oc36 kV36 dc36 pm36 cd36 ct36 oc37 kV37 dc37 pm37 cd37 ct37 oc38 kV38 dc38 pm38 cd38 ct38 oc39 kV39 dc39 pm39 cd39 ct39 oc40 kV40 dc40 pm40 cd40 ct40 oc41 kV41 dc41 pm41 cd41 ct41 oc43 kV43 dc43 pm43 cd43 ct43 oc44 kV44 dc44 pm44 cd44 ct44 oc45 kV45 dc45 pm45 cd45 ct45 oc46 kV46 dc46 pm46 cd46 ct46 oc47 kV47 dc47 pm47 cd47 ct47 oc48 kV48 dc48 pm48 cd48 ct48 oc49 kV49 dc49 pm49 cd49 ct49 oc50 kV50 dc50 pm50 cd50 ct50 oc51 kV51 dc51 pm51 cd51 ct51 oc52 kV52 dc52 pm52 cd52 ct52 oc53 kV53 dc53 pm53 cd53 ct53 oc54 kV54 dc54 pm54 cd54 ct54 oc55 kV55 dc55 pm55 cd55 ct55 oc56 kV56 dc56 pm56 cd56 ct56 : Value} {t_MAX_SIZE : Tok} {t_MAX_YEARS : Tok} (a5 : PySem.W.nsIn K mainGlobals "is_integer" = some (some (.ref f5))) (l5 : K.lookup f5 = some ⟨oc5, od5, .func (PySem.W.fnOf "is_integer" "is_integer" (defArgs (topS 5)) (defBody (topS 5)) (defScope (topS 5)) .none kV5 dc5 pm5 an5 cd5 ct5), sl5⟩) (c5 : PySem.W.codeIn K cd5 "is_integer" = true) (k5 : PySem.W.keepIn K (.ref f5) = true) (a9 : PySem.W.nsIn K mainGlobals "greatest_divisor" = some (some (.ref f9))) (l9 : K.lookup f9 = some ⟨oc9, od9, .func (PySem.W.fnOf "greatest_divisor" "greatest_divisor" (defArgs (topS 9)) (defBody (topS 9)) (defScope (topS 9)) .none kV9 dc9 pm9 an9 cd9 ct9), sl9⟩) (c9 : PySem.W.codeIn K cd9 "greatest_divisor" = true) (k9 : PySem.W.keepIn K (.ref f9) = true) (a10 : PySem.W.nsIn K mainGlobals "quotient" = some (some (.ref f10))) (l10 : K.lookup f10 = some ⟨oc10, od10, .func (PySem.W.fnOf "quotient" "quotient" (defArgs (topS 10)) (defBody (topS 10)) (defScope (topS 10)) .none kV10 dc10 pm10 an10 cd10 ct10), sl10⟩) (c10 : PySem.W.codeIn K cd10 "quotient" = true) (k10 : PySem.W.keepIn K (.ref f10) = true) (a11 : PySem.W.nsIn K mainGlobals "plus" = some (some (.ref f11))) (l11 : K.lookup f11 = some ⟨oc11, od11, .func (PySem.W.fnOf "plus" "plus" (defArgs (topS 11)) (defBody (topS 11)) (defScope (topS 11)) .none kV11 dc11 pm11 an11 cd11 ct11), sl11⟩) (c11 : PySem.W.codeIn K cd11 "plus" = true) (k11 : PySem.W.keepIn K (.ref f11) = true) (a12 : PySem.W.nsIn K mainGlobals "minus" = some (some (.ref f12))) (l12 : K.lookup f12 = some ⟨oc12, od12, .func (PySem.W.fnOf "minus" "minus" (defArgs (topS 12)) (defBody (topS 12)) (defScope (topS 12)) .none kV12 dc12 pm12 an12 cd12 ct12), sl12⟩) (c12 : PySem.W.codeIn K cd12 "minus" = true) (k12 : PySem.W.keepIn K (.ref f12) = true) (a13 : PySem.W.nsIn K mainGlobals "times" = some (some (.ref f13))) (l13 : K.lookup f13 = some ⟨oc13, od13, .func (PySem.W.fnOf "times" "times" (defArgs (topS 13)) (defBody (topS 13)) (defScope (topS 13)) .none kV13 dc13 pm13 an13 cd13 ct13), sl13⟩) (c13 : PySem.W.codeIn K cd13 "times" = true) (k13 : PySem.W.keepIn K (.ref f13) = true) (a14 : PySem.W.nsIn K mainGlobals "over" = some (some (.ref f14))) (l14 : K.lookup f14 = some ⟨oc14, od14, .func (PySem.W.fnOf "over" "over" (defArgs (topS 14)) (defBody (topS 14)) (defScope (topS 14)) .none kV14 dc14 pm14 an14 cd14 ct14), sl14⟩) (c14 : PySem.W.codeIn K cd14 "over" = true) (k14 : PySem.W.keepIn K (.ref f14) = true) (a15 : PySem.W.nsIn K mainGlobals "is_less" = some (some (.ref f15))) (l15 : K.lookup f15 = some ⟨oc15, od15, .func (PySem.W.fnOf "is_less" "is_less" (defArgs (topS 15)) (defBody (topS 15)) (defScope (topS 15)) .none kV15 dc15 pm15 an15 cd15 ct15), sl15⟩) (c15 : PySem.W.codeIn K cd15 "is_less" = true) (k15 : PySem.W.keepIn K (.ref f15) = true) (a16 : PySem.W.nsIn K mainGlobals "sum_of" = some (some (.ref f16))) (l16 : K.lookup f16 = some ⟨oc16, od16, .func (PySem.W.fnOf "sum_of" "sum_of" (defArgs (topS 16)) (defBody (topS 16)) (defScope (topS 16)) .none kV16 dc16 pm16 an16 cd16 ct16), sl16⟩) (c16 : PySem.W.codeIn K cd16 "sum_of" = true) (k16 : PySem.W.keepIn K (.ref f16) = true) (a17 : PySem.W.nsIn K mainGlobals "power" = some (some (.ref f17))) (l17 : K.lookup f17 = some ⟨oc17, od17, .func (PySem.W.fnOf "power" "power" (defArgs (topS 17)) (defBody (topS 17)) (defScope (topS 17)) .none kV17 dc17 pm17 an17 cd17 ct17), sl17⟩) (c17 : PySem.W.codeIn K cd17 "power" = true) (k17 : PySem.W.keepIn K (.ref f17) = true) (a18 : PySem.W.nsIn K mainGlobals "is_quotient" = some (some (.ref f18))) (l18 : K.lookup f18 = some ⟨oc18, od18, .func (PySem.W.fnOf "is_quotient" "is_quotient" (defArgs (topS 18)) (defBody (topS 18)) (defScope (topS 18)) .none kV18 dc18 pm18 an18 cd18 ct18), sl18⟩) (c18 : PySem.W.codeIn K cd18 "is_quotient" = true) (k18 : PySem.W.keepIn K (.ref f18) = true) (a19 : PySem.W.nsIn K mainGlobals "is_number" = some (some (.ref f19))) (l19 : K.lookup f19 = some ⟨oc19, od19, .func (PySem.W.fnOf "is_number" "is_number" (defArgs (topS 19)) (defBody (topS 19)) (defScope (topS 19)) .none kV19 dc19 pm19 an19 cd19 ct19), sl19⟩) (c19 : PySem.W.codeIn K cd19 "is_number" = true) (k19 : PySem.W.keepIn K (.ref f19) = true) (a21 : PySem.W.nsIn K mainGlobals "is_plan" = some (some (.ref f21))) (l21 : K.lookup f21 = some ⟨oc21, od21, .func (PySem.W.fnOf "is_plan" "is_plan" (defArgs (topS 21)) (defBody (topS 21)) (defScope (topS 21)) .none kV21 dc21 pm21 an21 cd21 ct21), sl21⟩) (c21 : PySem.W.codeIn K cd21 "is_plan" = true) (k21 : PySem.W.keepIn K (.ref f21) = true) (a22 : PySem.W.nsIn K mainGlobals "check_plans" = some (some (.ref f22))) (l22 : K.lookup f22 = some ⟨oc22, od22, .func (PySem.W.fnOf "check_plans" "check_plans" (defArgs (topS 22)) (defBody (topS 22)) (defScope (topS 22)) .none kV22 dc22 pm22 an22 cd22 ct22), sl22⟩) (c22 : PySem.W.codeIn K cd22 "check_plans" = true) (k22 : PySem.W.keepIn K (.ref f22) = true) (a23 : PySem.W.nsIn K mainGlobals "check_traffic" = some (some (.ref f23))) (l23 : K.lookup f23 = some ⟨oc23, od23, .func (PySem.W.fnOf "check_traffic" "check_traffic" (defArgs (topS 23)) (defBody (topS 23)) (defScope (topS 23)) .none kV23 dc23 pm23 an23 cd23 ct23), sl23⟩) (c23 : PySem.W.codeIn K cd23 "check_traffic" = true) (k23 : PySem.W.keepIn K (.ref f23) = true) (a24 : PySem.W.nsIn K mainGlobals "check_rate" = some (some (.ref f24))) (l24 : K.lookup f24 = some ⟨oc24, od24, .func (PySem.W.fnOf "check_rate" "check_rate" (defArgs (topS 24)) (defBody (topS 24)) (defScope (topS 24)) .none kV24 dc24 pm24 an24 cd24 ct24), sl24⟩) (c24 : PySem.W.codeIn K cd24 "check_rate" = true) (k24 : PySem.W.keepIn K (.ref f24) = true) (a25 : PySem.W.nsIn K mainGlobals "check_case" = some (some (.ref f25))) (l25 : K.lookup f25 = some ⟨oc25, od25, .func (PySem.W.fnOf "check_case" "check_case" (defArgs (topS 25)) (defBody (topS 25)) (defScope (topS 25)) .none kV25 dc25 pm25 an25 cd25 ct25), sl25⟩) (c25 : PySem.W.codeIn K cd25 "check_case" = true) (k25 : PySem.W.keepIn K (.ref f25) = true) (a26 : PySem.W.nsIn K mainGlobals "break_even" = some (some (.ref f26))) (l26 : K.lookup f26 = some ⟨oc26, od26, .func (PySem.W.fnOf "break_even" "break_even" (defArgs (topS 26)) (defBody (topS 26)) (defScope (topS 26)) .none kV26 dc26 pm26 an26 cd26 ct26), sl26⟩) (c26 : PySem.W.codeIn K cd26 "break_even" = true) (k26 : PySem.W.keepIn K (.ref f26) = true) (a27 : PySem.W.nsIn K mainGlobals "from_zero" = some (some (.ref f27))) (l27 : K.lookup f27 = some ⟨oc27, od27, .func (PySem.W.fnOf "from_zero" "from_zero" (defArgs (topS 27)) (defBody (topS 27)) (defScope (topS 27)) .none kV27 dc27 pm27 an27 cd27 ct27), sl27⟩) (c27 : PySem.W.codeIn K cd27 "from_zero" = true) (k27 : PySem.W.keepIn K (.ref f27) = true) (a28 : PySem.W.nsIn K mainGlobals "ferry_costs" = some (some (.ref f28))) (l28 : K.lookup f28 = some ⟨oc28, od28, .func (PySem.W.fnOf "ferry_costs" "ferry_costs" (defArgs (topS 28)) (defBody (topS 28)) (defScope (topS 28)) .none kV28 dc28 pm28 an28 cd28 ct28), sl28⟩) (c28 : PySem.W.codeIn K cd28 "ferry_costs" = true) (k28 : PySem.W.keepIn K (.ref f28) = true) (a29 : PySem.W.nsIn K mainGlobals "bridge_costs" = some (some (.ref f29))) (l29 : K.lookup f29 = some ⟨oc29, od29, .func (PySem.W.fnOf "bridge_costs" "bridge_costs" (defArgs (topS 29)) (defBody (topS 29)) (defScope (topS 29)) .none kV29 dc29 pm29 an29 cd29 ct29), sl29⟩) (c29 : PySem.W.codeIn K cd29 "bridge_costs" = true) (k29 : PySem.W.keepIn K (.ref f29) = true) (a30 : PySem.W.nsIn K mainGlobals "switch_costs" = some (some (.ref f30))) (l30 : K.lookup f30 = some ⟨oc30, od30, .func (PySem.W.fnOf "switch_costs" "switch_costs" (defArgs (topS 30)) (defBody (topS 30)) (defScope (topS 30)) .none kV30 dc30 pm30 an30 cd30 ct30), sl30⟩) (c30 : PySem.W.codeIn K cd30 "switch_costs" = true) (k30 : PySem.W.keepIn K (.ref f30) = true) (a31 : PySem.W.nsIn K mainGlobals "worth_of" = some (some (.ref f31))) (l31 : K.lookup f31 = some ⟨oc31, od31, .func (PySem.W.fnOf "worth_of" "worth_of" (defArgs (topS 31)) (defBody (topS 31)) (defScope (topS 31)) .none kV31 dc31 pm31 an31 cd31 ct31), sl31⟩) (c31 : PySem.W.codeIn K cd31 "worth_of" = true) (k31 : PySem.W.keepIn K (.ref f31) = true) (a32 : PySem.W.nsIn K mainGlobals "check_year" = some (some (.ref f32))) (l32 : K.lookup f32 = some ⟨oc32, od32, .func (PySem.W.fnOf "check_year" "check_year" (defArgs (topS 32)) (defBody (topS 32)) (defScope (topS 32)) .none kV32 dc32 pm32 an32 cd32 ct32), sl32⟩) (c32 : PySem.W.codeIn K cd32 "check_year" = true) (k32 : PySem.W.keepIn K (.ref f32) = true) (a33 : PySem.W.nsIn K mainGlobals "whole_cost" = some (some (.ref f33))) (l33 : K.lookup f33 = some ⟨oc33, od33, .func (PySem.W.fnOf "whole_cost" "whole_cost" (defArgs (topS 33)) (defBody (topS 33)) (defScope (topS 33)) .none kV33 dc33 pm33 an33 cd33 ct33), sl33⟩) (c33 : PySem.W.codeIn K cd33 "whole_cost" = true) (k33 : PySem.W.keepIn K (.ref f33) = true) (a34 : PySem.W.nsIn K mainGlobals "yearly_costs" = some (some (.ref f34))) (l34 : K.lookup f34 = some ⟨oc34, od34, .func (PySem.W.fnOf "yearly_costs" "yearly_costs" (defArgs (topS 34)) (defBody (topS 34)) (defScope (topS 34)) .none kV34 dc34 pm34 an34 cd34 ct34), sl34⟩) (c34 : PySem.W.codeIn K cd34 "yearly_costs" = true) (k34 : PySem.W.keepIn K (.ref f34) = true) (a35 : PySem.W.nsIn K mainGlobals "judge_worth" = some (some (.ref f35))) (l35 : K.lookup f35 = some ⟨oc35, od35, .func (PySem.W.fnOf "judge_worth" "judge_worth" (defArgs (topS 35)) (defBody (topS 35)) (defScope (topS 35)) .none kV35 dc35 pm35 an35 cd35 ct35), sl35⟩) (c35 : PySem.W.codeIn K cd35 "judge_worth" = true) (k35 : PySem.W.keepIn K (.ref f35) = true) (a36 : PySem.W.nsIn K mainGlobals "best_year" = some (some (.ref f36))) (l36 : K.lookup f36 = some ⟨oc36, od36, .func (PySem.W.fnOf "best_year" "best_year" (defArgs (topS 36)) (defBody (topS 36)) (defScope (topS 36)) .none kV36 dc36 pm36 an36 cd36 ct36), sl36⟩) (c36 : PySem.W.codeIn K cd36 "best_year" = true) (k36 : PySem.W.keepIn K (.ref f36) = true) (a37 : PySem.W.nsIn K mainGlobals "later_savings" = some (some (.ref f37))) (l37 : K.lookup f37 = some ⟨oc37, od37, .func (PySem.W.fnOf "later_savings" "later_savings" (defArgs (topS 37)) (defBody (topS 37)) (defScope (topS 37)) .none kV37 dc37 pm37 an37 cd37 ct37), sl37⟩) (c37 : PySem.W.codeIn K cd37 "later_savings" = true) (k37 : PySem.W.keepIn K (.ref f37) = true) (a38 : PySem.W.nsIn K mainGlobals "accept_year" = some (some (.ref f38))) (l38 : K.lookup f38 = some ⟨oc38, od38, .func (PySem.W.fnOf "accept_year" "accept_year" (defArgs (topS 38)) (defBody (topS 38)) (defScope (topS 38)) .none kV38 dc38 pm38 an38 cd38 ct38), sl38⟩) (c38 : PySem.W.codeIn K cd38 "accept_year" = true) (k38 : PySem.W.keepIn K (.ref f38) = true) (a39 : PySem.W.nsIn K mainGlobals "grown_traffic" = some (some (.ref f39))) (l39 : K.lookup f39 = some ⟨oc39, od39, .func (PySem.W.fnOf "grown_traffic" "grown_traffic" (defArgs (topS 39)) (defBody (topS 39)) (defScope (topS 39)) .none kV39 dc39 pm39 an39 cd39 ct39), sl39⟩) (c39 : PySem.W.codeIn K cd39 "grown_traffic" = true) (k39 : PySem.W.keepIn K (.ref f39) = true) (a40 : PySem.W.nsIn K mainGlobals "even_payment" = some (some (.ref f40))) (l40 : K.lookup f40 = some ⟨oc40, od40, .func (PySem.W.fnOf "even_payment" "even_payment" (defArgs (topS 40)) (defBody (topS 40)) (defScope (topS 40)) .none kV40 dc40 pm40 an40 cd40 ct40), sl40⟩) (c40 : PySem.W.codeIn K cd40 "even_payment" = true) (k40 : PySem.W.keepIn K (.ref f40) = true) (a41 : PySem.W.nsIn K mainGlobals "debts" = some (some (.ref f41))) (l41 : K.lookup f41 = some ⟨oc41, od41, .func (PySem.W.fnOf "debts" "debts" (defArgs (topS 41)) (defBody (topS 41)) (defScope (topS 41)) .none kV41 dc41 pm41 an41 cd41 ct41), sl41⟩) (c41 : PySem.W.codeIn K cd41 "debts" = true) (k41 : PySem.W.keepIn K (.ref f41) = true) (a43 : PySem.W.nsIn K mainGlobals "_law_start" = some (some (.ref f43))) (l43 : K.lookup f43 = some ⟨oc43, od43, .func (PySem.W.fnOf "_law_start" "_law_start" (defArgs (topS 43)) (defBody (topS 43)) (defScope (topS 43)) .none kV43 dc43 pm43 an43 cd43 ct43), sl43⟩) (c43 : PySem.W.codeIn K cd43 "_law_start" = true) (k43 : PySem.W.keepIn K (.ref f43) = true) (a44 : PySem.W.nsIn K mainGlobals "_law_draw" = some (some (.ref f44))) (l44 : K.lookup f44 = some ⟨oc44, od44, .func (PySem.W.fnOf "_law_draw" "_law_draw" (defArgs (topS 44)) (defBody (topS 44)) (defScope (topS 44)) .none kV44 dc44 pm44 an44 cd44 ct44), sl44⟩) (c44 : PySem.W.codeIn K cd44 "_law_draw" = true) (k44 : PySem.W.keepIn K (.ref f44) = true) (a45 : PySem.W.nsIn K mainGlobals "_law_pick" = some (some (.ref f45))) (l45 : K.lookup f45 = some ⟨oc45, od45, .func (PySem.W.fnOf "_law_pick" "_law_pick" (defArgs (topS 45)) (defBody (topS 45)) (defScope (topS 45)) .none kV45 dc45 pm45 an45 cd45 ct45), sl45⟩) (c45 : PySem.W.codeIn K cd45 "_law_pick" = true) (k45 : PySem.W.keepIn K (.ref f45) = true) (a46 : PySem.W.nsIn K mainGlobals "_law_same" = some (some (.ref f46))) (l46 : K.lookup f46 = some ⟨oc46, od46, .func (PySem.W.fnOf "_law_same" "_law_same" (defArgs (topS 46)) (defBody (topS 46)) (defScope (topS 46)) .none kV46 dc46 pm46 an46 cd46 ct46), sl46⟩) (c46 : PySem.W.codeIn K cd46 "_law_same" = true) (k46 : PySem.W.keepIn K (.ref f46) = true) (a47 : PySem.W.nsIn K mainGlobals "_law_low" = some (some (.ref f47))) (l47 : K.lookup f47 = some ⟨oc47, od47, .func (PySem.W.fnOf "_law_low" "_law_low" (defArgs (topS 47)) (defBody (topS 47)) (defScope (topS 47)) .none kV47 dc47 pm47 an47 cd47 ct47), sl47⟩) (c47 : PySem.W.codeIn K cd47 "_law_low" = true) (k47 : PySem.W.keepIn K (.ref f47) = true) (a48 : PySem.W.nsIn K mainGlobals "_law_plus" = some (some (.ref f48))) (l48 : K.lookup f48 = some ⟨oc48, od48, .func (PySem.W.fnOf "_law_plus" "_law_plus" (defArgs (topS 48)) (defBody (topS 48)) (defScope (topS 48)) .none kV48 dc48 pm48 an48 cd48 ct48), sl48⟩) (c48 : PySem.W.codeIn K cd48 "_law_plus" = true) (k48 : PySem.W.keepIn K (.ref f48) = true) (a49 : PySem.W.nsIn K mainGlobals "_law_mul" = some (some (.ref f49))) (l49 : K.lookup f49 = some ⟨oc49, od49, .func (PySem.W.fnOf "_law_mul" "_law_mul" (defArgs (topS 49)) (defBody (topS 49)) (defScope (topS 49)) .none kV49 dc49 pm49 an49 cd49 ct49), sl49⟩) (c49 : PySem.W.codeIn K cd49 "_law_mul" = true) (k49 : PySem.W.keepIn K (.ref f49) = true) (a50 : PySem.W.nsIn K mainGlobals "_law_power" = some (some (.ref f50))) (l50 : K.lookup f50 = some ⟨oc50, od50, .func (PySem.W.fnOf "_law_power" "_law_power" (defArgs (topS 50)) (defBody (topS 50)) (defScope (topS 50)) .none kV50 dc50 pm50 an50 cd50 ct50), sl50⟩) (c50 : PySem.W.codeIn K cd50 "_law_power" = true) (k50 : PySem.W.keepIn K (.ref f50) = true) (a51 : PySem.W.nsIn K mainGlobals "_law_case" = some (some (.ref f51))) (l51 : K.lookup f51 = some ⟨oc51, od51, .func (PySem.W.fnOf "_law_case" "_law_case" (defArgs (topS 51)) (defBody (topS 51)) (defScope (topS 51)) .none kV51 dc51 pm51 an51 cd51 ct51), sl51⟩) (c51 : PySem.W.codeIn K cd51 "_law_case" = true) (k51 : PySem.W.keepIn K (.ref f51) = true) (a52 : PySem.W.nsIn K mainGlobals "_law_savings_hold" = some (some (.ref f52))) (l52 : K.lookup f52 = some ⟨oc52, od52, .func (PySem.W.fnOf "_law_savings_hold" "_law_savings_hold" (defArgs (topS 52)) (defBody (topS 52)) (defScope (topS 52)) .none kV52 dc52 pm52 an52 cd52 ct52), sl52⟩) (c52 : PySem.W.codeIn K cd52 "_law_savings_hold" = true) (k52 : PySem.W.keepIn K (.ref f52) = true) (a53 : PySem.W.nsIn K mainGlobals "_law_parts_hold" = some (some (.ref f53))) (l53 : K.lookup f53 = some ⟨oc53, od53, .func (PySem.W.fnOf "_law_parts_hold" "_law_parts_hold" (defArgs (topS 53)) (defBody (topS 53)) (defScope (topS 53)) .none kV53 dc53 pm53 an53 cd53 ct53), sl53⟩) (c53 : PySem.W.codeIn K cd53 "_law_parts_hold" = true) (k53 : PySem.W.keepIn K (.ref f53) = true) (a54 : PySem.W.nsIn K mainGlobals "_law_within" = some (some (.ref f54))) (l54 : K.lookup f54 = some ⟨oc54, od54, .func (PySem.W.fnOf "_law_within" "_law_within" (defArgs (topS 54)) (defBody (topS 54)) (defScope (topS 54)) .none kV54 dc54 pm54 an54 cd54 ct54), sl54⟩) (c54 : PySem.W.codeIn K cd54 "_law_within" = true) (k54 : PySem.W.keepIn K (.ref f54) = true) (a55 : PySem.W.nsIn K mainGlobals "_law_debts_hold" = some (some (.ref f55))) (l55 : K.lookup f55 = some ⟨oc55, od55, .func (PySem.W.fnOf "_law_debts_hold" "_law_debts_hold" (defArgs (topS 55)) (defBody (topS 55)) (defScope (topS 55)) .none kV55 dc55 pm55 an55 cd55 ct55), sl55⟩) (c55 : PySem.W.codeIn K cd55 "_law_debts_hold" = true) (k55 : PySem.W.keepIn K (.ref f55) = true) (a56 : PySem.W.nsIn K mainGlobals "law" = some (some (.ref f56))) (l56 : K.lookup f56 = some ⟨oc56, od56, .func (PySem.W.fnOf "law" "law" (defArgs (topS 56)) (defBody (topS 56)) (defScope (topS 56)) .none kV56 dc56 pm56 an56 cd56 ct56), sl56⟩) (c56 : PySem.W.codeIn K cd56 "law" = true) (k56 : PySem.W.keepIn K (.ref f56) = true) (z_abs : PySem.W.nsIn K mainGlobals "abs" = some none) (z_all : PySem.W.nsIn K mainGlobals "all" = some none) (z_bool : PySem.W.nsIn K mainGlobals "bool" = some none) (z_enumerate : PySem.W.nsIn K mainGlobals "enumerate" = some none) (z_int : PySem.W.nsIn K mainGlobals "int" = some none) (z_isinstance : PySem.W.nsIn K mainGlobals "isinstance" = some none) (z_len : PySem.W.nsIn K mainGlobals "len" = some none) (z_list : PySem.W.nsIn K mainGlobals "list" = some none) (z_range : PySem.W.nsIn K mainGlobals "range" = some none) (z_repr : PySem.W.nsIn K mainGlobals "repr" = some none) (z_sum : PySem.W.nsIn K mainGlobals "sum" = some none) (z_tuple : PySem.W.nsIn K mainGlobals "tuple" = some none) (c_MAX_SIZE : PySem.W.nsIn K mainGlobals "MAX_SIZE" = some (some (.int 1000000000000 t_MAX_SIZE))) (c_MAX_YEARS : PySem.W.nsIn K mainGlobals "MAX_YEARS" = some (some (.int 40 t_MAX_YEARS)))
    (ok : ∀ t, Wf t → g_law t ∧ o_law t = .rt true) : ∃ fd : FuncData, (∀ (s : Shared) (u : Value), BindsTo s fd ⟨[u], []⟩ [("script", u)]) ∧ ∀ base : Heap, K.In base → base.Ns mainGlobals mg → FnG l.prog w K mg base 8 fa fd ["script"] (spLaw K) := by
  have e : fa = f56 := by
    have e := hfa.symm.trans (PySem.W.mg_of X G a56)
    injection e with e
    injection e
  rw [e]
  have T : Tx K mg (fun i => (([(5, f5), (9, f9), (10, f10), (11, f11), (12, f12), (13, f13), (14, f14), (15, f15), (16, f16), (17, f17), (18, f18), (19, f19), (21, f21), (22, f22), (23, f23), (24, f24), (25, f25), (26, f26), (27, f27), (28, f28), (29, f29), (30, f30), (31, f31), (32, f32), (33, f33), (34, f34), (35, f35), (36, f36), (37, f37), (38, f38), (39, f39), (40, f40), (41, f41), (43, f43), (44, f44), (45, f45), (46, f46), (47, f47), (48, f48), (49, f49), (50, f50), (51, f51), (52, f52), (53, f53), (54, f54), (55, f55), (56, f56)] : List (Nat × Addr)).lookup i).getD 0) (fun i => (([(5, (PySem.W.fnOf "is_integer" "is_integer" (defArgs (topS 5)) (defBody (topS 5)) (defScope (topS 5)) .none kV5 dc5 pm5 an5 cd5 ct5)), (9, (PySem.W.fnOf "greatest_divisor" "greatest_divisor" (defArgs (topS 9)) (defBody (topS 9)) (defScope (topS 9)) .none kV9 dc9 pm9 an9 cd9 ct9)), (10, (PySem.W.fnOf "quotient" "quotient" (defArgs (topS 10)) (defBody (topS 10)) (defScope (topS 10)) .none kV10 dc10 pm10 an10 cd10 ct10)), (11, (PySem.W.fnOf "plus" "plus" (defArgs (topS 11)) (defBody (topS 11)) (defScope (topS 11)) .none kV11 dc11 pm11 an11 cd11 ct11)), (12, (PySem.W.fnOf "minus" "minus" (defArgs (topS 12)) (defBody (topS 12)) (defScope (topS 12)) .none kV12 dc12 pm12 an12 cd12 ct12)), (13, (PySem.W.fnOf "times" "times" (defArgs (topS 13)) (defBody (topS 13)) (defScope (topS 13)) .none kV13 dc13 pm13 an13 cd13 ct13)), (14, (PySem.W.fnOf "over" "over" (defArgs (topS 14)) (defBody (topS 14)) (defScope (topS 14)) .none kV14 dc14 pm14 an14 cd14 ct14)), (15, (PySem.W.fnOf "is_less" "is_less" (defArgs (topS 15)) (defBody (topS 15)) (defScope (topS 15)) .none kV15 dc15 pm15 an15 cd15 ct15)), (16, (PySem.W.fnOf "sum_of" "sum_of" (defArgs (topS 16)) (defBody (topS 16)) (defScope (topS 16)) .none kV16 dc16 pm16 an16 cd16 ct16)), (17, (PySem.W.fnOf "power" "power" (defArgs (topS 17)) (defBody (topS 17)) (defScope (topS 17)) .none kV17 dc17 pm17 an17 cd17 ct17)), (18, (PySem.W.fnOf "is_quotient" "is_quotient" (defArgs (topS 18)) (defBody (topS 18)) (defScope (topS 18)) .none kV18 dc18 pm18 an18 cd18 ct18)), (19, (PySem.W.fnOf "is_number" "is_number" (defArgs (topS 19)) (defBody (topS 19)) (defScope (topS 19)) .none kV19 dc19 pm19 an19 cd19 ct19)), (21, (PySem.W.fnOf "is_plan" "is_plan" (defArgs (topS 21)) (defBody (topS 21)) (defScope (topS 21)) .none kV21 dc21 pm21 an21 cd21 ct21)), (22, (PySem.W.fnOf "check_plans" "check_plans" (defArgs (topS 22)) (defBody (topS 22)) (defScope (topS 22)) .none kV22 dc22 pm22 an22 cd22 ct22)), (23, (PySem.W.fnOf "check_traffic" "check_traffic" (defArgs (topS 23)) (defBody (topS 23)) (defScope (topS 23)) .none kV23 dc23 pm23 an23 cd23 ct23)), (24, (PySem.W.fnOf "check_rate" "check_rate" (defArgs (topS 24)) (defBody (topS 24)) (defScope (topS 24)) .none kV24 dc24 pm24 an24 cd24 ct24)), (25, (PySem.W.fnOf "check_case" "check_case" (defArgs (topS 25)) (defBody (topS 25)) (defScope (topS 25)) .none kV25 dc25 pm25 an25 cd25 ct25)), (26, (PySem.W.fnOf "break_even" "break_even" (defArgs (topS 26)) (defBody (topS 26)) (defScope (topS 26)) .none kV26 dc26 pm26 an26 cd26 ct26)), (27, (PySem.W.fnOf "from_zero" "from_zero" (defArgs (topS 27)) (defBody (topS 27)) (defScope (topS 27)) .none kV27 dc27 pm27 an27 cd27 ct27)), (28, (PySem.W.fnOf "ferry_costs" "ferry_costs" (defArgs (topS 28)) (defBody (topS 28)) (defScope (topS 28)) .none kV28 dc28 pm28 an28 cd28 ct28)), (29, (PySem.W.fnOf "bridge_costs" "bridge_costs" (defArgs (topS 29)) (defBody (topS 29)) (defScope (topS 29)) .none kV29 dc29 pm29 an29 cd29 ct29)), (30, (PySem.W.fnOf "switch_costs" "switch_costs" (defArgs (topS 30)) (defBody (topS 30)) (defScope (topS 30)) .none kV30 dc30 pm30 an30 cd30 ct30)), (31, (PySem.W.fnOf "worth_of" "worth_of" (defArgs (topS 31)) (defBody (topS 31)) (defScope (topS 31)) .none kV31 dc31 pm31 an31 cd31 ct31)), (32, (PySem.W.fnOf "check_year" "check_year" (defArgs (topS 32)) (defBody (topS 32)) (defScope (topS 32)) .none kV32 dc32 pm32 an32 cd32 ct32)), (33, (PySem.W.fnOf "whole_cost" "whole_cost" (defArgs (topS 33)) (defBody (topS 33)) (defScope (topS 33)) .none kV33 dc33 pm33 an33 cd33 ct33)), (34, (PySem.W.fnOf "yearly_costs" "yearly_costs" (defArgs (topS 34)) (defBody (topS 34)) (defScope (topS 34)) .none kV34 dc34 pm34 an34 cd34 ct34)), (35, (PySem.W.fnOf "judge_worth" "judge_worth" (defArgs (topS 35)) (defBody (topS 35)) (defScope (topS 35)) .none kV35 dc35 pm35 an35 cd35 ct35)), (36, (PySem.W.fnOf "best_year" "best_year" (defArgs (topS 36)) (defBody (topS 36)) (defScope (topS 36)) .none kV36 dc36 pm36 an36 cd36 ct36)), (37, (PySem.W.fnOf "later_savings" "later_savings" (defArgs (topS 37)) (defBody (topS 37)) (defScope (topS 37)) .none kV37 dc37 pm37 an37 cd37 ct37)), (38, (PySem.W.fnOf "accept_year" "accept_year" (defArgs (topS 38)) (defBody (topS 38)) (defScope (topS 38)) .none kV38 dc38 pm38 an38 cd38 ct38)), (39, (PySem.W.fnOf "grown_traffic" "grown_traffic" (defArgs (topS 39)) (defBody (topS 39)) (defScope (topS 39)) .none kV39 dc39 pm39 an39 cd39 ct39)), (40, (PySem.W.fnOf "even_payment" "even_payment" (defArgs (topS 40)) (defBody (topS 40)) (defScope (topS 40)) .none kV40 dc40 pm40 an40 cd40 ct40)), (41, (PySem.W.fnOf "debts" "debts" (defArgs (topS 41)) (defBody (topS 41)) (defScope (topS 41)) .none kV41 dc41 pm41 an41 cd41 ct41)), (43, (PySem.W.fnOf "_law_start" "_law_start" (defArgs (topS 43)) (defBody (topS 43)) (defScope (topS 43)) .none kV43 dc43 pm43 an43 cd43 ct43)), (44, (PySem.W.fnOf "_law_draw" "_law_draw" (defArgs (topS 44)) (defBody (topS 44)) (defScope (topS 44)) .none kV44 dc44 pm44 an44 cd44 ct44)), (45, (PySem.W.fnOf "_law_pick" "_law_pick" (defArgs (topS 45)) (defBody (topS 45)) (defScope (topS 45)) .none kV45 dc45 pm45 an45 cd45 ct45)), (46, (PySem.W.fnOf "_law_same" "_law_same" (defArgs (topS 46)) (defBody (topS 46)) (defScope (topS 46)) .none kV46 dc46 pm46 an46 cd46 ct46)), (47, (PySem.W.fnOf "_law_low" "_law_low" (defArgs (topS 47)) (defBody (topS 47)) (defScope (topS 47)) .none kV47 dc47 pm47 an47 cd47 ct47)), (48, (PySem.W.fnOf "_law_plus" "_law_plus" (defArgs (topS 48)) (defBody (topS 48)) (defScope (topS 48)) .none kV48 dc48 pm48 an48 cd48 ct48)), (49, (PySem.W.fnOf "_law_mul" "_law_mul" (defArgs (topS 49)) (defBody (topS 49)) (defScope (topS 49)) .none kV49 dc49 pm49 an49 cd49 ct49)), (50, (PySem.W.fnOf "_law_power" "_law_power" (defArgs (topS 50)) (defBody (topS 50)) (defScope (topS 50)) .none kV50 dc50 pm50 an50 cd50 ct50)), (51, (PySem.W.fnOf "_law_case" "_law_case" (defArgs (topS 51)) (defBody (topS 51)) (defScope (topS 51)) .none kV51 dc51 pm51 an51 cd51 ct51)), (52, (PySem.W.fnOf "_law_savings_hold" "_law_savings_hold" (defArgs (topS 52)) (defBody (topS 52)) (defScope (topS 52)) .none kV52 dc52 pm52 an52 cd52 ct52)), (53, (PySem.W.fnOf "_law_parts_hold" "_law_parts_hold" (defArgs (topS 53)) (defBody (topS 53)) (defScope (topS 53)) .none kV53 dc53 pm53 an53 cd53 ct53)), (54, (PySem.W.fnOf "_law_within" "_law_within" (defArgs (topS 54)) (defBody (topS 54)) (defScope (topS 54)) .none kV54 dc54 pm54 an54 cd54 ct54)), (55, (PySem.W.fnOf "_law_debts_hold" "_law_debts_hold" (defArgs (topS 55)) (defBody (topS 55)) (defScope (topS 55)) .none kV55 dc55 pm55 an55 cd55 ct55)), (56, (PySem.W.fnOf "law" "law" (defArgs (topS 56)) (defBody (topS 56)) (defScope (topS 56)) .none kV56 dc56 pm56 an56 cd56 ct56))] : List (Nat × FuncData)).lookup i).getD (PySem.W.fnOf "is_integer" "is_integer" (defArgs (topS 5)) (defBody (topS 5)) (defScope (topS 5)) .none kV5 dc5 pm5 an5 cd5 ct5)) := ⟨fun_mk (st := topS 5) l5 c5 k5, PySem.W.mg_of X G a5, fun_mk (st := topS 9) l9 c9 k9, PySem.W.mg_of X G a9, fun_mk (st := topS 10) l10 c10 k10, PySem.W.mg_of X G a10, fun_mk (st := topS 11) l11 c11 k11, PySem.W.mg_of X G a11, fun_mk (st := topS 12) l12 c12 k12, PySem.W.mg_of X G a12, fun_mk (st := topS 13) l13 c13 k13, PySem.W.mg_of X G a13, fun_mk (st := topS 14) l14 c14 k14, PySem.W.mg_of X G a14, fun_mk (st := topS 15) l15 c15 k15, PySem.W.mg_of X G a15, fun_mk (st := topS 16) l16 c16 k16, PySem.W.mg_of X G a16, fun_mk (st := topS 17) l17 c17 k17, PySem.W.mg_of X G a17, fun_mk (st := topS 18) l18 c18 k18, PySem.W.mg_of X G a18, fun_mk (st := topS 19) l19 c19 k19, PySem.W.mg_of X G a19, fun_mk (st := topS 21) l21 c21 k21, PySem.W.mg_of X G a21, fun_mk (st := topS 22) l22 c22 k22, PySem.W.mg_of X G a22, fun_mk (st := topS 23) l23 c23 k23, PySem.W.mg_of X G a23, fun_mk (st := topS 24) l24 c24 k24, PySem.W.mg_of X G a24, fun_mk (st := topS 25) l25 c25 k25, PySem.W.mg_of X G a25, fun_mk (st := topS 26) l26 c26 k26, PySem.W.mg_of X G a26, fun_mk (st := topS 27) l27 c27 k27, PySem.W.mg_of X G a27, fun_mk (st := topS 28) l28 c28 k28, PySem.W.mg_of X G a28, fun_mk (st := topS 29) l29 c29 k29, PySem.W.mg_of X G a29, fun_mk (st := topS 30) l30 c30 k30, PySem.W.mg_of X G a30, fun_mk (st := topS 31) l31 c31 k31, PySem.W.mg_of X G a31, fun_mk (st := topS 32) l32 c32 k32, PySem.W.mg_of X G a32, fun_mk (st := topS 33) l33 c33 k33, PySem.W.mg_of X G a33, fun_mk (st := topS 34) l34 c34 k34, PySem.W.mg_of X G a34, fun_mk (st := topS 35) l35 c35 k35, PySem.W.mg_of X G a35, fun_mk (st := topS 36) l36 c36 k36, PySem.W.mg_of X G a36, fun_mk (st := topS 37) l37 c37 k37, PySem.W.mg_of X G a37, fun_mk (st := topS 38) l38 c38 k38, PySem.W.mg_of X G a38, fun_mk (st := topS 39) l39 c39 k39, PySem.W.mg_of X G a39, fun_mk (st := topS 40) l40 c40 k40, PySem.W.mg_of X G a40, fun_mk (st := topS 41) l41 c41 k41, PySem.W.mg_of X G a41, fun_mk (st := topS 43) l43 c43 k43, PySem.W.mg_of X G a43, fun_mk (st := topS 44) l44 c44 k44, PySem.W.mg_of X G a44, fun_mk (st := topS 45) l45 c45 k45, PySem.W.mg_of X G a45, fun_mk (st := topS 46) l46 c46 k46, PySem.W.mg_of X G a46, fun_mk (st := topS 47) l47 c47 k47, PySem.W.mg_of X G a47, fun_mk (st := topS 48) l48 c48 k48, PySem.W.mg_of X G a48, fun_mk (st := topS 49) l49 c49 k49, PySem.W.mg_of X G a49, fun_mk (st := topS 50) l50 c50 k50, PySem.W.mg_of X G a50, fun_mk (st := topS 51) l51 c51 k51, PySem.W.mg_of X G a51, fun_mk (st := topS 52) l52 c52 k52, PySem.W.mg_of X G a52, fun_mk (st := topS 53) l53 c53 k53, PySem.W.mg_of X G a53, fun_mk (st := topS 54) l54 c54 k54, PySem.W.mg_of X G a54, fun_mk (st := topS 55) l55 c55 k55, PySem.W.mg_of X G a55, fun_mk (st := topS 56) l56 c56 k56, PySem.W.mg_of X G a56, PySem.W.mg_none_of X G z_abs, PySem.W.mg_none_of X G z_all, PySem.W.mg_none_of X G z_bool, PySem.W.mg_none_of X G z_enumerate, PySem.W.mg_none_of X G z_int, PySem.W.mg_none_of X G z_isinstance, PySem.W.mg_none_of X G z_len, PySem.W.mg_none_of X G z_list, PySem.W.mg_none_of X G z_range, PySem.W.mg_none_of X G z_repr, PySem.W.mg_none_of X G z_sum, PySem.W.mg_none_of X G z_tuple, ⟨_, PySem.W.mg_of X G c_MAX_SIZE⟩, ⟨_, PySem.W.mg_of X G c_MAX_YEARS⟩⟩
  exact ⟨_, fun s u => .of_eq rfl, fun base _ _ => f_law (ad := (fun i => (([(5, f5), (9, f9), (10, f10), (11, f11), (12, f12), (13, f13), (14, f14), (15, f15), (16, f16), (17, f17), (18, f18), (19, f19), (21, f21), (22, f22), (23, f23), (24, f24), (25, f25), (26, f26), (27, f27), (28, f28), (29, f29), (30, f30), (31, f31), (32, f32), (33, f33), (34, f34), (35, f35), (36, f36), (37, f37), (38, f38), (39, f39), (40, f40), (41, f41), (43, f43), (44, f44), (45, f45), (46, f46), (47, f47), (48, f48), (49, f49), (50, f50), (51, f51), (52, f52), (53, f53), (54, f54), (55, f55), (56, f56)] : List (Nat × Addr)).lookup i).getD 0)) (fd := (fun i => (([(5, (PySem.W.fnOf "is_integer" "is_integer" (defArgs (topS 5)) (defBody (topS 5)) (defScope (topS 5)) .none kV5 dc5 pm5 an5 cd5 ct5)), (9, (PySem.W.fnOf "greatest_divisor" "greatest_divisor" (defArgs (topS 9)) (defBody (topS 9)) (defScope (topS 9)) .none kV9 dc9 pm9 an9 cd9 ct9)), (10, (PySem.W.fnOf "quotient" "quotient" (defArgs (topS 10)) (defBody (topS 10)) (defScope (topS 10)) .none kV10 dc10 pm10 an10 cd10 ct10)), (11, (PySem.W.fnOf "plus" "plus" (defArgs (topS 11)) (defBody (topS 11)) (defScope (topS 11)) .none kV11 dc11 pm11 an11 cd11 ct11)), (12, (PySem.W.fnOf "minus" "minus" (defArgs (topS 12)) (defBody (topS 12)) (defScope (topS 12)) .none kV12 dc12 pm12 an12 cd12 ct12)), (13, (PySem.W.fnOf "times" "times" (defArgs (topS 13)) (defBody (topS 13)) (defScope (topS 13)) .none kV13 dc13 pm13 an13 cd13 ct13)), (14, (PySem.W.fnOf "over" "over" (defArgs (topS 14)) (defBody (topS 14)) (defScope (topS 14)) .none kV14 dc14 pm14 an14 cd14 ct14)), (15, (PySem.W.fnOf "is_less" "is_less" (defArgs (topS 15)) (defBody (topS 15)) (defScope (topS 15)) .none kV15 dc15 pm15 an15 cd15 ct15)), (16, (PySem.W.fnOf "sum_of" "sum_of" (defArgs (topS 16)) (defBody (topS 16)) (defScope (topS 16)) .none kV16 dc16 pm16 an16 cd16 ct16)), (17, (PySem.W.fnOf "power" "power" (defArgs (topS 17)) (defBody (topS 17)) (defScope (topS 17)) .none kV17 dc17 pm17 an17 cd17 ct17)), (18, (PySem.W.fnOf "is_quotient" "is_quotient" (defArgs (topS 18)) (defBody (topS 18)) (defScope (topS 18)) .none kV18 dc18 pm18 an18 cd18 ct18)), (19, (PySem.W.fnOf "is_number" "is_number" (defArgs (topS 19)) (defBody (topS 19)) (defScope (topS 19)) .none kV19 dc19 pm19 an19 cd19 ct19)), (21, (PySem.W.fnOf "is_plan" "is_plan" (defArgs (topS 21)) (defBody (topS 21)) (defScope (topS 21)) .none kV21 dc21 pm21 an21 cd21 ct21)), (22, (PySem.W.fnOf "check_plans" "check_plans" (defArgs (topS 22)) (defBody (topS 22)) (defScope (topS 22)) .none kV22 dc22 pm22 an22 cd22 ct22)), (23, (PySem.W.fnOf "check_traffic" "check_traffic" (defArgs (topS 23)) (defBody (topS 23)) (defScope (topS 23)) .none kV23 dc23 pm23 an23 cd23 ct23)), (24, (PySem.W.fnOf "check_rate" "check_rate" (defArgs (topS 24)) (defBody (topS 24)) (defScope (topS 24)) .none kV24 dc24 pm24 an24 cd24 ct24)), (25, (PySem.W.fnOf "check_case" "check_case" (defArgs (topS 25)) (defBody (topS 25)) (defScope (topS 25)) .none kV25 dc25 pm25 an25 cd25 ct25)), (26, (PySem.W.fnOf "break_even" "break_even" (defArgs (topS 26)) (defBody (topS 26)) (defScope (topS 26)) .none kV26 dc26 pm26 an26 cd26 ct26)), (27, (PySem.W.fnOf "from_zero" "from_zero" (defArgs (topS 27)) (defBody (topS 27)) (defScope (topS 27)) .none kV27 dc27 pm27 an27 cd27 ct27)), (28, (PySem.W.fnOf "ferry_costs" "ferry_costs" (defArgs (topS 28)) (defBody (topS 28)) (defScope (topS 28)) .none kV28 dc28 pm28 an28 cd28 ct28)), (29, (PySem.W.fnOf "bridge_costs" "bridge_costs" (defArgs (topS 29)) (defBody (topS 29)) (defScope (topS 29)) .none kV29 dc29 pm29 an29 cd29 ct29)), (30, (PySem.W.fnOf "switch_costs" "switch_costs" (defArgs (topS 30)) (defBody (topS 30)) (defScope (topS 30)) .none kV30 dc30 pm30 an30 cd30 ct30)), (31, (PySem.W.fnOf "worth_of" "worth_of" (defArgs (topS 31)) (defBody (topS 31)) (defScope (topS 31)) .none kV31 dc31 pm31 an31 cd31 ct31)), (32, (PySem.W.fnOf "check_year" "check_year" (defArgs (topS 32)) (defBody (topS 32)) (defScope (topS 32)) .none kV32 dc32 pm32 an32 cd32 ct32)), (33, (PySem.W.fnOf "whole_cost" "whole_cost" (defArgs (topS 33)) (defBody (topS 33)) (defScope (topS 33)) .none kV33 dc33 pm33 an33 cd33 ct33)), (34, (PySem.W.fnOf "yearly_costs" "yearly_costs" (defArgs (topS 34)) (defBody (topS 34)) (defScope (topS 34)) .none kV34 dc34 pm34 an34 cd34 ct34)), (35, (PySem.W.fnOf "judge_worth" "judge_worth" (defArgs (topS 35)) (defBody (topS 35)) (defScope (topS 35)) .none kV35 dc35 pm35 an35 cd35 ct35)), (36, (PySem.W.fnOf "best_year" "best_year" (defArgs (topS 36)) (defBody (topS 36)) (defScope (topS 36)) .none kV36 dc36 pm36 an36 cd36 ct36)), (37, (PySem.W.fnOf "later_savings" "later_savings" (defArgs (topS 37)) (defBody (topS 37)) (defScope (topS 37)) .none kV37 dc37 pm37 an37 cd37 ct37)), (38, (PySem.W.fnOf "accept_year" "accept_year" (defArgs (topS 38)) (defBody (topS 38)) (defScope (topS 38)) .none kV38 dc38 pm38 an38 cd38 ct38)), (39, (PySem.W.fnOf "grown_traffic" "grown_traffic" (defArgs (topS 39)) (defBody (topS 39)) (defScope (topS 39)) .none kV39 dc39 pm39 an39 cd39 ct39)), (40, (PySem.W.fnOf "even_payment" "even_payment" (defArgs (topS 40)) (defBody (topS 40)) (defScope (topS 40)) .none kV40 dc40 pm40 an40 cd40 ct40)), (41, (PySem.W.fnOf "debts" "debts" (defArgs (topS 41)) (defBody (topS 41)) (defScope (topS 41)) .none kV41 dc41 pm41 an41 cd41 ct41)), (43, (PySem.W.fnOf "_law_start" "_law_start" (defArgs (topS 43)) (defBody (topS 43)) (defScope (topS 43)) .none kV43 dc43 pm43 an43 cd43 ct43)), (44, (PySem.W.fnOf "_law_draw" "_law_draw" (defArgs (topS 44)) (defBody (topS 44)) (defScope (topS 44)) .none kV44 dc44 pm44 an44 cd44 ct44)), (45, (PySem.W.fnOf "_law_pick" "_law_pick" (defArgs (topS 45)) (defBody (topS 45)) (defScope (topS 45)) .none kV45 dc45 pm45 an45 cd45 ct45)), (46, (PySem.W.fnOf "_law_same" "_law_same" (defArgs (topS 46)) (defBody (topS 46)) (defScope (topS 46)) .none kV46 dc46 pm46 an46 cd46 ct46)), (47, (PySem.W.fnOf "_law_low" "_law_low" (defArgs (topS 47)) (defBody (topS 47)) (defScope (topS 47)) .none kV47 dc47 pm47 an47 cd47 ct47)), (48, (PySem.W.fnOf "_law_plus" "_law_plus" (defArgs (topS 48)) (defBody (topS 48)) (defScope (topS 48)) .none kV48 dc48 pm48 an48 cd48 ct48)), (49, (PySem.W.fnOf "_law_mul" "_law_mul" (defArgs (topS 49)) (defBody (topS 49)) (defScope (topS 49)) .none kV49 dc49 pm49 an49 cd49 ct49)), (50, (PySem.W.fnOf "_law_power" "_law_power" (defArgs (topS 50)) (defBody (topS 50)) (defScope (topS 50)) .none kV50 dc50 pm50 an50 cd50 ct50)), (51, (PySem.W.fnOf "_law_case" "_law_case" (defArgs (topS 51)) (defBody (topS 51)) (defScope (topS 51)) .none kV51 dc51 pm51 an51 cd51 ct51)), (52, (PySem.W.fnOf "_law_savings_hold" "_law_savings_hold" (defArgs (topS 52)) (defBody (topS 52)) (defScope (topS 52)) .none kV52 dc52 pm52 an52 cd52 ct52)), (53, (PySem.W.fnOf "_law_parts_hold" "_law_parts_hold" (defArgs (topS 53)) (defBody (topS 53)) (defScope (topS 53)) .none kV53 dc53 pm53 an53 cd53 ct53)), (54, (PySem.W.fnOf "_law_within" "_law_within" (defArgs (topS 54)) (defBody (topS 54)) (defScope (topS 54)) .none kV54 dc54 pm54 an54 cd54 ct54)), (55, (PySem.W.fnOf "_law_debts_hold" "_law_debts_hold" (defArgs (topS 55)) (defBody (topS 55)) (defScope (topS 55)) .none kV55 dc55 pm55 an55 cd55 ct55)), (56, (PySem.W.fnOf "law" "law" (defArgs (topS 56)) (defBody (topS 56)) (defScope (topS 56)) .none kV56 dc56 pm56 an56 cd56 ct56))] : List (Nat × FuncData)).lookup i).getD (PySem.W.fnOf "is_integer" "is_integer" (defArgs (topS 5)) (defBody (topS 5)) (defScope (topS 5)) .none kV5 dc5 pm5 an5 cd5 ct5))) T ok⟩
end Z
open PySem PySem.W PyProof.Rows
set_option maxHeartbeats 0 in
theorem PySem.Challenge.cw_ferrybook_k22_costs_added_year_by_year_holds : PySem.Challenge.rw_ferrybook_k22_costs_added_year_by_year.Holds := by
  w_on; o_law; k_head; (case hw => w_witness2)
  k_fill
  refine Y.walk_law (l := PySem.Challenge.rw_ferrybook_k22_costs_added_year_by_year) (k := 8) (x := "script") rfl rfl ⟨rfl, by decide, by decide⟩ (fun w h Y => PySem.W.kIn_of Y) ?F
  case F =>
    intro w mg fa h KX G hmg
    refine' Z.all_mk KX G hmg ?a5 ?l5 ?c5 ?k5 ?a9 ?l9 ?c9 ?k9 ?a10 ?l10 ?c10 ?k10 ?a11 ?l11 ?c11 ?k11 ?a12 ?l12 ?c12 ?k12 ?a13 ?l13 ?c13 ?k13 ?a14 ?l14 ?c14 ?k14 ?a15 ?l15 ?c15 ?k15 ?a16 ?l16 ?c16 ?k16 ?a17 ?l17 ?c17 ?k17 ?a18 ?l18 ?c18 ?k18 ?a19 ?l19 ?c19 ?k19 ?a21 ?l21 ?c21 ?k21 ?a22 ?l22 ?c22 ?k22 ?a23 ?l23 ?c23 ?k23 ?a24 ?l24 ?c24 ?k24 ?a25 ?l25 ?c25 ?k25 ?a26 ?l26 ?c26 ?k26 ?a27 ?l27 ?c27 ?k27 ?a28 ?l28 ?c28 ?k28 ?a29 ?l29 ?c29 ?k29 ?a30 ?l30 ?c30 ?k30 ?a31 ?l31 ?c31 ?k31 ?a32 ?l32 ?c32 ?k32 ?a33 ?l33 ?c33 ?k33 ?a34 ?l34 ?c34 ?k34 ?a35 ?l35 ?c35 ?k35 ?a36 ?l36 ?c36 ?k36 ?a37 ?l37 ?c37 ?k37 ?a38 ?l38 ?c38 ?k38 ?a39 ?l39 ?c39 ?k39 ?a40 ?l40 ?c40 ?k40 ?a41 ?l41 ?c41 ?k41 ?a43 ?l43 ?c43 ?k43 ?a44 ?l44 ?c44 ?k44 ?a45 ?l45 ?c45 ?k45 ?a46 ?l46 ?c46 ?k46 ?a47 ?l47 ?c47 ?k47 ?a48 ?l48 ?c48 ?k48 ?a49 ?l49 ?c49 ?k49 ?a50 ?l50 ?c50 ?k50 ?a51 ?l51 ?c51 ?k51 ?a52 ?l52 ?c52 ?k52 ?a53 ?l53 ?c53 ?k53 ?a54 ?l54 ?c54 ?k54 ?a55 ?l55 ?c55 ?k55 ?a56 ?l56 ?c56 ?k56 ?z_abs ?z_all ?z_bool ?z_enumerate ?z_int ?z_isinstance ?z_len ?z_list ?z_range ?z_repr ?z_sum ?z_tuple ?c_MAX_SIZE ?c_MAX_YEARS Z.law_ok
    (case a5 => k_is); (case l5 => k_is); (case c5 => k_is); (case k5 => k_is); (case a9 => k_is); (case l9 => k_is); (case c9 => k_is); (case k9 => k_is); (case a10 => k_is); (case l10 => k_is); (case c10 => k_is); (case k10 => k_is); (case a11 => k_is); (case l11 => k_is); (case c11 => k_is); (case k11 => k_is); (case a12 => k_is); (case l12 => k_is); (case c12 => k_is); (case k12 => k_is); (case a13 => k_is); (case l13 => k_is); (case c13 => k_is); (case k13 => k_is); (case a14 => k_is); (case l14 => k_is); (case c14 => k_is); (case k14 => k_is); (case a15 => k_is); (case l15 => k_is); (case c15 => k_is); (case k15 => k_is); (case a16 => k_is); (case l16 => k_is); (case c16 => k_is); (case k16 => k_is); (case a17 => k_is); (case l17 => k_is); (case c17 => k_is); (case k17 => k_is); (case a18 => k_is); (case l18 => k_is); (case c18 => k_is); (case k18 => k_is); (case a19 => k_is); (case l19 => k_is); (case c19 => k_is); (case k19 => k_is); (case a21 => k_is); (case l21 => k_is); (case c21 => k_is); (case k21 => k_is); (case a22 => k_is); (case l22 => k_is); (case c22 => k_is); (case k22 => k_is); (case a23 => k_is); (case l23 => k_is); (case c23 => k_is); (case k23 => k_is); (case a24 => k_is); (case l24 => k_is); (case c24 => k_is); (case k24 => k_is); (case a25 => k_is); (case l25 => k_is); (case c25 => k_is); (case k25 => k_is); (case a26 => k_is); (case l26 => k_is); (case c26 => k_is); (case k26 => k_is); (case a27 => k_is); (case l27 => k_is); (case c27 => k_is); (case k27 => k_is); (case a28 => k_is); (case l28 => k_is); (case c28 => k_is); (case k28 => k_is); (case a29 => k_is); (case l29 => k_is); (case c29 => k_is); (case k29 => k_is); (case a30 => k_is); (case l30 => k_is); (case c30 => k_is); (case k30 => k_is); (case a31 => k_is); (case l31 => k_is); (case c31 => k_is); (case k31 => k_is); (case a32 => k_is); (case l32 => k_is); (case c32 => k_is); (case k32 => k_is); (case a33 => k_is); (case l33 => k_is); (case c33 => k_is); (case k33 => k_is); (case a34 => k_is); (case l34 => k_is); (case c34 => k_is); (case k34 => k_is); (case a35 => k_is); (case l35 => k_is); (case c35 => k_is); (case k35 => k_is); (case a36 => k_is); (case l36 => k_is); (case c36 => k_is); (case k36 => k_is); (case a37 => k_is); (case l37 => k_is); (case c37 => k_is); (case k37 => k_is); (case a38 => k_is); (case l38 => k_is); (case c38 => k_is); (case k38 => k_is); (case a39 => k_is); (case l39 => k_is); (case c39 => k_is); (case k39 => k_is); (case a40 => k_is); (case l40 => k_is); (case c40 => k_is); (case k40 => k_is); (case a41 => k_is); (case l41 => k_is); (case c41 => k_is); (case k41 => k_is); (case a43 => k_is); (case l43 => k_is); (case c43 => k_is); (case k43 => k_is); (case a44 => k_is); (case l44 => k_is); (case c44 => k_is); (case k44 => k_is); (case a45 => k_is); (case l45 => k_is); (case c45 => k_is); (case k45 => k_is); (case a46 => k_is); (case l46 => k_is); (case c46 => k_is); (case k46 => k_is); (case a47 => k_is); (case l47 => k_is); (case c47 => k_is); (case k47 => k_is); (case a48 => k_is); (case l48 => k_is); (case c48 => k_is); (case k48 => k_is); (case a49 => k_is); (case l49 => k_is); (case c49 => k_is); (case k49 => k_is); (case a50 => k_is); (case l50 => k_is); (case c50 => k_is); (case k50 => k_is); (case a51 => k_is); (case l51 => k_is); (case c51 => k_is); (case k51 => k_is); (case a52 => k_is); (case l52 => k_is); (case c52 => k_is); (case k52 => k_is); (case a53 => k_is); (case l53 => k_is); (case c53 => k_is); (case k53 => k_is); (case a54 => k_is); (case l54 => k_is); (case c54 => k_is); (case k54 => k_is); (case a55 => k_is); (case l55 => k_is); (case c55 => k_is); (case k55 => k_is); (case a56 => k_is); (case l56 => k_is); (case c56 => k_is); (case k56 => k_is); (case z_abs => k_is); (case z_all => k_is); (case z_bool => k_is); (case z_enumerate => k_is); (case z_int => k_is); (case z_isinstance => k_is); (case z_len => k_is); (case z_list => k_is); (case z_range => k_is); (case z_repr => k_is); (case z_sum => k_is); (case z_tuple => k_is); (case c_MAX_SIZE => k_is); (case c_MAX_YEARS => k_is)
